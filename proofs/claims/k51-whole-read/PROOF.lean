import PyProof.Rows.All
import HandS.ForMost
import KE.SortData
import KE.DataMinMax
import KE.DataCmp
import KE.DataFind
import HandS.ForExc
import HandS.HotCalls
import HandS.ExcCtx
import HandS.ExcIs
import HandS.TupSets
import HandS.SortRule
import HandS.Deep
import HandS.Zip
import HandS.Conv
import HandS.TupAny
import HandS.TupMul
import HandS.Strs
import HandS.StrMore
import HandS.DictTup
import HandS.Style
import HandS.Walk
import HandS.HeadEnd
import HandS.Head2
import HandS.HeadHook2
import HandS.IsInst
import KE.GoesMore
import HandS.SetFor
import KE.KeyNested
import PyProof.SeqIndex
import KE.KDictDisplayH
import PyProof.Rows.TupTab
import HandS.Replace
import HandS.Text
import HandS.Words
import PyProof.StrLawsFrom
import PySem.Challenge.RW_wiresquares_k51_whole_read
section
set_option Elab.async false
set_option linter.all false
/-! The small language: what the program's text is read as, and its evaluator. -/
namespace Wq
open PySem
abbrev D := PyData
abbrev Key := L2.Key

/-- a value, a refusal by its class, or nothing that is told -/
inductive R (α : Type) where
  | ok (a : α) | ex (c : Str) | no
namespace R
def bind {α β : Type} (x : R α) (f : α → R β) : R β := match x with
  | .ok a => f a
  | .ex c => .ex c
  | .no => .no
instance : Monad R where
  pure := R.ok
  bind := R.bind
/-- no refusal may pass -/
def calm {α : Type} (x : R α) : R α := match x with
  | .ok a => .ok a
  | _ => .no
@[simp] theorem ok_bind {α β : Type} (a : α) (f : α → R β) : (R.ok a >>= f) = f a := rfl
@[simp] theorem ex_bind {α β : Type} (c : Str) (f : α → R β) : ((R.ex c : R α) >>= f) = .ex c := rfl
@[simp] theorem no_bind {α β : Type} (f : α → R β) : ((R.no : R α) >>= f) = .no := rfl
@[simp] theorem pure_ok {α : Type} (a : α) : (pure a : R α) = .ok a := rfl
@[simp] theorem calm_ok {α : Type} (a : α) : (R.ok a).calm = .ok a := rfl
end R

/-- what a name holds -/
inductive Sl where
  | emp | val (d : D) | own (xs : List D) | dic (kvs : List (List Key × D)) | exc (c : Str)
abbrev En := List Sl

/-- what lists and texts may grow to -/
abbrev LIM : Nat := 16777216

inductive BOp where | add | sub | mul | fdiv | mod
inductive COp where | eq | ne | lt | le | gt | ge | isin | notin
inductive Ty where | int | bool | tuple | list | str
inductive BI where | len | all | sorted | list | tuple | int | str | min1 | max1 | min2 | max2
inductive MK where | index | count | split | join | upper | replace | sindex | tindex
/-- a target: a name's place, or a tuple of such -/
inductive Tg where | nm (i : Nat) | tp (is : List Nat)

mutual
inductive ME where
  | var (i : Nat) | peek (i : Nat) | glo (x : Str)
  | non | bl (b : Bool) | int (i : Int) | str (s : Str)
  | neg (a : ME)
  | tup (es : MEs) | lst (es : MEs)
  | bin (op : BOp) (a b : ME)
  | cmp (op : COp) (a b : ME)
  | chain (o1 o2 : COp) (a b c : ME)
  | isN (a : ME) (neg : Bool) | isB (a : ME) (b : Bool) (neg : Bool)
  | and (es : MEs) | or (es : MEs) | not (a : ME)
  | ife (c a b : ME)
  | idx (a b : ME) | sl (a : ME) (lo hi : MO) | rev (a : ME) | odds (a : ME)
  | call (f : Str) (es : MEs) | callS (fs : List Str) (ix : ME) (es : MEs) | callX (f : Str) (i : Nat)
  | bi (b : BI) (es : MEs)
  | isi (a : ME) (t : Ty) | isx (i : Nat) (c : Str)
  | lenset (a : ME) | sortset (a : ME)
  | lrange (a : ME) | lrange2 (a b : ME) | trange (a : ME) | lzip (a b : ME)
  | mt (k : MK) (o : ME) (es : MEs)
  | dget1 (i : Nat) (k : ME) | dget2 (i : Nat) (k : ME) (v : ME) | ditem (i : Nat) (k : ME) | din (i : Nat) (k : ME) (neg : Bool)
  | lc (elt : ME) (tg : Tg) (it : MI) (cond : MO) (ws : List Nat)
inductive MEs where
  | nil | cons (e : ME) (es : MEs)
inductive MO where
  | none | some (e : ME)
inductive MI where
  | seq (a : ME) | rng (a : ME) | rng2 (a b : ME) | enum (a : ME) | zip (a b : ME)
end

mutual
inductive MS where
  | frz (i : Nat) | fgt (is : List Nat)
  | asg (t : Tg) (e : ME) | asgL (i : Nat) (es : MEs) | asgA (i : Nat) (a b : ME)
  | app (i : Nat) (e : ME) | ext (i : Nat) (e : ME)
  | dnew (i : Nat) | dnew1 (i : Nat) (k v : ME) | dput (i : Nat) (k v : ME)
  | exp (e : ME) | ret (e : ME)
  | ifs (c : ME) (a b : MSs)
  | for_ (t : Tg) (it : MI) (b : MSs)
  | whl (c : ME) (b : MSs)
  | rais (c : Str)
  | try_ (b : MSs) (c : Str) (i : Nat) (h : MSs)
inductive MSs where
  | nil | cons (s : MS) (ss : MSs)
end

/-! ### operations -/
def lim (n : Nat) (d : D) : R D := if n ≤ LIM then .ok d else .no
def addD : D → D → R D
  | .int i, .int j => .ok (.int (i + j))
  | .str a, .str b => lim (a.length + b.length) (.str (a ++ b))
  | .list a, .list b => lim (a.length + b.length) (.list (a ++ b))
  | .tuple a, .tuple b => lim (a.length + b.length) (.tuple (a ++ b))
  | _, _ => .no
def subD : D → D → R D
  | .int i, .int j => .ok (.int (i - j))
  | _, _ => .no
def inB (i : Int) : Bool := decide (-(2 ^ 64) < i) && decide (i < 2 ^ 64)
/-- a few times over -/
def times {α : Type} (k : Int) (xs : List α) : List α := (List.replicate k.toNat xs).flatten
def mulD : D → D → R D
  | .int i, .int j => if inB i || inB j then .ok (.int (i * j)) else .no
  | .list a, .int k => if decide (-1 ≤ k) && decide (k ≤ 1000) && decide (a.length ≤ 1000) then .ok (.list (times k a)) else .no
  | .tuple a, .int k => if decide (2 ≤ k) && decide (k ≤ 1000) && decide (a.length ≤ 1000) && !a.isEmpty then .ok (.tuple (times k a)) else if decide (k = 1) then .ok (.tuple a) else .no
  | .str a, .int k => if decide (0 ≤ k) && decide (k ≤ 1000) && decide (a.length ≤ 1000) then .ok (.str ⟨(times k a.cps.toList).toArray⟩) else .no
  | _, _ => .no
def fdivD : D → D → R D
  | .int i, .int j => if decide (0 < j) && decide (j < 1073741824) then .ok (.int (i / j)) else .no
  | _, _ => .no
def modD : D → D → R D
  | .int i, .int j => if decide (0 < j) then .ok (.int (i % j)) else .no
  | _, _ => .no
def binD : BOp → D → D → R D
  | .add => addD | .sub => subD | .mul => mulD | .fdiv => fdivD | .mod => modD
def negD : D → R D
  | .int i => .ok (.int (-i))
  | _ => .no

def shp (d : D) : Bool := SeqAt.shaped d
mutual
/-- x < y of data that are alike -/
def ltB : D → D → Bool
  | .bool x, .bool y => !x && y
  | .int i, .int j => decide (i < j)
  | .str a, .str b => decide (a.cps.toList < b.cps.toList)
  | .tuple xs, .tuple ys => ltBs xs ys
  | .list xs, .list ys => ltBs xs ys
  | _, _ => false
def ltBs : List D → List D → Bool
  | [], [] => false
  | [], _ :: _ => true
  | _ :: _, [] => false
  | x :: xs, y :: ys => if PyData.eqv x y then ltBs xs ys else ltB x y
end
def notN : D → Bool
  | .none => false
  | _ => true
def eqD (a b : D) : R Bool := if shp a && shp b then .ok (PyData.eqv a b) else .no
def isSub (a b : Str) : Bool := !(Builtin.Str.occurrences b a 0 b.length 1).isEmpty
def inD (a : D) : D → R Bool
  | .list ds => if shp a && shp (.list ds) then .ok (ds.any fun z => PyData.eqv z a) else .no
  | .tuple ds => if shp a && shp (.tuple ds) then .ok (ds.any fun z => PyData.eqv z a) else .no
  | .str t => (match a with
    | .str s => .ok (isSub s t)
    | _ => .no)
  | _ => .no
def ofO {α : Type} : Option α → R α
  | some a => .ok a
  | none => .no
def cmpD : COp → D → D → R Bool
  | .eq, a, b => eqD a b
  | .ne, a, b => (eqD a b).bind fun k => .ok (!k)
  | .lt, a, b => if shp a && shp b && notN a && PySem.W.alike a b then .ok (ltB a b) else .no
  | .le, .int i, .int j => .ok (decide (i ≤ j))
  | .le, .str a, .str b => .ok (!decide (b.cps.toList < a.cps.toList))
  | .gt, .int i, .int j => .ok (decide (j < i))
  | .ge, .int i, .int j => .ok (decide (j ≤ i))
  | .isin, a, b => inD a b
  | .notin, a, b => (inD a b).bind fun k => .ok (!k)
  | _, _, _ => .no
def tru : D → R Bool
  | .bool b => .ok b
  | _ => .no
/-- the place that an index names -/
def ixD {α : Type} (xs : List α) (i : Int) : Option α := L2.atI xs i
def idxD : D → D → R D
  | .list xs, .int i => ofO (ixD xs i)
  | .tuple xs, .int i => ofO (ixD xs i)
  | .str z, .int i => if z.length ≤ LIM then (match ixD z.cps.toList i with
    | some c => .ok (.str ⟨#[c]⟩)
    | none => .no) else .no
  | _, _ => .no
/-- xs[lo:hi] -/
def cut {α : Type} (xs : List α) (lo hi : Option Int) : List α :=
  (xs.drop (HT.sIx xs.length 0 lo)).take (HT.sIx xs.length xs.length hi - HT.sIx xs.length 0 lo)
def slD (lo hi : Option Int) : D → R D
  | .list xs => .ok (.list (cut xs lo hi))
  | .tuple xs => .ok (.tuple (cut xs lo hi))
  | .str z => if z.length ≤ LIM then .ok (.str ⟨(cut z.cps.toList lo hi).toArray⟩) else .no
  | _ => .no
/-- xs[1::2] -/
def oddL {α : Type} : List α → List α
  | _ :: y :: r => y :: oddL r
  | _ => []
def revD : D → R D
  | .list xs => .ok (.list xs.reverse)
  | .tuple xs => .ok (.tuple xs.reverse)
  | _ => .no
def oddD : D → R D
  | .tuple xs => .ok (.tuple (oddL xs))
  | _ => .no
/-- is True, is not True .. -/
def isbD (b n : Bool) : D → R D
  | .bool k => .ok (.bool (n != decide (k = b)))
  | .int _ => .ok (.bool n)
  | _ => .no
def isiD : Ty → D → Bool
  | .int, .int _ => true
  | .int, .bool _ => true
  | .bool, .bool _ => true
  | .tuple, .tuple _ => true
  | .list, .list _ => true
  | .str, .str _ => true
  | _, _ => false

/-! ### order -/
def ins (x : D) : List D → List D
  | [] => [x]
  | y :: ys => if ltB y x then y :: ins x ys else x :: y :: ys
/-- in order; equal ones in their order -/
def isort : List D → List D
  | [] => []
  | x :: xs => ins x (isort xs)
/-- all of them are to be compared with one another -/
def cmpl (xs : List D) : Bool := xs.all fun x => shp x && notN x && xs.all fun y => PySem.W.alike x y
def isTup : D → Bool
  | .tuple _ => true
  | _ => false
def tupNe : D → Bool
  | .tuple (_ :: _) => true
  | _ => false
def sortD (xs : List D) : R (List D) := if cmpl xs then .ok (isort xs) else .no
def dedup : List D → List D
  | [] => []
  | x :: xs => if xs.any fun y => PyData.eqv y x then dedup xs else x :: dedup xs
mutual
/-- what a set of them is told of: whole numbers, texts, tuples of such -/
def hsh : D → Bool
  | .int _ => true
  | .str _ => true
  | .tuple xs => hshAll xs
  | _ => false
def hshAll : List D → Bool
  | [] => true
  | x :: xs => hsh x && hshAll xs
end
def isInt : D → Bool
  | .int _ => true
  | _ => false
def intTup : D → Bool
  | .tuple xs => xs.all isInt
  | _ => false
/-- tuples of numbers, texts, such tuples -/
def hTup (d : D) : Bool := match d with
  | .tuple xs => hshAll xs && decide ((PyData.tuple xs).depth ≤ 8)
  | _ => false
theorem hTup_int {d : D} (h : intTup d = true) : hTup d = true := by
  cases d with
  | tuple xs =>
    have h : xs.all isInt = true := h
    have : ∀ l : List D, l.all isInt = true → hshAll l = true ∧ PyData.depthAll l = 0 := fun l => by
      induction l with
      | nil => intro _; exact ⟨rfl, rfl⟩
      | cons y l ih =>
        intro hl
        simp only [List.all_cons, Bool.and_eq_true] at hl
        obtain ⟨i1, i2⟩ := ih hl.2
        cases y with
        | int k => exact ⟨by simp [hshAll, hsh, i1], by simp [PyData.depthAll, PyData.depth, i2]⟩
        | _ => cases hl.1
    obtain ⟨h1, h2⟩ := this xs h
    simp [hTup, h1, PyData.depth, h2]
  | _ => cases h
/-- sets that are told of -/
def setOk (xs : List D) : Bool := (xs.all isInt && decide (xs.length < 4000)) || (xs.all hTup && decide (xs.length < 64))
def itemsD : D → Option (List D)
  | .list xs => some xs
  | .tuple xs => some xs
  | _ => none
def allB : List D → Option Bool
  | [] => some true
  | .bool b :: xs => (allB xs).map fun k => b && k
  | _ :: _ => none
def minD : List D → R D
  | [] => .no
  | x :: xs => if cmpl (x :: xs) then .ok (xs.foldl (fun a y => if ltB y a then y else a) x) else .no
def maxD : List D → R D
  | [] => .no
  | x :: xs => if cmpl (x :: xs) then .ok (xs.foldl (fun a y => if ltB a y then y else a) x) else .no
def biD : BI → List D → R D
  | .len, [.str z] => if z.length ≤ LIM then .ok (.int z.length) else .no
  | .len, [.list xs] => .ok (.int xs.length)
  | .len, [.tuple xs] => .ok (.int xs.length)
  | .all, [.list xs] => (ofO (allB xs)).bind fun b => .ok (.bool b)
  | .sorted, [.list xs] => (sortD xs).bind fun ys => .ok (.list ys)
  | .sorted, [.tuple xs] => (sortD xs).bind fun ys => .ok (.list ys)
  | .list, [.list xs] => .ok (.list xs)
  | .list, [.tuple xs] => .ok (.list xs)
  | .tuple, [.list xs] => .ok (.tuple xs)
  | .tuple, [.tuple xs] => .ok (.tuple xs)
  | .int, [.bool b] => .ok (.int (if b then 1 else 0))
  | .int, [.str z] => if decide (z.length ≤ 640) then (ofO (PySem.intText? z)).bind fun n => .ok (.int n) else .no
  | .str, [.int i] => if decide (0 ≤ i) && decide (i < 1000) then .ok (.str (toString i)) else .no
  | .min1, [.list xs] => minD xs
  | .max1, [.list xs] => maxD xs
  | .max1, [.tuple xs] => maxD xs
  | .min2, [.int i, .int j] => .ok (.int (if j < i then j else i))
  | .max2, [.int i, .int j] => .ok (.int (if j > i then j else i))
  | _, _ => .no
def rangeL (a b : Int) : List D := (List.range (b - a).toNat).map fun i => .int (a + (i : Nat))
def rgOk (a b : Int) : Bool := decide (-(2 ^ 62) ≤ a) && decide (a < 2 ^ 62) && decide (-(2 ^ 62) ≤ b) && decide (b < 2 ^ 62) && decide ((b - a).toNat ≤ LIM)
def rangeD (a b : Int) : R (List D) := if rgOk a b then .ok (rangeL a b) else .no
def toI : D → R Int
  | .int i => .ok i
  | _ => .no
def zipD : List D → List D → List D
  | x :: xs, y :: ys => .tuple [x, y] :: zipD xs ys
  | _, _ => []
def zipT : D → D → R (List D)
  | .tuple xs, .tuple ys => .ok (zipD xs ys)
  | _, _ => .no
def zipA : D → D → R (List D)
  | .tuple xs, .tuple ys => .ok (zipD xs ys)
  | .list xs, .list ys => .ok (zipD xs ys)
  | _, _ => .no
def enumD (k : Nat) : List D → List D
  | [] => []
  | x :: xs => .tuple [.int (k : Nat), x] :: enumD (k + 1) xs
def toStrs : List D → Option (List Str)
  | [] => some []
  | .str s :: xs => (toStrs xs).map fun r => s :: r
  | _ => none
/-- of what kind of value the method is told of -/
def mtO : MK → D → Bool
  | .index, .list _ => true
  | .count, .list _ => true
  | .split, .str _ => true
  | .join, .str _ => true
  | .upper, .str _ => true
  | .sindex, .str _ => true
  | .tindex, .tuple _ => true
  | _, _ => false
def mtD : MK → D → List D → R D
  | .index, .list xs, [a] => if shp a && shp (.list xs) then (ofO (SeqAt.dataPlace xs a)).bind fun k => .ok (.int (k : Nat)) else .no
  | .count, .list xs, [a] => if shp a && shp (.list xs) then .ok (.int ((xs.countP fun z => PyData.eqv z a) : Nat)) else .no
  | .split, .str a, [.str b] => if decide (b.length ≠ 0) && decide (a.length ≤ 1000000) then .ok (.list ((Txt.split a b).map .str)) else .no
  | .join, .str a, [.list xs] => (ofO (toStrs xs)).bind fun ys => if decide ((ys.map (·.length)).sum + ys.length * a.length ≤ 16777216) then .ok (.str (Txt.join a ys)) else .no
  | .upper, .str a, [] => if decide (a.length ≤ 1000000) then .ok (.str (Txt.upper a)) else .no
  | .sindex, .str a, [.str b] => (ofO (Builtin.Str.occurrences a b 0 a.length 1).head?).bind fun k => .ok (.int (k : Nat))
  | .tindex, .tuple xs, [.str b] => (ofO (toStrs xs)).bind fun ys => (ofO (ys.findIdx? fun y => decide (y = b))).bind fun k => .ok (.int (k : Nat))
  | _, _, _ => .no
def toKey : D → Option Key
  | .int i => some (.inl i)
  | .str s => some (.inr s)
  | _ => none
def toKeys : List D → Option (List Key)
  | [] => some []
  | x :: xs => (toKey x).bind fun k => (toKeys xs).map fun ks => k :: ks
def keyD : D → R (List Key)
  | .tuple xs => ofO (toKeys xs)
  | _ => .no
def dlook (kvs : List (List Key × D)) (k : List Key) : Option D := (kvs.find? fun p => decide (p.1 = k)).map (·.2)
def dputL (kvs : List (List Key × D)) (k : List Key) (v : D) : List (List Key × D) := match kvs with
  | [] => [(k, v)]
  | p :: r => if p.1 = k then (p.1, v) :: r else p :: dputL r k v

/-! ### names -/
def getV (ρ : En) (i : Nat) : R D := match ρ[i]? with
  | some (.val d) => .ok d
  | _ => .no
def getP (ρ : En) (i : Nat) : R D := match ρ[i]? with
  | some (.val d) => .ok d
  | some (.own xs) => .ok (.list xs)
  | _ => .no
def getD' (ρ : En) (i : Nat) : R (List (List Key × D)) := match ρ[i]? with
  | some (.dic kvs) => .ok kvs
  | _ => .no
def getX (ρ : En) (i : Nat) : R Str := match ρ[i]? with
  | some (.exc c) => .ok c
  | _ => .no
def setAll : List Nat → List D → En → R En
  | [], [], ρ => .ok ρ
  | i :: is, d :: ds, ρ => setAll is ds (ρ.set i (.val d))
  | _, _, _ => .no
def bindT : Tg → D → En → R En
  | .nm i, d, ρ => .ok (ρ.set i (.val d))
  | .tp is, .tuple ds, ρ => setAll is ds ρ
  | .tp _, _, _ => .no
def wipe (ρ : En) : List Nat → En
  | [] => ρ
  | v :: vs => (wipe ρ vs).set v .emp

/-- what is around: defs by their names, constants, which refusal is which -/
structure Cv where
  cal : Str → List D → R D
  calx : Str → Str → R D
  gc : List (Str × D)
  sub : Str → Str → Bool
  xs : List Str

def lcLoop (f : D → R (Option D)) : List D → R (List D)
  | [] => .ok []
  | x :: xs => (f x).bind fun r => (lcLoop f xs).bind fun rest => .ok (match r with
    | some d => d :: rest
    | none => rest)

section
variable (c : Cv)
mutual
def evE : ME → En → R D
  | .var i, ρ => getV ρ i
  | .peek i, ρ => getP ρ i
  | .glo x, _ => ofO (c.gc.lookup x)
  | .non, _ => .ok .none
  | .bl b, _ => .ok (.bool b)
  | .int i, _ => .ok (.int i)
  | .str s, _ => .ok (.str s)
  | .neg a, ρ => (evE a ρ).bind negD
  | .tup es, ρ => (evEs es ρ).bind fun ds => .ok (.tuple ds)
  | .lst es, ρ => (evEs es ρ).bind fun ds => .ok (.list ds)
  | .bin op a b, ρ => (evE a ρ).bind fun x => (evE b ρ).bind fun y => binD op x y
  | .cmp op a b, ρ => (evE a ρ).bind fun x => (evE b ρ).bind fun y => (cmpD op x y).bind fun k => .ok (.bool k)
  | .chain o1 o2 a b e, ρ => (evE a ρ).bind fun x => (evE b ρ).bind fun y => (cmpD o1 x y).bind fun k =>
      if k then (evE e ρ).bind fun z => (cmpD o2 y z).bind fun k2 => .ok (.bool k2) else .ok (.bool false)
  | .isN a n, ρ => (evE a ρ).bind fun x => .ok (.bool (n == notN x))
  | .isB a b n, ρ => (evE a ρ).bind fun x => isbD b n x
  | .and es, ρ => evAnd es ρ
  | .or es, ρ => evOr es ρ
  | .not a, ρ => (evE a ρ).bind fun x => (tru x).bind fun k => .ok (.bool (!k))
  | .ife t a b, ρ => (evE t ρ).bind fun x => (tru x).bind fun k => if k then evE a ρ else evE b ρ
  | .idx a b, ρ => (evE a ρ).bind fun x => (evE b ρ).bind fun y => idxD x y
  | .sl a lo hi, ρ => (evE a ρ).bind fun x => (evO lo ρ).bind fun l => (evO hi ρ).bind fun h => slD l h x
  | .rev a, ρ => (evE a ρ).bind revD
  | .odds a, ρ => (evE a ρ).bind oddD
  | .call f es, ρ => (evEs es ρ).bind fun ds => c.cal f ds
  | .callS fs ix es, ρ => (evE ix ρ).bind fun i => (toI i).bind fun n => (ofO (ixD fs n)).bind fun f => (evEs es ρ).bind fun ds => c.cal f ds
  | .callX f i, ρ => (getX ρ i).bind fun cl => c.calx f cl
  | .bi b es, ρ => (evEs es ρ).bind fun ds => biD b ds
  | .isi a t, ρ => (evE a ρ).bind fun x => .ok (.bool (isiD t x))
  | .isx i cl, ρ => (getX ρ i).bind fun k => .ok (.bool (c.sub k cl))
  | .lenset a, ρ => (evE a ρ).bind fun x => (ofO (itemsD x)).bind fun xs => if setOk xs then .ok (.int ((dedup xs).length : Nat)) else .no
  | .sortset a, ρ => (evE a ρ).bind fun x => (ofO (itemsD x)).bind fun xs => if setOk xs then (sortD (dedup xs)).bind fun ys => .ok (.list ys) else .no
  | .lrange a, ρ => (evE a ρ).bind fun x => (toI x).bind fun n => (rangeD 0 n).bind fun xs => .ok (.list xs)
  | .lrange2 a b, ρ => (evE a ρ).bind fun x => (evE b ρ).bind fun y => (toI x).bind fun n => (toI y).bind fun m => (rangeD n m).bind fun xs => .ok (.list xs)
  | .trange a, ρ => (evE a ρ).bind fun x => (toI x).bind fun n => (rangeD 0 n).bind fun xs => .ok (.tuple xs)
  | .lzip a b, ρ => (evE a ρ).bind fun x => (evE b ρ).bind fun y => (zipT x y).bind fun zs => .ok (.list zs)
  | .mt k o es, ρ => (evE o ρ).bind fun x => if mtO k x then (evEs es ρ).bind fun ds => mtD k x ds else .no
  | .dget1 i k, ρ => (getD' ρ i).bind fun kvs => (evE k ρ).bind fun x => (keyD x).bind fun q => .ok ((dlook kvs q).getD .none)
  | .dget2 i k v, ρ => (getD' ρ i).bind fun kvs => (evE k ρ).bind fun x => (evE v ρ).bind fun y => (keyD x).bind fun q => .ok ((dlook kvs q).getD y)
  | .ditem i k, ρ => (getD' ρ i).bind fun kvs => (evE k ρ).bind fun x => (keyD x).bind fun q => ofO (dlook kvs q)
  | .din i k n, ρ => (evE k ρ).bind fun x => (getD' ρ i).bind fun kvs => (keyD x).bind fun q => .ok (.bool (n != (dlook kvs q).isSome))
  | .lc elt tg it cond ws, ρ => (evI it ρ).bind fun xs => (lcLoop (fun x => ((bindT tg x (wipe ρ ws)).bind fun ρ' =>
      (evC cond ρ').bind fun k => if k then (evE elt ρ').bind fun d => .ok (some d) else .ok none).calm) xs).bind fun ds => .ok (.list ds)
def evEs : MEs → En → R (List D)
  | .nil, _ => .ok []
  | .cons e es, ρ => (evE e ρ).bind fun d => (evEs es ρ).bind fun ds => .ok (d :: ds)
def evAnd : MEs → En → R D
  | .nil, _ => .no
  | .cons e .nil, ρ => (evE e ρ).bind fun x => (tru x).bind fun k => .ok (.bool k)
  | .cons e es, ρ => (evE e ρ).bind fun x => (tru x).bind fun k => if k then evAnd es ρ else .ok (.bool false)
def evOr : MEs → En → R D
  | .nil, _ => .no
  | .cons e .nil, ρ => (evE e ρ).bind fun x => (tru x).bind fun k => .ok (.bool k)
  | .cons e es, ρ => (evE e ρ).bind fun x => (tru x).bind fun k => if k then .ok (.bool true) else evOr es ρ
def evO : MO → En → R (Option Int)
  | .none, _ => .ok none
  | .some e, ρ => (evE e ρ).bind fun x => (toI x).bind fun n => .ok (some n)
/-- a comprehension's test -/
def evC : MO → En → R Bool
  | .none, _ => .ok true
  | .some e, ρ => (evE e ρ).bind fun x => tru x
/-- what is walked -/
def evI : MI → En → R (List D)
  | .seq a, ρ => (evE a ρ).bind fun x => ofO (itemsD x)
  | .rng a, ρ => (evE a ρ).bind fun x => (toI x).bind fun n => rangeD 0 n
  | .rng2 a b, ρ => (evE a ρ).bind fun x => (evE b ρ).bind fun y => (toI x).bind fun n => (toI y).bind fun m => rangeD n m
  | .enum a, ρ => (evE a ρ).bind fun x => (ofO (itemsD x)).bind fun xs => .ok (enumD 0 xs)
  | .zip a b, ρ => (evE a ρ).bind fun x => (evE b ρ).bind fun y => zipA x y
end
end

/-- how a statement ends -/
inductive Fl where
  | nx (ρ : En) | rt (d : D) | ex (c : Str) (ρ : En) | no
def R.fl {α : Type} (x : R α) (ρ : En) (f : α → Fl) : Fl := match x with
  | .ok a => f a
  | .ex c => .ex c ρ
  | .no => .no
def forLoop (b : D → En → Fl) : List D → En → Fl
  | [], ρ => .nx ρ
  | x :: xs, ρ => match b x ρ with
    | .nx ρ' => forLoop b xs ρ'
    | r => r
def whLoop (t : En → R Bool) (b : En → Fl) : Nat → En → Fl
  | 0, _ => .no
  | n + 1, ρ => (t ρ).fl ρ fun k => if k then (match b ρ with
    | .nx ρ' => whLoop t b n ρ'
    | r => r) else .nx ρ
/-- no refusal is held -/
def isX : Sl → Bool
  | .exc _ => true
  | _ => false
def noX (ρ : En) : Bool := ρ.all fun x => !isX x
def frzE (ρ : En) (i : Nat) : Fl := match ρ[i]? with
  | some (.own xs) => .nx (ρ.set i (.val (.list xs)))
  | some (.val _) => .nx ρ
  | _ => .no
def ownL (ρ : En) (i : Nat) : Bool := match ρ[i]? with
  | some (.own _) => true
  | _ => false
def appE (ρ : En) (i : Nat) (ys : List D) : Fl := match ρ[i]? with
  | some (.own xs) => if xs.length + ys.length < LIM then .nx (ρ.set i (.own (xs ++ ys))) else .no
  | _ => .no
section
variable (c : Cv)
mutual
def exS : MS → En → Fl
  | .frz i, ρ => frzE ρ i
  | .fgt is, ρ => .nx (wipe ρ is)
  | .asg t e, ρ => (evE c e ρ).fl ρ fun d => (bindT t d ρ).fl ρ .nx
  | .asgL i es, ρ => (evEs c es ρ).fl ρ fun ds => .nx (ρ.set i (.own ds))
  | .asgA i a b, ρ => (evE c a ρ).fl ρ fun x => (evE c b ρ).fl ρ fun y => match x, y with
    | .list xs, .list ys => if xs.length + ys.length ≤ LIM then .nx (ρ.set i (.own (xs ++ ys))) else .no
    | _, _ => .no
  | .app i e, ρ => if ownL ρ i then (evE c e ρ).fl ρ fun d => appE ρ i [d] else .no
  | .ext i e, ρ => if ownL ρ i then (evE c e ρ).fl ρ fun d => match d with
    | .list ys => appE ρ i ys
    | _ => .no
    else .no
  | .dnew i, ρ => .nx (ρ.set i (.dic []))
  | .dnew1 i k v, ρ => (evE c k ρ).fl ρ fun x => (evE c v ρ).fl ρ fun y => (keyD x).fl ρ fun q => .nx (ρ.set i (.dic [(q, y)]))
  | .dput i k v, ρ => (evE c v ρ).fl ρ fun y => (getD' ρ i).fl ρ fun kvs => (evE c k ρ).fl ρ fun x => (keyD x).fl ρ fun q =>
      if kvs.length < 100000 then .nx (ρ.set i (.dic (dputL kvs q y))) else .no
  | .exp e, ρ => (evE c e ρ).fl ρ fun _ => .nx ρ
  | .ret e, ρ => (evE c e ρ).fl ρ .rt
  | .ifs t a b, ρ => ((evE c t ρ).bind tru).fl ρ fun k => if k then exSs a ρ else exSs b ρ
  | .for_ t it b, ρ => (evI c it ρ).fl ρ fun xs => forLoop (fun x ρ => (bindT t x ρ).fl ρ fun ρ' => exSs b ρ') xs ρ
  | .whl t b, ρ => whLoop (fun ρ => (evE c t ρ).bind tru) (exSs b) 1000 ρ
  | .rais cl, ρ => .ex cl ρ
  | .try_ b cl i h, ρ => match exSs b ρ with
    | .ex k ρ' => if c.xs.contains k then (if c.sub k cl then (match exSs h (ρ'.set i (.exc k)) with
        | .nx ρ'' => if noX (ρ''.set i .emp) then .nx (ρ''.set i .emp) else .no
        | .rt d => .rt d
        | _ => .no) else .ex k ρ') else .no
    | r => r
def exSs : MSs → En → Fl
  | .nil, ρ => .nx ρ
  | .cons s ss, ρ => match exS s ρ with
    | .nx ρ' => exSs ss ρ'
    | r => r
end
end

/-- a def: how many parameters, all its names (these first), its body -/
structure Fd where
  np : Nat
  N : List Str
  body : MSs
abbrev FT := List (Str × Fd)
def endR : Fl → R D
  | .nx _ => .ok .none
  | .rt d => .ok d
  | .ex c _ => .ex c
  | .no => .no
def startE (n : Nat) (ds : List D) : En := ds.map Sl.val ++ List.replicate (n - ds.length) Sl.emp
section
variable (T : FT) (gc : List (Str × D)) (sub : Str → Str → Bool) (xs : List Str)
def cvN : Nat → Cv
  | 0 => ⟨fun _ _ => .no, fun _ _ => .no, gc, sub, xs⟩
  | k + 1 => ⟨fun f ds => match T.lookup f with
      | some fd => if ds.length = fd.np then endR (exSs (cvN k) fd.body (startE fd.N.length ds)) else .no
      | none => .no,
    fun f cl => match T.lookup f with
      | some fd => if fd.np = 1 then endR (exSs (cvN k) fd.body (Sl.exc cl :: List.replicate (fd.N.length - 1) Sl.emp)) else .no
      | none => .no, gc, sub, xs⟩
end
end Wq

end
section
set_option Elab.async false
set_option linter.all false
set_option autoImplicit false
set_option maxRecDepth 100000
/-! Working with the evaluator: steps for simp, loops, comprehensions. -/
namespace Wq
open PySem
section
variable {c : Cv}
@[simp] theorem bind_ok' {α β : Type} (a : α) (f : α → R β) : (R.ok a).bind f = f a := Eq.trans rfl rfl
@[simp] theorem bind_ex' {α β : Type} (k : Str) (f : α → R β) : (R.ex k : R α).bind f = .ex k := Eq.trans rfl rfl
@[simp] theorem bind_no' {α β : Type} (f : α → R β) : (R.no : R α).bind f = .no := Eq.trans rfl rfl
@[simp] theorem fl_ok {α : Type} (a : α) (ρ : En) (f : α → Fl) : (R.ok a).fl ρ f = f a := Eq.trans rfl rfl
@[simp] theorem fl_ex {α : Type} (k : Str) (ρ : En) (f : α → Fl) : (R.ex k : R α).fl ρ f = .ex k ρ := Eq.trans rfl rfl
@[simp] theorem fl_no {α : Type} (ρ : En) (f : α → Fl) : (R.no : R α).fl ρ f = .no := Eq.trans rfl rfl
@[simp] theorem tru_b (b : Bool) : tru (.bool b) = .ok b := Eq.trans rfl rfl
@[simp] theorem ofO_s {α : Type} (a : α) : ofO (some a) = .ok a := Eq.trans rfl rfl
@[simp] theorem toI_i (i : Int) : toI (.int i) = .ok i := Eq.trans rfl rfl
@[simp] theorem endR_nx (ρ : En) : endR (.nx ρ) = .ok .none := Eq.trans rfl rfl
@[simp] theorem endR_rt (d : D) : endR (.rt d) = .ok d := Eq.trans rfl rfl
@[simp] theorem endR_ex (k : Str) (ρ : En) : endR (.ex k ρ) = .ex k := Eq.trans rfl rfl
@[simp] theorem endR_no : endR .no = .no := Eq.trans rfl rfl
@[simp] theorem getV0 (d : D) (ρ : En) : getV (.val d :: ρ) 0 = .ok d := Eq.trans rfl rfl
@[simp] theorem getVs (x : Sl) (ρ : En) (i : Nat) : getV (x :: ρ) (i + 1) = getV ρ i := Eq.trans rfl rfl
@[simp] theorem getP0 (d : D) (ρ : En) : getP (.val d :: ρ) 0 = .ok d := Eq.trans rfl rfl
@[simp] theorem getP0' (d : List D) (ρ : En) : getP (.own d :: ρ) 0 = .ok (.list d) := Eq.trans rfl rfl
@[simp] theorem getPs (x : Sl) (ρ : En) (i : Nat) : getP (x :: ρ) (i + 1) = getP ρ i := Eq.trans rfl rfl
/-- a block's first statement -/
theorem ss_cons (s : MS) (ss : MSs) (ρ : En) : exSs c (.cons s ss) ρ = match exS c s ρ with
    | .nx ρ' => exSs c ss ρ'
    | r => r := by
  rw [exSs]
  all_goals (cases exS c s ρ <;> rfl)
theorem ss_nil (ρ : En) : exSs c .nil ρ = .nx ρ := by rw [exSs]
/-- one behind another -/
def Fl.then (r : Fl) (f : En → Fl) : Fl := match r with
  | .nx ρ => f ρ
  | r => r
@[simp] theorem then_nx (ρ : En) (f : En → Fl) : (Fl.nx ρ).then f = f ρ := Eq.trans rfl rfl
@[simp] theorem then_rt (d : D) (f : En → Fl) : (Fl.rt d).then f = .rt d := Eq.trans rfl rfl
@[simp] theorem then_ex (k : Str) (ρ : En) (f : En → Fl) : (Fl.ex k ρ).then f = .ex k ρ := Eq.trans rfl rfl
@[simp] theorem then_no (f : En → Fl) : Fl.no.then f = .no := Eq.trans rfl rfl
theorem ssc (s : MS) (ss : MSs) (ρ : En) : exSs c (.cons s ss) ρ = (exS c s ρ).then (exSs c ss) := by
  rw [ss_cons]
  cases exS c s ρ <;> rfl
@[simp] theorem ite_then (p : Prop) [Decidable p] (a b : Fl) (f : En → Fl) : (if p then a else b).then f = if p then a.then f else b.then f := by split <;> rfl
@[simp] theorem ite_bind {α β : Type} (p : Prop) [Decidable p] (a b : R α) (f : α → R β) : (if p then a else b).bind f = if p then a.bind f else b.bind f := by split <;> rfl
@[simp] theorem ite_fl {α : Type} (p : Prop) [Decidable p] (a b : R α) (ρ : En) (f : α → Fl) : (if p then a else b).fl ρ f = if p then a.fl ρ f else b.fl ρ f := by split <;> rfl
@[simp] theorem ite_endR (p : Prop) [Decidable p] (a b : Fl) : endR (if p then a else b) = if p then endR a else endR b := by split <;> rfl
/-! ### walks -/
theorem for_nil (b : D → En → Fl) (ρ : En) : forLoop b [] ρ = .nx ρ := rfl
theorem for_cons (b : D → En → Fl) (x : D) (xs : List D) (ρ : En) : forLoop b (x :: xs) ρ = (b x ρ).then (forLoop b xs) := by
  show (match b x ρ with
    | .nx ρ' => forLoop b xs ρ'
    | r => r) = _
  cases b x ρ <;> rfl
/-- the environment as a function of a state -/
theorem for_st {α : Type} {b : D → En → Fl} {e : α → En} {f : α → D → α} {xs : List D} (P : α → Prop) (h : ∀ a, P a → ∀ x ∈ xs, b x (e a) = .nx (e (f a x)) ∧ P (f a x)) : ∀ a, P a → forLoop b xs (e a) = .nx (e (xs.foldl f a)) ∧ P (xs.foldl f a) := by
  induction xs with
  | nil => intro a ha; exact ⟨rfl, ha⟩
  | cons x xs ih =>
    intro a ha
    obtain ⟨h1, h2⟩ := h a ha x (by simp)
    rw [for_cons, h1]
    exact ih (fun a ha y hy => h a ha y (by simp [hy])) _ h2
/-- the environment as a function of a state, the turns counted -/
theorem for_ct {α : Type} {b : D → En → Fl} {e : α → En} {f : α → D → α} : ∀ {xs : List D} (P : Nat → α → Prop), (∀ i a x, xs[i]? = some x → P i a → b x (e a) = .nx (e (f a x)) ∧ P (i + 1) (f a x)) → ∀ a, P 0 a → forLoop b xs (e a) = .nx (e (xs.foldl f a)) ∧ P xs.length (xs.foldl f a)
  | [], P, _, a, ha => ⟨rfl, ha⟩
  | x :: xs, P, h, a, ha => by
    obtain ⟨h1, h2⟩ := h 0 a x rfl ha
    rw [for_cons, h1]
    exact for_ct (xs := xs) (fun i => P (i + 1)) (fun i a y hy hp => h (i + 1) a y hy hp) _ h2
/-- a walk that gathers into a list of one's own: behind it the name walked may hold anything -/
theorem for_app {b : D → En → Fl} {e : List D → Sl → En} {g : D → Option D} {xs : List D} (hl : xs.length < LIM) (h : ∀ acc l x, x ∈ xs → acc.length < xs.length → b x (e acc l) = .nx (e (acc ++ (g x).toList) (.val x))) (l : Sl) :
    ∃ l', forLoop b xs (e [] l) = .nx (e (xs.filterMap g) l') := by
  have key := for_ct (b := b) (e := fun p : List D × Sl => e p.1 p.2) (f := fun p x => (p.1 ++ (g x).toList, .val x)) (xs := xs) (fun i p => p.1.length ≤ i) (fun i a x hx hp => ⟨h a.1 a.2 x (List.mem_of_getElem? hx) (by
    have := (List.getElem?_eq_some_iff.mp hx).1
    omega), by
      rw [List.length_append]
      cases g x <;> simp <;> omega⟩) ([], l) (Nat.le_refl _)
  have fold : ∀ (ys : List D) (acc : List D) (l : Sl), (ys.foldl (fun (p : List D × Sl) x => (p.1 ++ (g x).toList, Sl.val x)) (acc, l)).1 = acc ++ ys.filterMap g := fun ys => by
    induction ys with
    | nil => intro acc l; simp
    | cons y ys ih =>
      intro acc l
      rw [List.foldl_cons, ih]
      simp only [List.filterMap_cons]
      cases g y <;> simp
  refine ⟨(xs.foldl (fun (p : List D × Sl) x => (p.1 ++ (g x).toList, Sl.val x)) ([], l)).2, ?_⟩
  have k1 := key.1
  rw [fold] at k1
  simpa using k1
theorem lc_ok {f : D → R (Option D)} {g : D → Option D} : ∀ {xs : List D}, (∀ x ∈ xs, f x = .ok (g x)) → lcLoop f xs = .ok (xs.filterMap g)
  | [], _ => rfl
  | x :: xs, h => by
    have ih : lcLoop f xs = .ok (xs.filterMap g) := lc_ok fun y hy => h y (by simp [hy])
    simp only [lcLoop, h x (by simp), ih, bind_ok', List.filterMap_cons]
    cases g x <;> rfl
/-- a comprehension by what it does with each item -/
theorem ev_lc {elt : ME} {t : Tg} {it : MI} {cond : MO} {ws : List Nat} {ρ : En} {xs : List D} (g : D → Option D) (hI : evI c it ρ = .ok xs)
    (h : ∀ x ∈ xs, ((bindT t x (wipe ρ ws)).bind fun ρ' => (evC c cond ρ').bind fun k => if k then (evE c elt ρ').bind fun d => .ok (some d) else .ok none) = .ok (g x)) : evE c (.lc elt t it cond ws) ρ = .ok (.list (xs.filterMap g)) := by
  rw [evE, hI]
  simp only [bind_ok']
  rw [lc_ok (g := g) fun x hx => by rw [h x hx]; rfl]
  rfl
/-! ### comparisons -/
@[simp] theorem shp_int (a : Int) : shp (.int a) = true := by simp [shp, SeqAt.shaped, PyData.canLay0, PyData.depth]
theorem shp_str {a : Str} (h : PyData.strOk a = true) : shp (.str a) = true := by simp [shp, SeqAt.shaped, PyData.canLay0, PyData.depth, h]
@[simp] theorem shp_bool (a : Bool) : shp (.bool a) = true := by simp [shp, SeqAt.shaped, PyData.canLay0, PyData.depth]
@[simp] theorem shp_none : shp .none = true := by simp [shp, SeqAt.shaped, PyData.canLay0, PyData.depth]
theorem shpAll {xs : List D} {k : Nat} (h : ∀ x ∈ xs, shp x = true ∧ x.depth ≤ k) : PyData.canLayAll0 xs = true ∧ PyData.depthAll xs ≤ k := by
  induction xs with
  | nil => simp [PyData.canLayAll0, PyData.depthAll]
  | cons x xs ih =>
    obtain ⟨h1, h2⟩ := h x (by simp)
    obtain ⟨i1, i2⟩ := ih fun y hy => h y (by simp [hy])
    have h3 : x.canLay0 = true := SeqAt.canLay_of_shaped h1
    simp only [PyData.canLayAll0, PyData.depthAll, Bool.and_eq_true]
    exact ⟨⟨h3, i1⟩, by omega⟩
theorem shp_tup {xs : List D} {k : Nat} (h : ∀ x ∈ xs, shp x = true ∧ x.depth ≤ k) (hk : k < 64) : shp (.tuple xs) = true ∧ (PyData.tuple xs).depth ≤ k + 1 := by
  obtain ⟨h1, h2⟩ := shpAll h
  refine ⟨?_, ?_⟩
  · simp [shp, SeqAt.shaped, PyData.canLay0, PyData.depth, h1]
    omega
  · simp only [PyData.depth]
    omega
theorem shp_lst {xs : List D} {k : Nat} (h : ∀ x ∈ xs, shp x = true ∧ x.depth ≤ k) (hk : k < 64) : shp (.list xs) = true ∧ (PyData.list xs).depth ≤ k + 1 := by
  obtain ⟨h1, h2⟩ := shpAll h
  refine ⟨?_, ?_⟩
  · simp [shp, SeqAt.shaped, PyData.canLay0, PyData.depth, h1]
    omega
  · simp only [PyData.depth]
    omega
@[simp] theorem dep_int (a : Int) : (PyData.int a).depth = 0 := by simp [PyData.depth]
@[simp] theorem dep_str (a : Str) : (PyData.str a).depth = 0 := by simp [PyData.depth]
@[simp] theorem dep_bool (a : Bool) : (PyData.bool a).depth = 0 := by simp [PyData.depth]
@[simp] theorem dep_none : (PyData.none).depth = 0 := by simp [PyData.depth]
@[simp] theorem cmp_lt_int (a b : Int) : cmpD .lt (.int a) (.int b) = .ok (decide (a < b)) := by
  simp [cmpD, notN, PySem.W.alike, ltB]
@[simp] theorem cmp_le_int (a b : Int) : cmpD .le (.int a) (.int b) = .ok (decide (a ≤ b)) := Eq.trans rfl rfl
@[simp] theorem cmp_gt_int (a b : Int) : cmpD .gt (.int a) (.int b) = .ok (decide (b < a)) := Eq.trans rfl rfl
@[simp] theorem cmp_ge_int (a b : Int) : cmpD .ge (.int a) (.int b) = .ok (decide (b ≤ a)) := Eq.trans rfl rfl
theorem cmp_eq {a b : D} (ha : shp a = true) (hb : shp b = true) : cmpD .eq a b = .ok (PyData.eqv a b) := by simp [cmpD, eqD, ha, hb]
theorem cmp_ne {a b : D} (ha : shp a = true) (hb : shp b = true) : cmpD .ne a b = .ok (!PyData.eqv a b) := by simp [cmpD, eqD, ha, hb]
@[simp] theorem cmp_eq_int (a b : Int) : cmpD .eq (.int a) (.int b) = .ok (decide (a = b)) := by rw [cmp_eq (by simp) (by simp)]; simp [PyData.eqv]; rfl
@[simp] theorem cmp_ne_int (a b : Int) : cmpD .ne (.int a) (.int b) = .ok (!decide (a = b)) := by rw [cmp_ne (by simp) (by simp)]; simp [PyData.eqv]; rfl
theorem cmp_eq_str {a b : Str} (ha : PyData.strOk a = true) (hb : PyData.strOk b = true) : cmpD .eq (.str a) (.str b) = .ok (decide (a = b)) := by rw [cmp_eq (shp_str ha) (shp_str hb)]; simp [PyData.eqv]; rfl
theorem cmp_ne_str {a b : Str} (ha : PyData.strOk a = true) (hb : PyData.strOk b = true) : cmpD .ne (.str a) (.str b) = .ok (!decide (a = b)) := by rw [cmp_ne (shp_str ha) (shp_str hb)]; simp [PyData.eqv]; rfl
@[simp] theorem cmp_eq_bool (a b : Bool) : cmpD .eq (.bool a) (.bool b) = .ok (a == b) := by rw [cmp_eq (by simp) (by simp)]; simp [PyData.eqv]
@[simp] theorem cmp_ne_bool (a b : Bool) : cmpD .ne (.bool a) (.bool b) = .ok (a != b) := by rw [cmp_ne (by simp) (by simp)]; simp [PyData.eqv, bne]
theorem cmp_in_tup {a : D} {xs : List D} (ha : shp a = true) (hb : shp (.tuple xs) = true) : cmpD .isin a (.tuple xs) = .ok (xs.any fun z => PyData.eqv z a) := by simp [cmpD, inD, ha, hb]
theorem cmp_in_lst {a : D} {xs : List D} (ha : shp a = true) (hb : shp (.list xs) = true) : cmpD .isin a (.list xs) = .ok (xs.any fun z => PyData.eqv z a) := by simp [cmpD, inD, ha, hb]
theorem cmp_notin_tup {a : D} {xs : List D} (ha : shp a = true) (hb : shp (.tuple xs) = true) : cmpD .notin a (.tuple xs) = .ok (!xs.any fun z => PyData.eqv z a) := by simp [cmpD, inD, ha, hb]
theorem cmp_notin_lst {a : D} {xs : List D} (ha : shp a = true) (hb : shp (.list xs) = true) : cmpD .notin a (.list xs) = .ok (!xs.any fun z => PyData.eqv z a) := by simp [cmpD, inD, ha, hb]
theorem any_int (k : Int) : ∀ ns : List Int, ((ns.map PyData.int).any fun z => PyData.eqv z (.int k)) = decide (k ∈ ns)
  | [] => by simp
  | n :: ns => by
    simp only [List.map_cons, List.any_cons, any_int k ns, PyData.eqv, List.mem_cons, Bool.decide_or]
    congr 1
    by_cases h : n = k
    · simp [h]
    · simp [h, Ne.symm h]
theorem shp_ints (ns : List Int) : shp (.tuple (ns.map .int)) = true ∧ (PyData.tuple (ns.map .int)).depth ≤ 1 := by
  refine shp_tup (k := 0) (fun x hx => ?_) (by decide)
  obtain ⟨n, _, rfl⟩ := List.mem_map.mp hx
  simp
theorem shp_intsL (ns : List Int) : shp (.list (ns.map .int)) = true ∧ (PyData.list (ns.map .int)).depth ≤ 1 := by
  refine shp_lst (k := 0) (fun x hx => ?_) (by decide)
  obtain ⟨n, _, rfl⟩ := List.mem_map.mp hx
  simp
theorem in_tup_int (k : Int) (ns : List Int) : cmpD .isin (.int k) (.tuple (ns.map .int)) = .ok (decide (k ∈ ns)) := by rw [cmp_in_tup (by simp) (shp_ints ns).1, any_int]
theorem in_lst_int (k : Int) (ns : List Int) : cmpD .isin (.int k) (.list (ns.map .int)) = .ok (decide (k ∈ ns)) := by rw [cmp_in_lst (by simp) (shp_intsL ns).1, any_int]
theorem notin_tup_int (k : Int) (ns : List Int) : cmpD .notin (.int k) (.tuple (ns.map .int)) = .ok (!decide (k ∈ ns)) := by rw [cmp_notin_tup (by simp) (shp_ints ns).1, any_int]
theorem notin_lst_int (k : Int) (ns : List Int) : cmpD .notin (.int k) (.list (ns.map .int)) = .ok (!decide (k ∈ ns)) := by rw [cmp_notin_lst (by simp) (shp_intsL ns).1, any_int]
end
end Wq

end
section
set_option Elab.async false
set_option linter.all false
set_option autoImplicit false
set_option maxRecDepth 100000
/-! Reading the evaluator by types: each piece of text with the plain function that it computes. -/
namespace Wq
open PySem
/-! ### how plain values stand for data -/
section
variable {α β γ : Type}
def eL (e : α → D) (xs : List α) : D := .list (xs.map e)
def eT (e : α → D) (xs : List α) : D := .tuple (xs.map e)
def eP (e : α → D) (f : β → D) (p : α × β) : D := .tuple [e p.1, f p.2]
def eP3 (e : α → D) (f : β → D) (g : γ → D) (p : α × β × γ) : D := .tuple [e p.1, f p.2.1, g p.2.2]
def eO (e : α → D) : Option α → D
  | none => .none
  | some a => e a
def eU : Unit → D := fun _ => .none
abbrev eI : Int → D := PyData.int
abbrev eB : Bool → D := PyData.bool
abbrev eS : Str → D := PyData.str
def eD : D → D := fun d => d
/-- row (true) or column -/
def eW (b : Bool) : D := .str (if b then "row" else "column")
/-- up (true) or down -/
def eC (b : Bool) : D := .str (if b then "up" else "down")
/-- a script -/
structure Sc where
  ns : List Int
  h : ns.length ≤ 63
def eSc (s : Sc) : D := .list (s.ns.map .int)
abbrev Sq := List (Int × Int) × List Int
abbrev eSq : Sq → D := eP (eT (eP eI eI)) (eT eI)
/-- its data can be compared, and are unlike where it is -/
class Cd {α : Type} (e : α → D) (k : outParam Nat) : Prop where
  eqv : ∀ a b, PyData.eqv (e a) (e b) = true ↔ a = b
  lay : ∀ a, (e a).canLay0 = true
  dep : ∀ a, (e a).depth ≤ k
instance : Cd eI 0 := ⟨fun a b => by simp [eI, PyData.eqv], fun a => by simp [eI, PyData.canLay0], fun a => by simp [eI, PyData.depth]⟩
instance : Cd PyData.int 0 := ⟨fun a b => by simp [PyData.eqv], fun a => by simp [PyData.canLay0], fun a => by simp [PyData.depth]⟩
instance : Cd eB 0 := ⟨fun a b => by simp [eB, PyData.eqv], fun a => by simp [eB, PyData.canLay0], fun a => by simp [eB, PyData.depth]⟩
instance : Cd PyData.bool 0 := ⟨fun a b => by simp [PyData.eqv], fun a => by simp [PyData.canLay0], fun a => by simp [PyData.depth]⟩
theorem row_col : ¬ (("row" : Str) = ("column" : Str)) := by decide +kernel
theorem up_down : ¬ (("up" : Str) = ("down" : Str)) := by decide +kernel
instance : Cd eW 0 := ⟨fun a b => by
  have h := row_col
  have h2 := Ne.symm h
  cases a <;> cases b <;> simp [eW, PyData.eqv, h, h2], fun a => by cases a <;> decide +kernel, fun a => by simp [eW, PyData.depth]⟩
instance : Cd eC 0 := ⟨fun a b => by
  have h := up_down
  have h2 := Ne.symm h
  cases a <;> cases b <;> simp [eC, PyData.eqv, h, h2], fun a => by cases a <;> decide +kernel, fun a => by simp [eC, PyData.depth]⟩
theorem eqvAll_map {e : α → D} {k : Nat} [Cd e k] : ∀ xs ys : List α, PyData.eqvAll (xs.map e) (ys.map e) = true ↔ xs = ys
  | [], [] => by simp [PyData.eqvAll]
  | [], _ :: _ => by simp [PyData.eqvAll]
  | _ :: _, [] => by simp [PyData.eqvAll]
  | x :: xs, y :: ys => by
    simp only [List.map_cons, PyData.eqvAll, Bool.and_eq_true, List.cons.injEq, Cd.eqv, eqvAll_map xs ys]
theorem layAll_map {e : α → D} {k : Nat} [Cd e k] : ∀ xs : List α, PyData.canLayAll0 (xs.map e) = true
  | [] => by simp [PyData.canLayAll0]
  | x :: xs => by simp [PyData.canLayAll0, Cd.lay, layAll_map xs]
theorem depAll_map {e : α → D} {k : Nat} [Cd e k] : ∀ xs : List α, PyData.depthAll (xs.map e) ≤ k
  | [] => by simp [PyData.depthAll]
  | x :: xs => by
    have h1 := Cd.dep (e := e) x
    have h2 := depAll_map (e := e) xs
    simp only [List.map_cons, PyData.depthAll]
    omega
instance {e : α → D} {k : Nat} [Cd e k] : Cd (eL e) (k + 1) := ⟨fun a b => by simp only [eL, PyData.eqv]; exact eqvAll_map a b, fun a => by simp only [eL, PyData.canLay0]; exact layAll_map a, fun a => by
  have := depAll_map (e := e) a
  simp only [eL, PyData.depth]; omega⟩
instance {e : α → D} {k : Nat} [Cd e k] : Cd (eT e) (k + 1) := ⟨fun a b => by simp only [eT, PyData.eqv]; exact eqvAll_map a b, fun a => by simp only [eT, PyData.canLay0]; exact layAll_map a, fun a => by
  have := depAll_map (e := e) a
  simp only [eT, PyData.depth]; omega⟩
instance {e : α → D} {f : β → D} {k l : Nat} [Cd e k] [Cd f l] : Cd (eP e f) (max k l + 1) := ⟨fun a b => by
    obtain ⟨a1, a2⟩ := a
    obtain ⟨b1, b2⟩ := b
    simp [eP, PyData.eqv, PyData.eqvAll, Cd.eqv], fun a => by simp [eP, PyData.canLay0, PyData.canLayAll0, Cd.lay], fun a => by
  have h1 := Cd.dep (e := e) a.1
  have h2 := Cd.dep (e := f) a.2
  simp only [eP, PyData.depth, PyData.depthAll]; omega⟩
instance {e : α → D} {f : β → D} {g : γ → D} {k l m : Nat} [Cd e k] [Cd f l] [Cd g m] : Cd (eP3 e f g) (max k (max l m) + 1) := ⟨fun a b => by
    obtain ⟨a1, a2, a3⟩ := a
    obtain ⟨b1, b2, b3⟩ := b
    simp [eP3, PyData.eqv, PyData.eqvAll, Cd.eqv], fun a => by simp [eP3, PyData.canLay0, PyData.canLayAll0, Cd.lay], fun a => by
  have h1 := Cd.dep (e := e) a.1
  have h2 := Cd.dep (e := f) a.2.1
  have h3 := Cd.dep (e := g) a.2.2
  simp only [eP3, PyData.depth, PyData.depthAll]; omega⟩
theorem Cd.shp {e : α → D} {k : Nat} [Cd e k] (hk : k ≤ 64) (a : α) : Wq.shp (e a) = true := by
  have h1 := Cd.lay (e := e) a
  have h2 := Cd.dep (e := e) a
  simp only [Wq.shp, SeqAt.shaped, h1, Bool.true_and, decide_eq_true_eq]
  omega
theorem Cd.dec {e : α → D} {k : Nat} [Cd e k] [DecidableEq α] (a b : α) : PyData.eqv (e a) (e b) = decide (a = b) := by
  by_cases h : a = b
  · rw [decide_eq_true h]; exact (Cd.eqv a b).mpr h
  · rw [decide_eq_false h]
    cases q : PyData.eqv (e a) (e b) with
    | false => rfl
    | true => exact absurd ((Cd.eqv a b).mp q) h
/-! ### order -/
class PLt (α : Type) where
  pl : α → α → Bool
abbrev plt {α : Type} [PLt α] (a b : α) : Bool := PLt.pl a b
instance : PLt Int := ⟨fun a b => decide (a < b)⟩
def pltL [PLt α] [DecidableEq α] : List α → List α → Bool
  | [], [] => false
  | [], _ :: _ => true
  | _ :: _, [] => false
  | x :: xs, y :: ys => if x = y then pltL xs ys else plt x y
instance [PLt α] [DecidableEq α] : PLt (List α) := ⟨pltL⟩
instance [PLt α] [PLt β] [DecidableEq α] [DecidableEq β] : PLt (α × β) := ⟨fun p q => if p.1 = q.1 then (if p.2 = q.2 then false else plt p.2 q.2) else plt p.1 q.1⟩
/-- row behind column, up behind down -/
instance : PLt Bool := ⟨fun a b => !a && b⟩
class CdO {α : Type} (e : α → D) [PLt α] : Prop where
  lt : ∀ a b, ltB (e a) (e b) = plt a b
  al : ∀ a b, PySem.W.alike (e a) (e b) = true
  nn : ∀ a, notN (e a) = true
instance : CdO eI := ⟨fun a b => by simp [eI, ltB, plt, PLt.pl], fun a b => by simp [eI, PySem.W.alike], fun a => rfl⟩
instance : CdO PyData.int := ⟨fun a b => by simp [ltB, plt, PLt.pl], fun a b => by simp [PySem.W.alike], fun a => rfl⟩
instance : CdO eW := ⟨fun a b => by cases a <;> cases b <;> simp only [eW, ltB, plt, PLt.pl] <;> decide +kernel, fun a b => by simp [eW, PySem.W.alike], fun a => rfl⟩
theorem alikeAll_map {e : α → D} [PLt α] [CdO e] : ∀ xs ys : List α, PySem.W.alikeAll (xs.map e) (ys.map e) = true
  | [], _ => by simp [PySem.W.alikeAll]
  | _ :: _, [] => by simp [PySem.W.alikeAll]
  | x :: xs, y :: ys => by simp [PySem.W.alikeAll, CdO.al, alikeAll_map xs ys]
theorem ltBs_map {e : α → D} {k : Nat} [PLt α] [DecidableEq α] [Cd e k] [CdO e] : ∀ xs ys : List α, ltBs (xs.map e) (ys.map e) = pltL xs ys
  | [], [] => by simp [ltBs, pltL]
  | [], _ :: _ => by simp [ltBs, pltL]
  | _ :: _, [] => by simp [ltBs, pltL]
  | x :: xs, y :: ys => by
    simp only [List.map_cons, ltBs, pltL, Cd.dec, CdO.lt, ltBs_map xs ys, decide_eq_true_eq]
instance {e : α → D} {k : Nat} [PLt α] [DecidableEq α] [Cd e k] [CdO e] : CdO (eT e) := ⟨fun a b => by simp only [eT, ltB]; exact ltBs_map a b, fun a b => by simp only [eT, PySem.W.alike]; exact alikeAll_map a b, fun a => rfl⟩
instance {e : α → D} {k : Nat} [PLt α] [DecidableEq α] [Cd e k] [CdO e] : CdO (eL e) := ⟨fun a b => by simp only [eL, ltB]; exact ltBs_map a b, fun a b => by simp only [eL, PySem.W.alike]; exact alikeAll_map a b, fun a => rfl⟩
instance {e : α → D} {f : β → D} {k l : Nat} [PLt α] [PLt β] [DecidableEq α] [DecidableEq β] [Cd e k] [Cd f l] [CdO e] [CdO f] : CdO (eP e f) := ⟨fun a b => by
    simp only [eP, ltB, ltBs, Cd.dec, CdO.lt, plt, PLt.pl, decide_eq_true_eq], fun a b => by simp [eP, PySem.W.alike, PySem.W.alikeAll, CdO.al], fun a => rfl⟩
/-! ### sorting -/
def insT [PLt α] (x : α) : List α → List α
  | [] => [x]
  | y :: ys => if plt y x then y :: insT x ys else x :: y :: ys
def srtT [PLt α] : List α → List α
  | [] => []
  | x :: xs => insT x (srtT xs)
theorem ins_map {e : α → D} [PLt α] [CdO e] (x : α) : ∀ xs : List α, ins (e x) (xs.map e) = (insT x xs).map e
  | [] => rfl
  | y :: ys => by
    simp only [List.map_cons, ins, insT, CdO.lt, ins_map x ys]
    split <;> rfl
theorem isort_map {e : α → D} [PLt α] [CdO e] : ∀ xs : List α, isort (xs.map e) = (srtT xs).map e
  | [] => rfl
  | x :: xs => by
    show ins (e x) (isort (xs.map e)) = _
    rw [isort_map xs, ins_map]
    rfl
theorem cmpl_map {e : α → D} {k : Nat} [PLt α] [Cd e k] [CdO e] (hk : k ≤ 64) (xs : List α) : cmpl (xs.map e) = true := by
  simp only [cmpl, List.all_map, List.all_eq_true, Function.comp, Bool.and_eq_true]
  exact fun x _ => ⟨⟨Cd.shp hk x, CdO.nn x⟩, fun y _ => CdO.al x y⟩
theorem sortD_map {e : α → D} {k : Nat} [PLt α] [Cd e k] [CdO e] (hk : k ≤ 64) (xs : List α) : sortD (xs.map e) = .ok ((srtT xs).map e) := by
  unfold sortD
  rw [if_pos (cmpl_map hk xs), isort_map]
theorem any_map {e : α → D} {k : Nat} [Cd e k] [DecidableEq α] (a : α) (xs : List α) : ((xs.map e).any fun z => PyData.eqv z (e a)) = decide (a ∈ xs) := by
  induction xs with
  | nil => simp
  | cons x xs ih =>
    simp only [List.map_cons, List.any_cons, ih, Cd.dec, List.mem_cons, Bool.decide_or]
    congr 1
    by_cases h : x = a
    · simp [h]
    · simp [h, Ne.symm h]
def memT [DecidableEq α] (x : α) (xs : List α) : Bool := decide (x ∈ xs)
@[simp] theorem memT_iff [DecidableEq α] {x : α} {xs : List α} : memT x xs = true ↔ x ∈ xs := by simp [memT]
def dedT [DecidableEq α] : List α → List α
  | [] => []
  | x :: xs => if x ∈ xs then dedT xs else x :: dedT xs
theorem dedup_map {e : α → D} {k : Nat} [Cd e k] [DecidableEq α] : ∀ xs : List α, dedup (xs.map e) = (dedT xs).map e
  | [] => rfl
  | x :: xs => by
    simp only [List.map_cons, dedup, dedT, any_map, dedup_map xs, decide_eq_true_eq]
    split <;> rfl
end
/-! ### results -/
/-- the same as bind, seen through -/
def R.bd {α β : Type} (x : R α) (f : α → R β) : R β := match x with
  | .ok a => f a
  | .ex k => .ex k
  | .no => .no
@[simp] theorem bd_ok {α β : Type} (a : α) (f : α → R β) : (R.ok a).bd f = f a := Eq.trans rfl rfl
def R.mp {α β : Type} (x : R α) (f : α → β) : R β := match x with
  | .ok a => .ok (f a)
  | .ex k => .ex k
  | .no => .no
inductive Ct (σ τ : Type) where
  | nx (s : σ) | rt (r : τ) | ex (k : Str) | no
inductive Fx where
  | nx (ρ : En) | rt (d : D) | ex (k : Str) | no
def Fl.x : Fl → Fx
  | .nx ρ => .nx ρ
  | .rt d => .rt d
  | .ex k _ => .ex k
  | .no => .no
/-- what is told stands, where anything is told -/
def Lr {α : Type} (x m : R α) : Prop := m = .no ∨ x = m
def Lx (x m : Fx) : Prop := m = .no ∨ x = m
theorem Lr.of {α : Type} {x m : R α} (h : x = m) : Lr x m := .inr h
theorem Lr.ok {α : Type} {x : R α} {a : α} (h : Lr x (.ok a)) : x = .ok a := by
  rcases h with h | h
  · cases h
  · exact h
theorem Lr.ex {α : Type} {x : R α} {a : Str} (h : Lr x (.ex a)) : x = .ex a := by
  rcases h with h | h
  · cases h
  · exact h
section
variable {α β σ σ' τ : Type}
def Ct.fx (E : σ → En) (e : τ → D) : Ct σ τ → Fx
  | .nx s => .nx (E s)
  | .rt r => .rt (e r)
  | .ex k => .ex k
  | .no => .no
def R.ct (x : R α) (f : α → Ct σ τ) : Ct σ τ := match x with
  | .ok a => f a
  | .ex k => .ex k
  | .no => .no
def R.ct2 (x : R (α × β)) (f : α → β → Ct σ τ) : Ct σ τ := match x with
  | .ok a => f a.1 a.2
  | .ex k => .ex k
  | .no => .no
def R.fx (x : R α) (f : α → Fx) : Fx := match x with
  | .ok a => f a
  | .ex k => .ex k
  | .no => .no
def Ct.bind (x : Ct σ τ) (f : σ → Ct σ' τ) : Ct σ' τ := match x with
  | .nx s => f s
  | .rt r => .rt r
  | .ex k => .ex k
  | .no => .no
def Ct.run : Ct Empty τ → R τ
  | .nx s => nomatch s
  | .rt r => .ok r
  | .ex k => .ex k
  | .no => .no
def Fx.then (x : Fx) (K : En → Fx) : Fx := match x with
  | .nx ρ => K ρ
  | r => r
def Fx.endR : Fx → R D
  | .nx _ => .ok .none
  | .rt d => .ok d
  | .ex k => .ex k
  | .no => .no
@[simp] theorem mp_ok (a : α) (f : α → β) : (R.ok a).mp f = .ok (f a) := Eq.trans rfl rfl
@[simp] theorem ct_ok (a : α) (f : α → Ct σ τ) : (R.ok a).ct f = f a := Eq.trans rfl rfl
@[simp] theorem bd_ex {α β : Type} (a : Str) (f : α → R β) : (R.ex a : R α).bd f = .ex a := Eq.trans rfl rfl
@[simp] theorem ct_ex (a : Str) (f : α → Ct σ τ) : (R.ex a : R α).ct f = .ex a := Eq.trans rfl rfl
@[simp] theorem ct2_ok (a : α × β) (f : α → β → Ct σ τ) : (R.ok a).ct2 f = f a.1 a.2 := Eq.trans rfl rfl
@[simp] theorem cbind_ex (s : Str) (f : σ → Ct σ' τ) : (Ct.ex s : Ct σ τ).bind f = .ex s := Eq.trans rfl rfl
@[simp] theorem cbind_nx (s : σ) (f : σ → Ct σ' τ) : (Ct.nx s : Ct σ τ).bind f = f s := Eq.trans rfl rfl
@[simp] theorem cbind_rt (r : τ) (f : σ → Ct σ' τ) : (Ct.rt r : Ct σ τ).bind f = .rt r := Eq.trans rfl rfl
@[simp] theorem run_rt (r : τ) : (Ct.rt r : Ct Empty τ).run = .ok r := Eq.trans rfl rfl
@[simp] theorem run_ex (k : Str) : (Ct.ex k : Ct Empty τ).run = .ex k := Eq.trans rfl rfl
theorem end_x (f : Fl) : endR f = f.x.endR := by cases f <;> rfl
theorem fl_x (x : R α) (ρ : En) (f : α → Fl) : (x.fl ρ f).x = x.fx fun a => (f a).x := by cases x <;> rfl
def forC (f : α → σ → Ct σ τ) : List α → σ → Ct σ τ
  | [], s => .nx s
  | x :: xs, s => (f x s).bind (forC f xs)
def whC (t : σ → R Bool) (b : σ → Ct σ τ) : Nat → σ → Ct σ τ
  | 0, _ => .no
  | n + 1, s => (t s).ct fun k => if k then (b s).bind (whC t b n) else .nx s
end
section
variable {c : Cv} {α β γ σ σ' τ : Type}
/-! ### statements -/
def xK (c : Cv) (ss : MSs) (K : En → Fx) (ρ : En) : Fx := (exSs c ss ρ).x.then K
theorem xK_cons {s : MS} {ss : MSs} {K : En → Fx} {ρ : En} : xK c (.cons s ss) K ρ = (exS c s ρ).x.then (xK c ss K) := by
  unfold xK
  rw [ss_cons]
  cases exS c s ρ <;> rfl
theorem xK_nx {ss : MSs} {ρ : En} : xK c ss .nx ρ = (exSs c ss ρ).x := by
  unfold xK
  cases exSs c ss ρ <;> rfl
variable {ρ : En} {K : En → Fx} {ss : MSs} {E : σ → En} {e : τ → D} {i j : Nat}
theorem k_nil {M : Ct σ τ} (h : Lx (K ρ) (M.fx E e)) : Lx (xK c .nil K ρ) (M.fx E e) := h
theorem k_end {M : Ct σ τ} (h : K ρ = M.fx E e) : Lx (xK c .nil K ρ) (M.fx E e) := .inr h
theorem mp_no {r : R α} {g : α → β} (h : r.mp g = .no) : r = .no := by
  cases r with
  | no => rfl
  | ok _ => cases h
  | ex _ => cases h
theorem k_asg {a : ME} {r : R α} {g : α → D} {M : α → Ct σ τ} (h : Lr (evE c a ρ) (r.mp g)) (k : ∀ x, Lx (xK c ss K (ρ.set i (.val (g x)))) ((M x).fx E e)) : Lx (xK c (.cons (.asg (.nm i) a) ss) K ρ) ((r.ct M).fx E e) := by
  rcases h with h | h
  · rw [mp_no h]; exact .inl rfl
  · rw [xK_cons, exS, h]
    cases r with
    | ok x => exact k x
    | ex _ => exact .inr rfl
    | no => exact .inl rfl
theorem k_tp {a : ME} {r : R (α × β)} {g : α → D} {g' : β → D} {M : α → β → Ct σ τ} (h : Lr (evE c a ρ) (r.mp (eP g g'))) (k : ∀ x y, Lx (xK c ss K ((ρ.set i (.val (g x))).set j (.val (g' y)))) ((M x y).fx E e)) : Lx (xK c (.cons (.asg (.tp [i, j]) a) ss) K ρ) ((r.ct2 M).fx E e) := by
  rcases h with h | h
  · rw [mp_no h]; exact .inl rfl
  · rw [xK_cons, exS, h]
    cases r with
    | ok x => exact k x.1 x.2
    | ex _ => exact .inr rfl
    | no => exact .inl rfl
def R.ct3 {γ : Type} (x : R (α × β × γ)) (f : α → β → γ → Ct σ τ) : Ct σ τ := match x with
  | .ok a => f a.1 a.2.1 a.2.2
  | .ex k => .ex k
  | .no => .no
theorem k_tp3 {γ : Type} {l : Nat} {a : ME} {r : R (α × β × γ)} {g : α → D} {g' : β → D} {g2 : γ → D} {M : α → β → γ → Ct σ τ} (h : Lr (evE c a ρ) (r.mp (eP3 g g' g2))) (k : ∀ x y z, Lx (xK c ss K (((ρ.set i (.val (g x))).set j (.val (g' y))).set l (.val (g2 z)))) ((M x y z).fx E e)) : Lx (xK c (.cons (.asg (.tp [i, j, l]) a) ss) K ρ) ((r.ct3 M).fx E e) := by
  rcases h with h | h
  · rw [mp_no h]; exact .inl rfl
  · rw [xK_cons, exS, h]
    cases r with
    | ok x => exact k x.1 x.2.1 x.2.2
    | ex _ => exact .inr rfl
    | no => exact .inl rfl
theorem k_asgL {es : MEs} {r : R (List α)} {g : α → D} {M : List α → Ct σ τ} (h : Lr (evEs c es ρ) (r.mp (List.map g))) (k : ∀ x : List α, Lx (xK c ss K (ρ.set i (.own (x.map g)))) ((M x).fx E e)) : Lx (xK c (.cons (.asgL i es) ss) K ρ) ((r.ct M).fx E e) := by
  rcases h with h | h
  · rw [mp_no h]; exact .inl rfl
  · rw [xK_cons, exS, h]
    cases r with
    | ok x => exact k x
    | ex _ => exact .inr rfl
    | no => exact .inl rfl
theorem k_ret {a : ME} {r : R τ} (h : Lr (evE c a ρ) (r.mp e)) : Lx (xK c (.cons (.ret a) ss) K ρ) ((r.ct .rt).fx E e) := by
  rcases h with h | h
  · rw [mp_no h]; exact .inl rfl
  · rw [xK_cons, exS, h]
    cases r with
    | ok x => exact .inr rfl
    | ex _ => exact .inr rfl
    | no => exact .inl rfl
theorem k_exp {a : ME} {r : R α} {g : α → D} {M : Ct σ τ} (h : Lr (evE c a ρ) (r.mp g)) (k : Lx (xK c ss K ρ) (M.fx E e)) : Lx (xK c (.cons (.exp a) ss) K ρ) ((r.ct fun _ => M).fx E e) := by
  rcases h with h | h
  · rw [mp_no h]; exact .inl rfl
  · rw [xK_cons, exS, h]
    cases r with
    | ok x => exact k
    | ex _ => exact .inr rfl
    | no => exact .inl rfl
theorem k_if {a : ME} {r : R Bool} {p q : MSs} {A B : Ct σ τ} (h : Lr (evE c a ρ) (r.mp eB)) (ha : Lx (xK c p (xK c ss K) ρ) (A.fx E e)) (hb : Lx (xK c q (xK c ss K) ρ) (B.fx E e)) : Lx (xK c (.cons (.ifs a p q) ss) K ρ) ((r.ct fun k => if k then A else B).fx E e) := by
  rcases h with h | h
  · rw [mp_no h]; exact .inl rfl
  · rw [xK_cons, exS, h]
    cases r with
    | ok k =>
      cases k with
      | true => exact ha
      | false => exact hb
    | ex _ => exact .inr rfl
    | no => exact .inl rfl
/-- a list of one's own grows -/
def appR (xs ys : List α) : R (List α) := if xs.length + ys.length < LIM then .ok (xs ++ ys) else .no
theorem k_app {a : ME} {r : R α} {g : α → D} {xs : List α} {M : List α → Ct σ τ} (hs : ρ[i]? = some (.own (xs.map g))) (h : Lr (evE c a ρ) (r.mp g)) (k : ∀ x : List α, Lx (xK c ss K (ρ.set i (.own (x.map g)))) ((M x).fx E e)) : Lx (xK c (.cons (.app i a) ss) K ρ) ((r.ct fun x => (appR xs [x]).ct M).fx E e) := by
  have ho : ownL ρ i = true := by simp [ownL, hs]
  rcases h with h | h
  · rw [mp_no h]; exact .inl rfl
  · rw [xK_cons, exS, if_pos ho, h]
    cases r with
    | ok x =>
      by_cases hl : xs.length + [x].length < LIM
      · have q : appE ρ i [g x] = .nx (ρ.set i (.own ((xs ++ [x]).map g))) := by
          simp only [appE, hs, List.length_map]
          rw [if_pos (by simpa using hl)]
          simp
        show Lx ((appE ρ i [g x]).x.then (xK c ss K)) (((appR xs [x]).ct M).fx E e)
        rw [q, appR, if_pos hl]
        exact k (xs ++ [x])
      · have q : appR xs [x] = .no := by rw [appR, if_neg hl]
        refine .inl ?_
        show ((appR xs [x]).ct M).fx E e = _
        rw [q]
        rfl
    | ex _ => exact .inr rfl
    | no => exact .inl rfl
theorem k_ext {a : ME} {r : R (List α)} {g : α → D} {xs : List α} {M : List α → Ct σ τ} (hs : ρ[i]? = some (.own (xs.map g))) (h : Lr (evE c a ρ) (r.mp (eL g))) (k : ∀ x : List α, Lx (xK c ss K (ρ.set i (.own (x.map g)))) ((M x).fx E e)) : Lx (xK c (.cons (.ext i a) ss) K ρ) ((r.ct fun x => (appR xs x).ct M).fx E e) := by
  have ho : ownL ρ i = true := by simp [ownL, hs]
  rcases h with h | h
  · rw [mp_no h]; exact .inl rfl
  · rw [xK_cons, exS, if_pos ho, h]
    cases r with
    | ok x =>
      by_cases hl : xs.length + x.length < LIM
      · have q : appE ρ i (x.map g) = .nx (ρ.set i (.own ((xs ++ x).map g))) := by
          simp only [appE, hs, List.length_map]
          rw [if_pos hl]
          simp
        show Lx ((appE ρ i (x.map g)).x.then (xK c ss K)) (((appR xs x).ct M).fx E e)
        rw [q, appR, if_pos hl]
        exact k (xs ++ x)
      · have q : appR xs x = .no := by rw [appR, if_neg hl]
        refine .inl ?_
        show ((appR xs x).ct M).fx E e = _
        rw [q]
        rfl
    | ex _ => exact .inr rfl
    | no => exact .inl rfl
theorem k_frz {xs : List D} {M : Ct σ τ} (hs : ρ[i]? = some (.own xs)) (k : Lx (xK c ss K (ρ.set i (.val (.list xs)))) (M.fx E e)) : Lx (xK c (.cons (.frz i) ss) K ρ) (M.fx E e) := by
  rw [xK_cons, exS, frzE, hs]
  exact k
theorem k_frzV {d : D} {M : Ct σ τ} (hs : ρ[i]? = some (.val d)) (k : Lx (xK c ss K ρ) (M.fx E e)) : Lx (xK c (.cons (.frz i) ss) K ρ) (M.fx E e) := by
  rw [xK_cons, exS, frzE, hs]
  exact k
theorem k_fgt {is : List Nat} {M : Ct σ τ} (k : Lx (xK c ss K (wipe ρ is)) (M.fx E e)) : Lx (xK c (.cons (.fgt is) ss) K ρ) (M.fx E e) := by
  rw [xK_cons, exS]
  exact k
theorem k_stm {s : MS} {P : Ct σ' τ} {E' : σ' → En} {M : σ' → Ct σ τ} (h : Lx (exS c s ρ).x (P.fx E' e)) (k : ∀ s, Lx (xK c ss K (E' s)) ((M s).fx E e)) : Lx (xK c (.cons s ss) K ρ) ((P.bind M).fx E e) := by
  rcases h with h | h
  · cases P with
    | no => exact .inl rfl
    | nx _ => cases h
    | rt _ => cases h
    | ex _ => cases h
  · rw [xK_cons, h]
    cases P with
    | nx s => exact k s
    | rt r => exact .inr rfl
    | ex k => exact .inr rfl
    | no => exact .inl rfl
theorem k_rais {k : Str} : Lx (xK c (.cons (.rais k) ss) K ρ) ((Ct.ex k).fx E e) := by
  rw [xK_cons, exS]
  exact .inr rfl
/-- an if that goes on -/
theorem s_if {a : ME} {r : R Bool} {p q : MSs} {A B : Ct σ τ} (h : Lr (evE c a ρ) (r.mp eB)) (ha : Lx (xK c p .nx ρ) (A.fx E e)) (hb : Lx (xK c q .nx ρ) (B.fx E e)) : Lx (exS c (.ifs a p q) ρ).x ((r.ct fun k => if k then A else B).fx E e) := by
  rw [xK_nx] at ha hb
  rcases h with h | h
  · rw [mp_no h]; exact .inl rfl
  · rw [exS, h]
    cases r with
    | ok k =>
      cases k with
      | true => exact ha
      | false => exact hb
    | ex _ => exact .inr rfl
    | no => exact .inl rfl
theorem Fl.x_nx {f : Fl} {ρ : En} (h : f.x = .nx ρ) : f = .nx ρ := by
  cases f with
  | nx _ => cases h; rfl
  | rt _ => cases h
  | ex _ _ => cases h
  | no => cases h
theorem bind_no {x : Ct σ τ} {f : σ → Ct σ' τ} {E : σ → En} {E' : σ' → En} (h : x.fx E e = .no) : (x.bind f).fx E' e = .no := by
  cases x with
  | no => rfl
  | nx _ => cases h
  | rt _ => cases h
  | ex _ => cases h
theorem for_fx {b : D → En → Fl} {g : α → D} {B : α → σ → Ct σ τ} (h : ∀ x s, Lx (b (g x) (E s)).x ((B x s).fx E e)) : ∀ (xs : List α) (s : σ), Lx (forLoop b (xs.map g) (E s)).x ((forC B xs s).fx E e)
  | [], s => .inr rfl
  | x :: xs, s => by
    show Lx (match b (g x) (E s) with
      | .nx ρ' => forLoop b (xs.map g) ρ'
      | r => r).x (((B x s).bind (forC B xs)).fx E e)
    rcases h x s with h1 | h1
    · exact .inl (bind_no h1)
    · cases q : B x s with
      | nx s' =>
        rw [q] at h1
        rw [Fl.x_nx h1]
        exact for_fx h xs s'
      | rt r =>
        rw [q] at h1
        cases q2 : b (g x) (E s) with
        | rt d => rw [q2] at h1; exact .inr h1
        | nx _ => rw [q2] at h1; cases h1
        | ex _ _ => rw [q2] at h1; cases h1
        | no => rw [q2] at h1; cases h1
      | ex r =>
        rw [q] at h1
        cases q2 : b (g x) (E s) with
        | rt d => rw [q2] at h1; cases h1
        | nx _ => rw [q2] at h1; cases h1
        | ex _ _ => rw [q2] at h1; exact .inr h1
        | no => rw [q2] at h1; cases h1
      | no => exact .inl rfl
theorem s_for {t : Tg} {it : MI} {b : MSs} {g : α → D} {xr : R (List α)} {B : α → σ → Ct σ τ} {s : σ} (hi : Lr (evI c it (E s)) (xr.mp (List.map g))) (h : ∀ x s, Lx ((bindT t (g x) (E s)).fx fun ρ' => xK c b .nx ρ') ((B x s).fx E e)) : Lx (exS c (.for_ t it b) (E s)).x ((xr.ct fun xs => forC B xs s).fx E e) := by
  rcases hi with hi | hi
  · rw [mp_no hi]; exact .inl rfl
  · rw [exS, hi]
    cases xr with
    | ok xs =>
      refine for_fx (fun x s => ?_) xs s
      rw [fl_x]
      have := h x s
      simp only [xK_nx] at this
      exact this
    | ex _ => exact .inr rfl
    | no => exact .inl rfl
theorem wh_fx {t : En → R Bool} {b : En → Fl} {T : σ → R Bool} {B : σ → Ct σ τ} (ht : ∀ s, Lr (t (E s)) (T s)) (h : ∀ s, Lx (b (E s)).x ((B s).fx E e)) : ∀ (n : Nat) (s : σ), Lx (whLoop t b n (E s)).x ((whC T B n s).fx E e)
  | 0, s => .inl rfl
  | n + 1, s => by
    show Lx ((t (E s)).fl (E s) fun k => if k then (match b (E s) with
      | .nx ρ' => whLoop t b n ρ'
      | r => r) else .nx (E s)).x (((T s).ct fun k => if k then (B s).bind (whC T B n) else .nx s).fx E e)
    rcases ht s with q0 | q0
    · rw [q0]; exact .inl rfl
    rw [q0]
    cases qt : T s with
    | ex _ => exact .inr rfl
    | no => exact .inl rfl
    | ok k =>
      cases k with
      | false => exact .inr rfl
      | true =>
        show Lx (match b (E s) with
          | .nx ρ' => whLoop t b n ρ'
          | r => r).x (((B s).bind (whC T B n)).fx E e)
        rcases h s with h1 | h1
        · exact .inl (bind_no h1)
        · cases q : B s with
          | nx s' =>
            rw [q] at h1
            rw [Fl.x_nx h1]
            exact wh_fx ht h n s'
          | rt r =>
            rw [q] at h1
            cases q2 : b (E s) with
            | rt d => rw [q2] at h1; exact .inr h1
            | nx _ => rw [q2] at h1; cases h1
            | ex _ _ => rw [q2] at h1; cases h1
            | no => rw [q2] at h1; cases h1
          | ex r =>
            rw [q] at h1
            cases q2 : b (E s) with
            | rt d => rw [q2] at h1; cases h1
            | nx _ => rw [q2] at h1; cases h1
            | ex _ _ => rw [q2] at h1; exact .inr h1
            | no => rw [q2] at h1; cases h1
          | no => exact .inl rfl
theorem s_whl {t : ME} {b : MSs} {T : σ → R Bool} {B : σ → Ct σ τ} {s : σ} (ht : ∀ s, Lr (evE c t (E s)) ((T s).mp eB)) (h : ∀ s, Lx (xK c b .nx (E s)) ((B s).fx E e)) : Lx (exS c (.whl t b) (E s)).x ((whC T B 1000 s).fx E e) := by
  rw [exS]
  refine wh_fx (fun s => ?_) (fun s => ?_) 1000 s
  · rcases ht s with q | q
    · exact .inl (mp_no q)
    · refine .inr ?_
      show (evE c t (E s)).bind tru = T s
      rw [q]
      cases T s <;> rfl
  · have := h s
    rw [xK_nx] at this
    exact this
/-- a def, whole -/
theorem f_end {b : MSs} {ρ : En} {M : Ct Empty τ} {e : τ → D} (h : Lx (xK c b .nx ρ) (M.fx (fun z => nomatch z) e)) : Lr (endR (exSs c b ρ)) (M.run.mp e) := by
  rw [xK_nx] at h
  rcases h with h | h
  · cases M with
    | no => exact .inl rfl
    | nx s => exact nomatch s
    | rt _ => cases h
    | ex _ => cases h
  · refine .inr ?_
    rw [end_x, h]
    cases M with
    | nx s => exact nomatch s
    | rt r => rfl
    | ex k => rfl
    | no => rfl
end
end Wq

end
section
set_option Elab.async false
set_option linter.all false
set_option autoImplicit false
set_option maxRecDepth 100000
/-! Expressions by types. -/
namespace Wq
open PySem
/-! ### refinement, step by step -/
section
variable {ξ η α γ ζ : Type} {x : R ξ} {ra : R α} {g : α → ξ}
theorem lid {g' : γ → ξ} {u : α → γ} (q : Lr x (ra.mp g)) (hh : ∀ a, g' (u a) = g a) : Lr x ((ra.bd fun a => R.ok (u a)).mp g') := by
  rcases q with q | q
  · rw [mp_no q]; exact .inl rfl
  · rw [q]
    cases ra with
    | ok a => exact .inr (congrArg R.ok (hh a).symm)
    | ex _ => exact .inr rfl
    | no => exact .inl rfl
theorem lb {f : ξ → R η} {m : α → R γ} {k : γ → η} (q : Lr x (ra.mp g)) (hh : ∀ a, Lr (f (g a)) ((m a).mp k)) : Lr (x.bind f) ((ra.bd m).mp k) := by
  rcases q with q | q
  · rw [mp_no q]; exact .inl rfl
  · rw [q]
    cases ra with
    | ok a => exact hh a
    | ex _ => exact .inr rfl
    | no => exact .inl rfl
theorem lm {f : ξ → R η} {u : α → γ} {k : γ → η} (q : Lr x (ra.mp g)) (hh : ∀ a, f (g a) = .ok (k (u a))) : Lr (x.bind f) ((ra.bd fun a => R.ok (u a)).mp k) := by
  rcases q with q | q
  · rw [mp_no q]; exact .inl rfl
  · rw [q]
    cases ra with
    | ok a => exact .inr (hh a)
    | ex _ => exact .inr rfl
    | no => exact .inl rfl
theorem lms {f : ξ → R γ} {u : α → γ} (q : Lr x (ra.mp g)) (hh : ∀ a, f (g a) = .ok (u a)) : Lr (x.bind f) (ra.mp u) := by
  rcases q with q | q
  · rw [mp_no q]; exact .inl rfl
  · rw [q]
    cases ra with
    | ok a => exact .inr (hh a)
    | ex _ => exact .inr rfl
    | no => exact .inl rfl
theorem lk {f : ξ → R η} {k : α → η} (q : Lr x (ra.mp g)) (hh : ∀ a, f (g a) = .ok (k a)) : Lr (x.bind f) (ra.mp k) := lms q hh
theorem lmb {f : ξ → R γ} {u : α → γ} (q : Lr x (ra.mp g)) (hh : ∀ a, f (g a) = .ok (u a)) : Lr (x.bind f) (ra.bd fun a => R.ok (u a)) := lms q hh
theorem lbo {f : α → R η} {m : α → R γ} {k : γ → η} {x : R α} (q : Lr x ra) (hh : ∀ a, Lr (f a) ((m a).mp k)) : Lr (x.bind f) ((ra.bd m).mp k) := by
  rcases q with q | q
  · rw [q]; exact .inl rfl
  · rw [q]
    cases ra with
    | ok a => exact hh a
    | ex _ => exact .inr rfl
    | no => exact .inl rfl
theorem lc0 {x : R D} {rb : R Bool} (q : Lr x (rb.mp eB)) : Lr (x.bind fun x => tru x) rb := by
  rcases q with q | q
  · rw [mp_no q]; exact .inl rfl
  · rw [q]
    cases rb with
    | ok a => exact .inr rfl
    | ex _ => exact .inr rfl
    | no => exact .inl rfl
end
section
variable {η α γ ζ : Type} {ra : R α}
/-- arguments, one by one -/
theorem lb1 {x : R D} {g : α → D} {f : List D → R η} {m : α → R γ} {k : γ → η} (q : Lr x (ra.mp g)) (hh : ∀ a, Lr (f [g a]) ((m a).mp k)) : Lr ((x.bind fun d => (R.ok []).bind fun ds => .ok (d :: ds)).bind f) ((ra.bd m).mp k) := by
  rcases q with q | q
  · rw [mp_no q]; exact .inl rfl
  · rw [q]
    cases ra with
    | ok a => exact hh a
    | ex _ => exact .inr rfl
    | no => exact .inl rfl
theorem lm1 {x : R D} {g : α → D} {f : List D → R η} {m : α → γ} {k : γ → η} (q : Lr x (ra.mp g)) (hh : ∀ a, f [g a] = .ok (k (m a))) : Lr ((x.bind fun d => (R.ok []).bind fun ds => .ok (d :: ds)).bind f) ((ra.bd fun a => R.ok (m a)).mp k) := by
  rcases q with q | q
  · rw [mp_no q]; exact .inl rfl
  · rw [q]
    cases ra with
    | ok a => exact .inr (hh a)
    | ex _ => exact .inr rfl
    | no => exact .inl rfl
theorem lbs {x : R D} {y : R (List D)} {g : α → D} {f : List D → R η} {m : α → R γ} {k : γ → η} (q : Lr x (ra.mp g)) (hh : ∀ a, Lr (y.bind fun ds => f (g a :: ds)) ((m a).mp k)) : Lr ((x.bind fun d => y.bind fun ds => .ok (d :: ds)).bind f) ((ra.bd m).mp k) := by
  rcases q with q | q
  · rw [mp_no q]; exact .inl rfl
  · rw [q]
    cases ra with
    | ok a =>
      have := hh a
      cases y with
      | ok _ => exact this
      | ex _ => exact this
      | no => exact this
    | ex _ => exact .inr rfl
    | no => exact .inl rfl
end
section
variable {c : Cv} {α β γ δ ζ : Type} {ρ : En} {i j : Nat} {a b d : ME} {es : MEs}
variable {g : α → D} {h : β → D} {k : γ → D} {l : δ → D}
variable {ra : R α} {rb : R β} {rd : R δ}
/-! ### names, constants -/
theorem t_var {x : α} (q : getV ρ i = .ok (g x)) : Lr (evE c (.var i) ρ) ((R.ok x).mp g) := by
  rw [evE]; exact .of q
theorem t_peek {xs : List α} (q : ρ[i]? = some (.own (xs.map g))) : Lr (evE c (.peek i) ρ) ((R.ok xs).mp (eL g)) := by
  rw [evE, getP, q]; exact .of rfl
theorem t_peekV {x : α} (q : ρ[i]? = some (.val (g x))) : Lr (evE c (.peek i) ρ) ((R.ok x).mp g) := by
  rw [evE, getP, q]; exact .of rfl
theorem t_glo {n : Str} {x : α} (q : c.gc.lookup n = some (g x)) : Lr (evE c (.glo n) ρ) ((R.ok x).mp g) := by
  rw [evE, q]; exact .of rfl
theorem t_int (n : Int) : Lr (evE c (.int n) ρ) ((R.ok n).mp eI) := by
  rw [evE]; exact .of rfl
theorem t_bl (n : Bool) : Lr (evE c (.bl n) ρ) ((R.ok n).mp eB) := by
  rw [evE]; exact .of rfl
theorem t_str (n : Str) : Lr (evE c (.str n) ρ) ((R.ok n).mp eS) := by
  rw [evE]; exact .of rfl
theorem t_non : Lr (evE c .non ρ) ((R.ok ()).mp eU) := by
  rw [evE]; exact .of rfl
theorem t_row : Lr (evE c (.str "row") ρ) ((R.ok true).mp eW) := by
  rw [evE]; exact .of rfl
theorem t_col : Lr (evE c (.str "column") ρ) ((R.ok false).mp eW) := by
  rw [evE]; exact .of rfl
theorem t_up : Lr (evE c (.str "up") ρ) ((R.ok true).mp eC) := by
  rw [evE]; exact .of rfl
theorem t_dn : Lr (evE c (.str "down") ρ) ((R.ok false).mp eC) := by
  rw [evE]; exact .of rfl
theorem t_toD (q : Lr (evE c a ρ) (ra.mp g)) : Lr (evE c a ρ) ((ra.bd fun x => R.ok (g x)).mp eD) := by
  exact lid q fun _ => rfl
/-- None or a thing -/
theorem t_some (q : Lr (evE c a ρ) (ra.mp g)) : Lr (evE c a ρ) ((ra.bd fun x => R.ok (some x)).mp (eO g)) := by
  exact lid q fun _ => rfl
theorem t_none (g : α → D) : Lr (evE c .non ρ) ((R.ok none).mp (eO g)) := by
  rw [evE]; exact .of rfl
/-- a thing that should be there -/
def unO : Option α → R α
  | some a => .ok a
  | none => .no
theorem t_unO {ra : R (Option α)} (q : Lr (evE c a ρ) (ra.mp (eO g))) : Lr (evE c a ρ) ((ra.bd unO).mp g) := by
  rcases q with q | q
  · rw [mp_no q]; exact .inl rfl
  · rw [q]
    cases ra with
    | ok o => cases o with
      | none => exact .inl rfl
      | some x => exact .inr rfl
    | ex _ => exact .inr rfl
    | no => exact .inl rfl
/-- any thing, taken as one of a kind -/
def deR (dec : D → Option α) (d : D) : R α := match dec d with
  | some a => .ok a
  | none => .no
theorem t_dec {dec : D → Option α} (hd : ∀ d x, dec d = some x → d = g x) {ra : R D} (q : Lr (evE c a ρ) (ra.mp eD)) : Lr (evE c a ρ) ((ra.bd (deR dec)).mp g) := by
  rcases q with q | q
  · rw [mp_no q]; exact .inl rfl
  · rw [q]
    cases ra with
    | ok o =>
      show Lr (R.ok o) ((deR dec o).mp g)
      unfold deR
      cases h : dec o with
      | none => exact .inl rfl
      | some x => exact .inr (congrArg R.ok (hd o x h))
    | ex _ => exact .inr rfl
    | no => exact .inl rfl
/-! ### operators -/
theorem t_neg {ra : R Int} (q : Lr (evE c a ρ) (ra.mp eI)) : Lr (evE c (.neg a) ρ) ((ra.bd fun x => R.ok (-x)).mp eI) := by
  rw [evE]; exact lm q fun _ => rfl
theorem t_bin {op : BOp} {f : α → β → R γ} (o : ∀ x y, binD op (g x) (h y) = (f x y).mp k) (qa : Lr (evE c a ρ) (ra.mp g)) (qb : Lr (evE c b ρ) (rb.mp h)) : Lr (evE c (.bin op a b) ρ) ((ra.bd fun x => rb.bd fun y => f x y).mp k) := by
  rw [evE]; exact lb qa fun x => lb qb fun y => .of (o x y)
theorem o_add (x y : Int) : binD .add (eI x) (eI y) = (R.ok (x + y)).mp eI := rfl
theorem o_sub (x y : Int) : binD .sub (eI x) (eI y) = (R.ok (x - y)).mp eI := rfl
def mulR (x y : Int) : R Int := if inB x || inB y then .ok (x * y) else .no
theorem o_mul (x y : Int) : binD .mul (eI x) (eI y) = (mulR x y).mp eI := by
  simp only [binD, mulD, mulR]
  split <;> rfl
def modR (x y : Int) : R Int := if 0 < y then .ok (x % y) else .no
theorem o_mod (x y : Int) : binD .mod (eI x) (eI y) = (modR x y).mp eI := by
  simp only [binD, modD, modR]
  by_cases q : 0 < y
  · simp [q]
  · simp [q] <;> rfl
def fdivR (x y : Int) : R Int := if 0 < y ∧ y < 1073741824 then .ok (x / y) else .no
theorem o_fdiv (x y : Int) : binD .fdiv (eI x) (eI y) = (fdivR x y).mp eI := by
  simp only [binD, fdivD, fdivR]
  by_cases q : 0 < y ∧ y < 1073741824
  · simp [q.1, q.2]
  · rw [if_neg q]
    by_cases q1 : 0 < y
    · have q2 : ¬ y < 1073741824 := fun z => q ⟨q1, z⟩
      simp [q1, q2] <;> rfl
    · simp [q1] <;> rfl
/-- by a written number -/
theorem t_mulL {n : Int} {rb : R Int} (hn : inB n = true) (qb : Lr (evE c b ρ) (rb.mp eI)) : Lr (evE c (.bin .mul (.int n) b) ρ) ((rb.bd fun y => R.ok (n * y)).mp eI) := by
  rw [evE, evE]; show Lr ((evE c b ρ).bind fun y => binD .mul (.int n) y) _; exact lm qb fun y => by simp [binD, mulD, hn]
theorem t_modL {n : Int} {ra : R Int} (hn : decide (0 < n) = true) (qa : Lr (evE c a ρ) (ra.mp eI)) : Lr (evE c (.bin .mod a (.int n)) ρ) ((ra.bd fun x => R.ok (x % n)).mp eI) := by
  have hn := of_decide_eq_true hn
  rw [evE]; exact lm qa fun x => by simp [evE, binD, modD, hn]
theorem t_fdivL {n : Int} {ra : R Int} (hn : decide (0 < n ∧ n < 1073741824) = true) (qa : Lr (evE c a ρ) (ra.mp eI)) : Lr (evE c (.bin .fdiv a (.int n)) ρ) ((ra.bd fun x => R.ok (x / n)).mp eI) := by
  have hn := of_decide_eq_true hn
  rw [evE]; exact lm qa fun x => by simp [evE, binD, fdivD, hn.1, hn.2]
def catR (xs ys : List α) : R (List α) := if xs.length + ys.length ≤ LIM then .ok (xs ++ ys) else .no
theorem o_catL (g : α → D) (x y : List α) : binD .add (eL g x) (eL g y) = (catR x y).mp (eL g) := by
  simp only [binD, addD, eL, catR, lim, List.length_map]
  split
  · simp [eL]
  · rfl
theorem o_catT (g : α → D) (x y : List α) : binD .add (eT g x) (eT g y) = (catR x y).mp (eT g) := by
  simp only [binD, addD, eT, catR, lim, List.length_map]
  split
  · simp [eT]
  · rfl
def repR (xs : List α) (n : Int) : R (List α) := if decide (-1 ≤ n) && decide (n ≤ 1000) && decide (xs.length ≤ 1000) then .ok (times n xs) else .no
theorem times_map {f : α → β} (n : Int) (xs : List α) : times n (xs.map f) = (times n xs).map f := by
  simp [times, List.map_flatten, List.map_replicate]
theorem o_repL (g : α → D) (x : List α) (n : Int) : binD .mul (eL g x) (eI n) = (repR x n).mp (eL g) := by
  simp only [binD, mulD, eL, repR, List.length_map]
  split
  · simp [eL, times_map]
  · rfl
/-- [x] * int(b) -/
theorem t_rep1 {ra : R α} {rb : R Bool} (qa : Lr (evE c a ρ) (ra.mp g)) (qb : Lr (evE c b ρ) (rb.mp eB)) : Lr (evE c (.bin .mul (.lst (.cons a .nil)) (.bi .int (.cons b .nil))) ρ) ((ra.bd fun x => rb.bd fun y => R.ok (if y then [x] else [])).mp (eL g)) := by
  rw [evE, evE, evEs, evEs, evE, evEs, evEs]
  rcases qa with qa | qa
  · rw [mp_no qa]; exact .inl rfl
  rw [qa]
  cases ra with
  | ok x =>
    rcases qb with qb | qb
    · rw [mp_no qb]; exact .inl rfl
    rw [qb]
    cases rb with
    | ok y => cases y <;> exact .inr rfl
    | ex _ => exact .inr rfl
    | no => exact .inl rfl
  | ex _ => exact .inr rfl
  | no => exact .inl rfl
/-! ### displays -/
theorem es_nil : Lr (evEs c .nil ρ) ((R.ok []).mp (List.map g)) := by
  rw [evEs]; exact .of rfl
theorem es_cons {rs : R (List α)} (qa : Lr (evE c a ρ) (ra.mp g)) (qs : Lr (evEs c es ρ) (rs.mp (List.map g))) : Lr (evEs c (.cons a es) ρ) ((ra.bd fun x => rs.bd fun xs => R.ok (x :: xs)).mp (List.map g)) := by
  rw [evEs]; exact lb qa fun x => lm qs fun xs => rfl
theorem t_tupT {rs : R (List α)} (qs : Lr (evEs c es ρ) (rs.mp (List.map g))) : Lr (evE c (.tup es) ρ) (rs.mp (eT g)) := by
  rw [evE]; exact lk qs fun _ => rfl
theorem t_lst {rs : R (List α)} (qs : Lr (evEs c es ρ) (rs.mp (List.map g))) : Lr (evE c (.lst es) ρ) (rs.mp (eL g)) := by
  rw [evE]; exact lk qs fun _ => rfl
theorem t_tup2 (qa : Lr (evE c a ρ) (ra.mp g)) (qb : Lr (evE c b ρ) (rb.mp h)) : Lr (evE c (.tup (.cons a (.cons b .nil))) ρ) ((ra.bd fun x => rb.bd fun y => R.ok ((x, y))).mp (eP g h)) := by
  rw [evE, evEs, evEs, evEs]; exact lbs qa fun x => lm1 qb fun y => rfl
theorem t_tup3 (qa : Lr (evE c a ρ) (ra.mp g)) (qb : Lr (evE c b ρ) (rb.mp h)) (qd : Lr (evE c d ρ) (rd.mp l)) : Lr (evE c (.tup (.cons a (.cons b (.cons d .nil)))) ρ) ((ra.bd fun x => rb.bd fun y => rd.bd fun z => R.ok ((x, y, z))).mp (eP3 g h l)) := by
  rw [evE, evEs, evEs, evEs, evEs]; exact lbs qa fun x => lbs qb fun y => lm1 qd fun z => rfl
/-! ### comparisons -/
theorem t_cmp {op : COp} {f : α → β → R Bool} (o : ∀ x y, cmpD op (g x) (h y) = f x y) (qa : Lr (evE c a ρ) (ra.mp g)) (qb : Lr (evE c b ρ) (rb.mp h)) : Lr (evE c (.cmp op a b) ρ) ((ra.bd fun x => rb.bd fun y => f x y).mp eB) := by
  rw [evE]; exact lb qa fun x => lb qb fun y => by rw [o]; cases f x y <;> exact .inr rfl
theorem o_eq {n : Nat} (g : α → D) [Cd g n] [DecidableEq α] (hn : n ≤ 64) (x y : α) : cmpD .eq (g x) (g y) = .ok (decide (x = y)) := by rw [cmp_eq (Cd.shp hn x) (Cd.shp hn y), Cd.dec]
theorem o_ne {n : Nat} (g : α → D) [Cd g n] [DecidableEq α] (hn : n ≤ 64) (x y : α) : cmpD .ne (g x) (g y) = .ok (!decide (x = y)) := by rw [cmp_ne (Cd.shp hn x) (Cd.shp hn y), Cd.dec]
theorem o_eqD (x y : D) : cmpD .eq (eD x) (eD y) = eqD x y := rfl
def neD (x y : D) : R Bool := (eqD x y).mp fun k => !k
theorem o_neD (x y : D) : cmpD .ne (eD x) (eD y) = neD x y := by
  show (eqD x y).bind _ = _
  unfold neD
  cases eqD x y <;> rfl
theorem o_lt (x y : Int) : cmpD .lt (eI x) (eI y) = .ok (decide (x < y)) := cmp_lt_int x y
theorem o_le (x y : Int) : cmpD .le (eI x) (eI y) = .ok (decide (x ≤ y)) := cmp_le_int x y
theorem o_gt (x y : Int) : cmpD .gt (eI x) (eI y) = .ok (decide (y < x)) := cmp_gt_int x y
theorem o_ge (x y : Int) : cmpD .ge (eI x) (eI y) = .ok (decide (y ≤ x)) := cmp_ge_int x y
theorem o_ltO {n : Nat} (g : α → D) [Cd g n] [PLt α] [CdO g] (hn : n ≤ 64) (x y : α) : cmpD .lt (g x) (g y) = .ok (plt x y) := by
  simp only [cmpD, Cd.shp hn x, Cd.shp hn y, CdO.nn x, CdO.al x y, Bool.and_true, Bool.and_self, if_true, CdO.lt]
theorem o_inL {n : Nat} (g : α → D) [Cd g n] [DecidableEq α] (hn : n + 1 ≤ 64) (x : α) (y : List α) : cmpD .isin (g x) (eL g y) = .ok (memT x y) := by
  have h1 : shp (eL g y) = true := Cd.shp hn y
  unfold eL at h1 ⊢
  rw [cmp_in_lst (Cd.shp (by omega) x) h1, any_map]; rfl
theorem o_inT {n : Nat} (g : α → D) [Cd g n] [DecidableEq α] (hn : n + 1 ≤ 64) (x : α) (y : List α) : cmpD .isin (g x) (eT g y) = .ok (memT x y) := by
  have h1 : shp (eT g y) = true := Cd.shp hn y
  unfold eT at h1 ⊢
  rw [cmp_in_tup (Cd.shp (by omega) x) h1, any_map]; rfl
theorem o_niL {n : Nat} (g : α → D) [Cd g n] [DecidableEq α] (hn : n + 1 ≤ 64) (x : α) (y : List α) : cmpD .notin (g x) (eL g y) = .ok (!memT x y) := by
  have h1 : shp (eL g y) = true := Cd.shp hn y
  unfold eL at h1 ⊢
  rw [cmp_notin_lst (Cd.shp (by omega) x) h1, any_map]; rfl
theorem o_niT {n : Nat} (g : α → D) [Cd g n] [DecidableEq α] (hn : n + 1 ≤ 64) (x : α) (y : List α) : cmpD .notin (g x) (eT g y) = .ok (!memT x y) := by
  have h1 : shp (eT g y) = true := Cd.shp hn y
  unfold eT at h1 ⊢
  rw [cmp_notin_tup (Cd.shp (by omega) x) h1, any_map]; rfl
theorem t_isN {n : Bool} (hn : ∀ x, notN (g x) = true) (q : Lr (evE c a ρ) (ra.mp fun o => g o)) : Lr (evE c (.isN a n) ρ) ((ra.bd fun _ => R.ok (n)).mp eB) := by
  rw [evE]; exact lm q fun x => by rw [hn]; cases n <;> rfl
theorem t_isNO {n : Bool} {ra : R (Option α)} (hn : ∀ x, notN (g x) = true) (q : Lr (evE c a ρ) (ra.mp (eO g))) : Lr (evE c (.isN a n) ρ) ((ra.bd fun o => R.ok (n == o.isSome)).mp eB) := by
  rw [evE]
  refine lm q fun x => ?_
  cases x with
  | none => cases n <;> rfl
  | some x =>
    show R.ok (PyData.bool (n == notN (g x))) = _
    rw [hn]
    cases n <;> rfl
theorem t_isND {n : Bool} {ra : R D} (q : Lr (evE c a ρ) (ra.mp eD)) : Lr (evE c (.isN a n) ρ) ((ra.bd fun o => R.ok (n == notN o)).mp eB) := by
  rw [evE]; exact lm q fun _ => rfl
/-! ### and, or, not, if -/
theorem t_not {ra : R Bool} (q : Lr (evE c a ρ) (ra.mp eB)) : Lr (evE c (.not a) ρ) ((ra.bd fun x => R.ok (!x)).mp eB) := by
  rw [evE]; exact lm q fun _ => rfl
theorem t_and {ra : R Bool} (q : Lr (evAnd c es ρ) (ra.mp eB)) : Lr (evE c (.and es) ρ) (ra.mp eB) := by
  rw [evE]; exact q
theorem t_or {ra : R Bool} (q : Lr (evOr c es ρ) (ra.mp eB)) : Lr (evE c (.or es) ρ) (ra.mp eB) := by
  rw [evE]; exact q
theorem and_one {ra : R Bool} (q : Lr (evE c a ρ) (ra.mp eB)) : Lr (evAnd c (.cons a .nil) ρ) (ra.mp eB) := by
  rw [evAnd]; exact lk q fun _ => rfl
theorem or_one {ra : R Bool} (q : Lr (evE c a ρ) (ra.mp eB)) : Lr (evOr c (.cons a .nil) ρ) (ra.mp eB) := by
  rw [evOr]; exact lk q fun _ => rfl
theorem and_P {x y : Bool} (q : Lr (evE c a ρ) ((R.ok x).mp eB)) (qs : Lr (evAnd c (.cons b es) ρ) ((R.ok y).mp eB)) : Lr (evAnd c (.cons a (.cons b es)) ρ) ((R.ok (x && y)).mp eB) := by
  rw [evAnd, q.ok]
  · cases x
    · exact .inr rfl
    · exact qs
  · intro z; cases z
theorem or_P {x y : Bool} (q : Lr (evE c a ρ) ((R.ok x).mp eB)) (qs : Lr (evOr c (.cons b es) ρ) ((R.ok y).mp eB)) : Lr (evOr c (.cons a (.cons b es)) ρ) ((R.ok (x || y)).mp eB) := by
  rw [evOr, q.ok]
  · cases x
    · exact qs
    · exact .inr rfl
  · intro z; cases z
theorem and_R {ra rs : R Bool} (q : Lr (evE c a ρ) (ra.mp eB)) (qs : Lr (evAnd c (.cons b es) ρ) (rs.mp eB)) : Lr (evAnd c (.cons a (.cons b es)) ρ) ((ra.bd fun k => if k then rs else .ok false).mp eB) := by
  rw [evAnd]
  · refine lb q fun x => ?_
    cases x
    · exact .inr rfl
    · exact qs
  · intro z; cases z
theorem or_R {ra rs : R Bool} (q : Lr (evE c a ρ) (ra.mp eB)) (qs : Lr (evOr c (.cons b es) ρ) (rs.mp eB)) : Lr (evOr c (.cons a (.cons b es)) ρ) ((ra.bd fun k => if k then .ok true else rs).mp eB) := by
  rw [evOr]
  · refine lb q fun x => ?_
    cases x
    · exact qs
    · exact .inr rfl
  · intro z; cases z
theorem t_ifP {t : ME} {k : Bool} {x y : α} (qt : Lr (evE c t ρ) ((R.ok k).mp eB)) (qa : Lr (evE c a ρ) ((R.ok x).mp g)) (qb : Lr (evE c b ρ) ((R.ok y).mp g)) : Lr (evE c (.ife t a b) ρ) ((R.ok (if k then x else y)).mp g) := by
  rw [evE, qt.ok]
  cases k
  · exact qb
  · exact qa
theorem t_ifR {t : ME} {rt : R Bool} {rx ry : R α} (qt : Lr (evE c t ρ) (rt.mp eB)) (qa : Lr (evE c a ρ) (rx.mp g)) (qb : Lr (evE c b ρ) (ry.mp g)) : Lr (evE c (.ife t a b) ρ) ((rt.bd fun k => if k then rx else ry).mp g) := by
  rw [evE]
  refine lb qt fun k => ?_
  cases k
  · exact qb
  · exact qa
theorem t_chain {o1 o2 : COp} {x y z : Int} {f1 f2 : Int → Int → Bool} (h1 : ∀ x y, cmpD o1 (eI x) (eI y) = .ok (f1 x y)) (h2 : ∀ x y, cmpD o2 (eI x) (eI y) = .ok (f2 x y)) (qa : Lr (evE c a ρ) ((R.ok x).mp eI)) (qb : Lr (evE c b ρ) ((R.ok y).mp eI)) (qd : Lr (evE c d ρ) ((R.ok z).mp eI)) : Lr (evE c (.chain o1 o2 a b d) ρ) ((R.ok (f1 x y && f2 y z)).mp eB) := by
  rw [evE, qa.ok, qb.ok, qd.ok]
  refine .inr ?_
  show (cmpD o1 (eI x) (eI y)).bind _ = _
  rw [h1]
  show (if f1 x y = true then (cmpD o2 (eI y) (eI z)).bind _ else _) = _
  rw [h2]
  cases f1 x y <;> rfl
/-! ### places -/
def ixR (xs : List α) (n : Int) : R α := ofO (L2.atI xs n)
theorem atI_mapT (f : α → β) (xs : List α) (n : Int) : L2.atI (xs.map f) n = (L2.atI xs n).map f := by
  unfold L2.atI
  rw [List.length_map]
  cases L2.ixN xs.length n with
  | none => rfl
  | some j => simp
theorem t_idx {f : α → β → R γ} (o : ∀ x y, idxD (g x) (h y) = (f x y).mp k) (qa : Lr (evE c a ρ) (ra.mp g)) (qb : Lr (evE c b ρ) (rb.mp h)) : Lr (evE c (.idx a b) ρ) ((ra.bd fun x => rb.bd fun y => f x y).mp k) := by
  rw [evE]; exact lb qa fun x => lb qb fun y => .of (o x y)
theorem o_ixL (g : α → D) (x : List α) (n : Int) : idxD (eL g x) (eI n) = (ixR x n).mp g := by
  show ofO (L2.atI (x.map g) n) = _
  rw [atI_mapT, ixR]
  cases L2.atI x n <;> rfl
theorem o_ixT (g : α → D) (x : List α) (n : Int) : idxD (eT g x) (eI n) = (ixR x n).mp g := by
  show ofO (L2.atI (x.map g) n) = _
  rw [atI_mapT, ixR]
  cases L2.atI x n <;> rfl
theorem t_fst {ra : R (α × β)} (q : Lr (evE c a ρ) (ra.mp (eP g h))) : Lr (evE c (.idx a (.int 0)) ρ) ((ra.bd fun x => R.ok (x.1)).mp g) := by
  rw [evE]; exact lm q fun _ => by rw [evE]; rfl
theorem t_snd {ra : R (α × β)} (q : Lr (evE c a ρ) (ra.mp (eP g h))) : Lr (evE c (.idx a (.int 1)) ρ) ((ra.bd fun x => R.ok (x.2)).mp h) := by
  rw [evE]; exact lm q fun _ => by rw [evE]; rfl
theorem t_sl {lo hi : MO} {rl rh : R (Option Int)} {f : α → Option Int → Option Int → R γ} (o : ∀ x l h, slD l h (g x) = (f x l h).mp k) (qa : Lr (evE c a ρ) (ra.mp g)) (ql : Lr (evO c lo ρ) (rl)) (qh : Lr (evO c hi ρ) (rh)) : Lr (evE c (.sl a lo hi) ρ) ((ra.bd fun x => rl.bd fun l => rh.bd fun h => f x l h).mp k) := by
  rw [evE]; exact lb qa fun x => lbo ql fun l => lbo qh fun h => .of (o x l h)
theorem o_none : Lr (evO c .none ρ) (R.ok none) := by
  rw [evO]; exact .of rfl
theorem o_some {ra : R Int} (q : Lr (evE c a ρ) (ra.mp eI)) : Lr (evO c (.some a) ρ) (ra.bd fun x => R.ok (some x)) := by
  rw [evO]; exact lmb q fun _ => rfl
theorem cut_map (f : α → β) (xs : List α) (l h : Option Int) : cut (xs.map f) l h = (cut xs l h).map f := by simp [cut, List.map_take, List.map_drop]
theorem o_slL (g : α → D) (x : List α) (l h : Option Int) : slD l h (eL g x) = (R.ok (cut x l h)).mp (eL g) := by simp [slD, eL, cut_map]
theorem o_slT (g : α → D) (x : List α) (l h : Option Int) : slD l h (eT g x) = (R.ok (cut x l h)).mp (eT g) := by simp [slD, eT, cut_map]
theorem t_revL {ra : R (List α)} (q : Lr (evE c a ρ) (ra.mp (eL g))) : Lr (evE c (.rev a) ρ) ((ra.bd fun x => R.ok (List.reverse x)).mp (eL g)) := by
  rw [evE]; exact lm q fun x => by simp [revD, eL]
theorem t_revT {ra : R (List α)} (q : Lr (evE c a ρ) (ra.mp (eT g))) : Lr (evE c (.rev a) ρ) ((ra.bd fun x => R.ok (List.reverse x)).mp (eT g)) := by
  rw [evE]; exact lm q fun x => by simp [revD, eT]
theorem oddL_map (f : α → β) : ∀ xs : List α, oddL (xs.map f) = (oddL xs).map f
  | [] => by simp [oddL]
  | [_] => by simp [oddL]
  | _ :: _ :: r => by simp [oddL, oddL_map f r]
theorem t_oddT {ra : R (List α)} (q : Lr (evE c a ρ) (ra.mp (eT g))) : Lr (evE c (.odds a) ρ) ((ra.bd fun x => R.ok (oddL x)).mp (eT g)) := by
  rw [evE]; exact lm q fun x => by simp [oddD, eT, oddL_map]
/-! ### what is built in -/
theorem t_bi1 {bi : BI} {f : α → R γ} (o : ∀ x, biD bi [g x] = (f x).mp k) (q : Lr (evE c a ρ) (ra.mp g)) : Lr (evE c (.bi bi (.cons a .nil)) ρ) ((ra.bd f).mp k) := by
  rw [evE, evEs, evEs]; exact lb1 q fun x => .of (o x)
theorem t_bi2 {bi : BI} {f : α → β → R γ} (o : ∀ x y, biD bi [g x, h y] = (f x y).mp k) (qa : Lr (evE c a ρ) (ra.mp g)) (qb : Lr (evE c b ρ) (rb.mp h)) : Lr (evE c (.bi bi (.cons a (.cons b .nil))) ρ) ((ra.bd fun x => rb.bd fun y => f x y).mp k) := by
  rw [evE, evEs, evEs, evEs]; exact lbs qa fun x => lb1 qb fun y => .of (o x y)
theorem o_lenL (g : α → D) (x : List α) : biD .len [eL g x] = (R.ok (x.length : Int)).mp eI := by simp [eL, biD]
theorem o_lenT (g : α → D) (x : List α) : biD .len [eT g x] = (R.ok (x.length : Int)).mp eI := by simp [eT, biD]
theorem o_lenSc (x : Sc) : biD .len [eSc x] = (R.ok (x.ns.length : Int)).mp eI := by simp [eSc, biD]
theorem allB_mapT : ∀ x : List Bool, allB (x.map eB) = some (x.all fun k => k)
  | [] => rfl
  | b :: x => by simp [allB, allB_mapT x]
theorem o_all (x : List Bool) : biD .all [eL eB x] = (R.ok (x.all fun k => k)).mp eB := by
  show (ofO (allB (x.map eB))).bind _ = _
  rw [allB_mapT]
  rfl
theorem o_srtL {n : Nat} (g : α → D) [Cd g n] [PLt α] [CdO g] (hn : n ≤ 64) (x : List α) : biD .sorted [eL g x] = (R.ok (srtT x)).mp (eL g) := by
  show (sortD (x.map g)).bind _ = _
  rw [sortD_map hn]
  rfl
theorem o_srtT {n : Nat} (g : α → D) [Cd g n] [PLt α] [CdO g] (hn : n ≤ 64) (x : List α) : biD .sorted [eT g x] = (R.ok (srtT x)).mp (eL g) := by
  show (sortD (x.map g)).bind _ = _
  rw [sortD_map hn]
  rfl
theorem o_LL (g : α → D) (x : List α) : biD .list [eL g x] = (R.ok x).mp (eL g) := rfl
theorem o_LT (g : α → D) (x : List α) : biD .list [eT g x] = (R.ok x).mp (eL g) := rfl
theorem o_TL (g : α → D) (x : List α) : biD .tuple [eL g x] = (R.ok x).mp (eT g) := rfl
theorem o_TT (g : α → D) (x : List α) : biD .tuple [eT g x] = (R.ok x).mp (eT g) := rfl
theorem o_intB (x : Bool) : biD .int [eB x] = (R.ok (if x then (1 : Int) else 0)).mp eI := rfl
theorem o_min2 (x y : Int) : biD .min2 [eI x, eI y] = (R.ok (if y < x then y else x)).mp eI := rfl
theorem o_max2 (x y : Int) : biD .max2 [eI x, eI y] = (R.ok (if y > x then y else x)).mp eI := rfl
def minT [PLt α] : List α → R α
  | [] => .no
  | x :: xs => .ok (xs.foldl (fun a y => if plt y a then y else a) x)
def maxT [PLt α] : List α → R α
  | [] => .no
  | x :: xs => .ok (xs.foldl (fun a y => if plt a y then y else a) x)
theorem fold_map {f : D → D → Bool} {f' : α → α → Bool} (hf : ∀ a b, f (g a) (g b) = f' a b) : ∀ (xs : List α) (x : α), (xs.map g).foldl (fun a y => if f y a then y else a) (g x) = g (xs.foldl (fun a y => if f' y a then y else a) x)
  | [], _ => rfl
  | y :: ys, x => by
    simp only [List.map_cons, List.foldl_cons, hf]
    have := fold_map hf ys
    split <;> exact this _
theorem minD_map {n : Nat} (g : α → D) [Cd g n] [PLt α] [CdO g] (hn : n ≤ 64) (x : List α) : minD (x.map g) = (minT x).mp g := by
  cases x with
  | nil => rfl
  | cons x xs =>
    have := cmpl_map (e := g) hn (x :: xs)
    simp only [List.map_cons] at this
    simp only [List.map_cons, minD, this, if_true, minT, mp_ok]
    rw [fold_map (f := ltB) (f' := plt) (fun a b => CdO.lt a b)]
theorem maxD_map {n : Nat} (g : α → D) [Cd g n] [PLt α] [CdO g] (hn : n ≤ 64) (x : List α) : maxD (x.map g) = (maxT x).mp g := by
  cases x with
  | nil => rfl
  | cons x xs =>
    have := cmpl_map (e := g) hn (x :: xs)
    simp only [List.map_cons] at this
    simp only [List.map_cons, maxD, this, if_true, maxT, mp_ok]
    rw [fold_map (f := fun a b => ltB b a) (f' := fun a b => plt b a) (fun a b => CdO.lt b a)]
theorem o_minL {n : Nat} (g : α → D) [Cd g n] [PLt α] [CdO g] (hn : n ≤ 64) (x : List α) : biD .min1 [eL g x] = (minT x).mp g := minD_map g hn x
theorem o_maxL {n : Nat} (g : α → D) [Cd g n] [PLt α] [CdO g] (hn : n ≤ 64) (x : List α) : biD .max1 [eL g x] = (maxT x).mp g := maxD_map g hn x
theorem o_maxT {n : Nat} (g : α → D) [Cd g n] [PLt α] [CdO g] (hn : n ≤ 64) (x : List α) : biD .max1 [eT g x] = (maxT x).mp g := maxD_map g hn x
theorem t_isi {t : Ty} {r : Bool} (hi : ∀ x, isiD t (g x) = r) (q : Lr (evE c a ρ) (ra.mp g)) : Lr (evE c (.isi a t) ρ) ((ra.bd fun _ => R.ok (r)).mp eB) := by
  rw [evE]; exact lm q fun x => by rw [hi]
theorem t_isiD {t : Ty} {ra : R D} (q : Lr (evE c a ρ) (ra.mp eD)) : Lr (evE c (.isi a t) ρ) ((ra.bd fun x => R.ok (isiD t x)).mp eB) := by
  rw [evE]; exact lm q fun _ => rfl
/-! ### sets -/
class SetC {α : Type} (g : α → D) (m : outParam Nat) : Prop where
  ok : ∀ xs : List α, setOk (xs.map g) = decide (xs.length < m)
instance : SetC eI 4000 := ⟨fun xs => by
  have h1 : (xs.map eI).all isInt = true := by simp [List.all_map, isInt]
  unfold setOk
  rw [h1, List.length_map]
  cases xs with
  | nil => rfl
  | cons x xs =>
    have h2 : ((x :: xs).map eI).all hTup = false := by simp [hTup]
    rw [h2]
    simp⟩
theorem setC_tup {g : α → D} (hg : ∀ x, hTup (g x) = true) (hi : ∀ x, isInt (g x) = false) (xs : List α) : setOk (xs.map g) = decide (xs.length < 64) := by
  have h1 : (xs.map g).all hTup = true := by simp [List.all_map, hg]
  unfold setOk
  rw [h1, List.length_map]
  cases xs with
  | nil => rfl
  | cons x xs =>
    have h2 : ((x :: xs).map g).all isInt = false := by simp [hi]
    rw [h2]
    simp
instance : SetC (eT eI) 64 := ⟨setC_tup (fun x => hTup_int (by simp [eT, intTup, List.all_map, isInt])) fun x => rfl⟩
instance : SetC (eP eI eI) 64 := ⟨setC_tup (fun x => by simp [eP, hTup, hshAll, hsh, PyData.depth, PyData.depthAll]) fun x => rfl⟩
instance : SetC (eP eW eI) 64 := ⟨setC_tup (fun x => by simp [eP, eW, hTup, hshAll, hsh, PyData.depth, PyData.depthAll]) fun x => rfl⟩
instance : SetC (eP eS eI) 64 := ⟨setC_tup (fun x => by simp [eP, hTup, hshAll, hsh, PyData.depth, PyData.depthAll]) fun x => rfl⟩
def setR [DecidableEq α] (m : Nat) (xs : List α) : R (List α) := if xs.length < m then .ok (dedT xs) else .no
theorem t_lsetL {m n : Nat} [DecidableEq α] [Cd g n] [SetC g m] {ra : R (List α)} (q : Lr (evE c a ρ) (ra.mp (eL g))) : Lr (evE c (.lenset a) ρ) ((ra.bd fun x => (setR m x).mp fun y => (y.length : Int)).mp eI) := by
  rw [evE]
  refine lb q fun x => .of ?_
  show (if setOk (x.map g) then R.ok (PyData.int ((dedup (x.map g)).length : Nat)) else R.no) = _
  rw [SetC.ok (g := g), dedup_map]
  simp only [decide_eq_true_eq, setR, List.length_map]
  split <;> rfl
theorem t_lsetT {m n : Nat} [DecidableEq α] [Cd g n] [SetC g m] {ra : R (List α)} (q : Lr (evE c a ρ) (ra.mp (eT g))) : Lr (evE c (.lenset a) ρ) ((ra.bd fun x => (setR m x).mp fun y => (y.length : Int)).mp eI) := by
  rw [evE]
  refine lb q fun x => .of ?_
  show (if setOk (x.map g) then R.ok (PyData.int ((dedup (x.map g)).length : Nat)) else R.no) = _
  rw [SetC.ok (g := g), dedup_map]
  simp only [decide_eq_true_eq, setR, List.length_map]
  split <;> rfl
theorem t_ssetL {m n : Nat} [DecidableEq α] [PLt α] [Cd g n] [CdO g] [SetC g m] (hn : n ≤ 64) {ra : R (List α)} (q : Lr (evE c a ρ) (ra.mp (eL g))) : Lr (evE c (.sortset a) ρ) ((ra.bd fun x => (setR m x).mp srtT).mp (eL g)) := by
  rw [evE]
  refine lb q fun x => .of ?_
  show (if setOk (x.map g) then (sortD (dedup (x.map g))).bind fun ys => R.ok (PyData.list ys) else R.no) = _
  rw [SetC.ok (g := g), dedup_map, sortD_map hn]
  simp only [decide_eq_true_eq, setR, bind_ok']
  split <;> rfl
theorem t_ssetT {m n : Nat} [DecidableEq α] [PLt α] [Cd g n] [CdO g] [SetC g m] (hn : n ≤ 64) {ra : R (List α)} (q : Lr (evE c a ρ) (ra.mp (eT g))) : Lr (evE c (.sortset a) ρ) ((ra.bd fun x => (setR m x).mp srtT).mp (eL g)) := by
  rw [evE]
  refine lb q fun x => .of ?_
  show (if setOk (x.map g) then (sortD (dedup (x.map g))).bind fun ys => R.ok (PyData.list ys) else R.no) = _
  rw [SetC.ok (g := g), dedup_map, sortD_map hn]
  simp only [decide_eq_true_eq, setR, bind_ok']
  split <;> rfl
/-! ### ranges -/
def irg (x y : Int) : List Int := (List.range (y - x).toNat).map fun n : Nat => x + (n : Int)
def rngR (x y : Int) : R (List Int) := if rgOk x y then .ok (irg x y) else .no
theorem rangeD_T (x y : Int) : rangeD x y = (rngR x y).mp (List.map eI) := by
  unfold rangeD rngR
  split
  · simp [rangeL, irg, Function.comp]
  · rfl
theorem i_rng {ra : R Int} (q : Lr (evE c a ρ) (ra.mp eI)) : Lr (evI c (.rng a) ρ) ((ra.bd fun n => rngR 0 n).mp (List.map eI)) := by
  rw [evI]; exact lb q fun n => .of (rangeD_T 0 n)
theorem i_rngL {n : Int} (hn : rgOk 0 n = true) : Lr (evI c (.rng (.int n)) ρ) ((R.ok (irg 0 n)).mp (List.map eI)) := by
  rw [evI, evE]
  refine .of ?_
  show rangeD 0 n = _
  rw [rangeD_T, rngR, if_pos hn]
theorem i_rng2 {ra rb : R Int} (qa : Lr (evE c a ρ) (ra.mp eI)) (qb : Lr (evE c b ρ) (rb.mp eI)) : Lr (evI c (.rng2 a b) ρ) ((ra.bd fun n => rb.bd fun m => rngR n m).mp (List.map eI)) := by
  rw [evI]; exact lb qa fun n => lb qb fun m => .of (rangeD_T n m)
theorem t_lrg {ra : R Int} (q : Lr (evE c a ρ) (ra.mp eI)) : Lr (evE c (.lrange a) ρ) ((ra.bd fun n => rngR 0 n).mp (eL eI)) := by
  rw [evE]
  refine lb q fun n => .of ?_
  show (rangeD 0 n).bind _ = _
  rw [rangeD_T]
  cases rngR 0 n <;> rfl
theorem t_trg {ra : R Int} (q : Lr (evE c a ρ) (ra.mp eI)) : Lr (evE c (.trange a) ρ) ((ra.bd fun n => rngR 0 n).mp (eT eI)) := by
  rw [evE]
  refine lb q fun n => .of ?_
  show (rangeD 0 n).bind _ = _
  rw [rangeD_T]
  cases rngR 0 n <;> rfl
theorem t_lrg2 {ra rb : R Int} (qa : Lr (evE c a ρ) (ra.mp eI)) (qb : Lr (evE c b ρ) (rb.mp eI)) : Lr (evE c (.lrange2 a b) ρ) ((ra.bd fun n => rb.bd fun m => rngR n m).mp (eL eI)) := by
  rw [evE]
  refine lb qa fun n => lb qb fun m => .of ?_
  show (rangeD n m).bind _ = _
  rw [rangeD_T]
  cases rngR n m <;> rfl
/-! ### what is walked -/
theorem i_seqL {ra : R (List α)} (q : Lr (evE c a ρ) (ra.mp (eL g))) : Lr (evI c (.seq a) ρ) (ra.mp (List.map g)) := by
  rw [evI]; exact lk q fun _ => rfl
theorem i_seqT {ra : R (List α)} (q : Lr (evE c a ρ) (ra.mp (eT g))) : Lr (evI c (.seq a) ρ) (ra.mp (List.map g)) := by
  rw [evI]; exact lk q fun _ => rfl
def enT (n : Int) : List α → List (Int × α)
  | [] => []
  | x :: xs => (n, x) :: enT (n + 1) xs
theorem enumD_map (g : α → D) : ∀ (xs : List α) (n : Nat), enumD n (xs.map g) = (enT (n : Int) xs).map (eP eI g)
  | [], _ => rfl
  | x :: xs, n => by
    simp only [List.map_cons, enumD, enT, enumD_map g xs (n + 1)]
    rfl
theorem i_enT {ra : R (List α)} (q : Lr (evE c a ρ) (ra.mp (eT g))) : Lr (evI c (.enum a) ρ) ((ra.bd fun x => R.ok ((enT 0) x)).mp (List.map (eP eI g))) := by
  rw [evI]
  refine lm q fun x => ?_
  show R.ok (enumD 0 (x.map g)) = _
  rw [enumD_map]; rfl
theorem i_enL {ra : R (List α)} (q : Lr (evE c a ρ) (ra.mp (eL g))) : Lr (evI c (.enum a) ρ) ((ra.bd fun x => R.ok ((enT 0) x)).mp (List.map (eP eI g))) := by
  rw [evI]
  refine lm q fun x => ?_
  show R.ok (enumD 0 (x.map g)) = _
  rw [enumD_map]; rfl
theorem zipD_map (g : α → D) (h : β → D) : ∀ (xs : List α) (ys : List β), zipD (xs.map g) (ys.map h) = (xs.zip ys).map (eP g h)
  | [], _ => by simp [zipD]
  | _ :: _, [] => by simp [zipD]
  | x :: xs, y :: ys => by
    simp only [List.map_cons, zipD, List.zip_cons_cons, zipD_map g h xs ys]
    rfl
theorem i_zipT {ra : R (List α)} {rb : R (List β)} (qa : Lr (evE c a ρ) (ra.mp (eT g))) (qb : Lr (evE c b ρ) (rb.mp (eT h))) : Lr (evI c (.zip a b) ρ) ((ra.bd fun x => rb.bd fun y => R.ok (x.zip y)).mp (List.map (eP g h))) := by
  rw [evI]
  refine lb qa fun x => lm qb fun y => ?_
  show R.ok (zipD (x.map g) (y.map h)) = _
  rw [zipD_map]
theorem t_lzip {ra : R (List α)} {rb : R (List β)} (qa : Lr (evE c a ρ) (ra.mp (eT g))) (qb : Lr (evE c b ρ) (rb.mp (eT h))) : Lr (evE c (.lzip a b) ρ) ((ra.bd fun x => rb.bd fun y => R.ok (x.zip y)).mp (eL (eP g h))) := by
  rw [evE]
  refine lb qa fun x => lm qb fun y => ?_
  show R.ok (PyData.list (zipD (x.map g) (y.map h))) = _
  rw [zipD_map]; rfl
/-! ### comprehensions -/
def lcR (f : α → R (Option β)) : List α → R (List β)
  | [] => .ok []
  | x :: xs => (f x).calm.bind fun r => (lcR f xs).mp fun rest => match r with
    | some d => d :: rest
    | none => rest
theorem lc_map {F : D → R (Option D)} {f : α → R (Option β)} (q : ∀ x, Lr (F (g x)) ((f x).mp (Option.map h))) : ∀ xs : List α, Lr (lcLoop (fun x => (F x).calm) (xs.map g)) ((lcR f xs).mp (List.map h))
  | [] => .inr rfl
  | x :: xs => by
    simp only [List.map_cons, lcLoop, lcR]
    have ih := lc_map q xs
    rcases q x with q1 | q1
    · rw [mp_no q1]; exact .inl rfl
    rw [q1]
    cases f x with
    | ok r =>
      rcases ih with ih | ih
      · rw [mp_no ih]; exact .inl rfl
      simp only [mp_ok, R.calm_ok, bind_ok']
      rw [ih]
      cases r <;> cases lcR f xs <;> exact .inr rfl
    | ex _ => exact .inl rfl
    | no => exact .inl rfl
theorem t_lc {elt : ME} {t : Tg} {it : MI} {cond : MO} {ws : List Nat} {xr : R (List α)} {f : α → R (Option β)} (hi : Lr (evI c it ρ) (xr.mp (List.map g)))
    (q : ∀ x, Lr (((bindT t (g x) (wipe ρ ws)).bind fun ρ' => (evC c cond ρ').bind fun b => if b then (evE c elt ρ').bind fun d => .ok (some d) else .ok none)) ((f x).mp (Option.map h))) : Lr (evE c (.lc elt t it cond ws) ρ) ((xr.bd fun xs => lcR f xs).mp (eL h)) := by
  rw [evE]
  refine lb hi fun xs => ?_
  refine lk (lc_map (h := h) (f := f) (F := fun x => ((bindT t x (wipe ρ ws)).bind fun ρ' => (evC c cond ρ').bind fun b => if b then (evE c elt ρ').bind fun d => .ok (some d) else .ok none)) q xs) fun _ => rfl
theorem lcR_ok {f : α → R (Option β)} {p : α → Option β} (q : ∀ x, f x = .ok (p x)) : ∀ xs : List α, lcR f xs = .ok (xs.filterMap p)
  | [] => rfl
  | x :: xs => by
    simp only [lcR, q, lcR_ok q xs, List.filterMap_cons, R.calm_ok, bind_ok', mp_ok]
    cases p x <;> rfl
theorem c_none : Lr (evC c .none ρ) (.ok true) := by
  rw [evC]; exact .of rfl
theorem c_some {rb : R Bool} (q : Lr (evE c a ρ) (rb.mp eB)) : Lr (evC c (.some a) ρ) (rb) := by
  rw [evC]; exact lc0 q
theorem lc_bd {elt : ME} {cond : MO} {rb : R Bool} {re : R β} (qc : Lr (evC c cond ρ) (rb)) (qe : Lr (evE c elt ρ) (re.mp h)) : Lr (((evC c cond ρ).bind fun b => if b then (evE c elt ρ).bind fun d => R.ok (some d) else .ok none)) ((rb.bd fun b => if b then re.mp some else .ok none).mp (Option.map h)) := by
  rcases qc with qc | qc
  · rw [qc]; exact .inl rfl
  rw [qc]
  cases rb with
  | ok b =>
    cases b
    · exact .inr rfl
    · show Lr ((evE c elt ρ).bind fun d => R.ok (some d)) ((re.mp some).mp (Option.map h)); exact lm qe fun _ => rfl
  | ex _ => exact .inr rfl
  | no => exact .inl rfl
/-- over names: any -/
theorem lc_nm {elt : ME} {it : MI} {cond : MO} {ws : List Nat} {xr : R (List α)} {fc : α → R Bool} {fe : α → R β} (hi : Lr (evI c it ρ) (xr.mp (List.map g))) (qc : ∀ x, Lr (evC c cond ((wipe ρ ws).set i (.val (g x)))) (fc x)) (qe : ∀ x, Lr (evE c elt ((wipe ρ ws).set i (.val (g x)))) ((fe x).mp h)) : Lr (evE c (.lc elt (.nm i) it cond ws) ρ) ((xr.bd fun xs => lcR (fun x => (fc x).bd fun b => if b then (fe x).mp some else .ok none) xs).mp (eL h)) := t_lc hi fun x => lc_bd (qc x) (qe x)
theorem lc_tp {g' : β → D} {h : γ → D} {elt : ME} {it : MI} {cond : MO} {ws : List Nat} {xr : R (List (α × β))} {fc : α → β → R Bool} {fe : α → β → R γ} (hi : Lr (evI c it ρ) (xr.mp (List.map (eP g g')))) (qc : ∀ x y, Lr (evC c cond (((wipe ρ ws).set i (.val (g x))).set j (.val (g' y)))) (fc x y)) (qe : ∀ x y, Lr (evE c elt (((wipe ρ ws).set i (.val (g x))).set j (.val (g' y)))) ((fe x y).mp h)) : Lr (evE c (.lc elt (.tp [i, j]) it cond ws) ρ) ((xr.bd fun xs => lcR (fun x => (fc x.1 x.2).bd fun b => if b then (fe x.1 x.2).mp some else .ok none) xs).mp (eL h)) := t_lc hi fun x => lc_bd (qc x.1 x.2) (qe x.1 x.2)
theorem lcR_map (f : α → β) (xs : List α) : lcR (fun x => (R.ok true).bd fun b => if b then (R.ok (f x)).mp some else .ok none) xs = .ok (xs.map f) := by
  rw [lcR_ok (f := fun x => (R.ok true).bd fun b => if b then (R.ok (f x)).mp some else .ok none) (p := fun x => some (f x)) fun x => rfl]
  congr 1
  induction xs with
  | nil => rfl
  | cons x xs ih => simp [ih]
theorem lcR_fm (p : α → Bool) (f : α → β) (xs : List α) : lcR (fun x => (R.ok (p x)).bd fun b => if b then (R.ok (f x)).mp some else .ok none) xs = .ok ((xs.filter p).map f) := by
  rw [lcR_ok (p := fun x => if p x then some (f x) else none) fun x => by
    show (if p x = true then R.ok (some (f x)) else .ok none) = _
    cases p x <;> rfl]
  congr 1
  induction xs with
  | nil => rfl
  | cons x xs ih =>
    simp only [List.filterMap_cons, List.filter_cons, ih]
    cases p x <;> simp
/-- all of them -/
theorem lc_nmM {elt : ME} {it : MI} {ws : List Nat} {xr : R (List α)} {f : α → β} (hi : Lr (evI c it ρ) (xr.mp (List.map g))) (qe : ∀ x, Lr (evE c elt ((wipe ρ ws).set i (.val (g x)))) ((R.ok (f x)).mp h)) : Lr (evE c (.lc elt (.nm i) it .none ws) ρ) ((xr.bd fun xs => R.ok (xs.map f)).mp (eL h)) := by
  have := lc_nm hi (fun x => c_none) qe
  simp only [lcR_map] at this
  exact this
theorem lc_tpM {g' : β → D} {h : γ → D} {elt : ME} {it : MI} {ws : List Nat} {xr : R (List (α × β))} {f : α → β → γ} (hi : Lr (evI c it ρ) (xr.mp (List.map (eP g g')))) (qe : ∀ x y, Lr (evE c elt (((wipe ρ ws).set i (.val (g x))).set j (.val (g' y)))) ((R.ok (f x y)).mp h)) : Lr (evE c (.lc elt (.tp [i, j]) it .none ws) ρ) ((xr.bd fun xs => R.ok (xs.map fun x => f x.1 x.2)).mp (eL h)) := by
  have := lc_tp hi (fun x y => c_none) qe
  simp only [lcR_map fun x : α × β => f x.1 x.2] at this
  exact this
/-- some of them -/
theorem lc_nmF {elt : ME} {it : MI} {cond : MO} {ws : List Nat} {xr : R (List α)} {p : α → Bool} {f : α → β} (hi : Lr (evI c it ρ) (xr.mp (List.map g))) (qc : ∀ x, Lr (evC c cond ((wipe ρ ws).set i (.val (g x)))) (.ok (p x))) (qe : ∀ x, Lr (evE c elt ((wipe ρ ws).set i (.val (g x)))) ((R.ok (f x)).mp h)) : Lr (evE c (.lc elt (.nm i) it cond ws) ρ) ((xr.bd fun xs => R.ok ((xs.filter p).map f)).mp (eL h)) := by
  have := lc_nm hi qc qe
  simp only [lcR_fm] at this
  exact this
theorem lc_tpF {g' : β → D} {h : γ → D} {elt : ME} {it : MI} {cond : MO} {ws : List Nat} {xr : R (List (α × β))} {p : α → β → Bool} {f : α → β → γ} (hi : Lr (evI c it ρ) (xr.mp (List.map (eP g g')))) (qc : ∀ x y, Lr (evC c cond (((wipe ρ ws).set i (.val (g x))).set j (.val (g' y)))) (.ok (p x y))) (qe : ∀ x y, Lr (evE c elt (((wipe ρ ws).set i (.val (g x))).set j (.val (g' y)))) ((R.ok (f x y)).mp h)) : Lr (evE c (.lc elt (.tp [i, j]) it cond ws) ρ) ((xr.bd fun xs => R.ok ((xs.filter fun x => p x.1 x.2).map fun x => f x.1 x.2)).mp (eL h)) := by
  have := lc_tp hi qc qe
  simp only [lcR_fm (fun x : α × β => p x.1 x.2) fun x : α × β => f x.1 x.2] at this
  exact this
/-- some of them, as they are -/
theorem lc_nmI {elt : ME} {it : MI} {cond : MO} {ws : List Nat} {xr : R (List α)} {p : α → Bool} (hi : Lr (evI c it ρ) (xr.mp (List.map g))) (qc : ∀ x, Lr (evC c cond ((wipe ρ ws).set i (.val (g x)))) (.ok (p x))) (qe : ∀ x, Lr (evE c elt ((wipe ρ ws).set i (.val (g x)))) ((R.ok x).mp g)) : Lr (evE c (.lc elt (.nm i) it cond ws) ρ) ((xr.bd fun xs => R.ok (xs.filter p)).mp (eL g)) := by
  have := lc_nmF hi qc qe
  simpa using this
/-! ### calls -/
theorem t_call1 {f : Str} {m : α → R γ} (o : ∀ x, Lr (c.cal f [g x]) ((m x).mp k)) (qa : Lr (evE c a ρ) (ra.mp g)) : Lr (evE c (.call f (.cons a .nil)) ρ) ((ra.bd fun x => m x).mp k) := by
  rw [evE, evEs, evEs]; exact lb1 qa fun x => o x
theorem t_call2 {f : Str} {m : α → β → R γ} (o : ∀ x y, Lr (c.cal f [g x, h y]) ((m x y).mp k)) (qa : Lr (evE c a ρ) (ra.mp g)) (qb : Lr (evE c b ρ) (rb.mp h)) : Lr (evE c (.call f (.cons a (.cons b .nil))) ρ) ((ra.bd fun x => rb.bd fun y => m x y).mp k) := by
  rw [evE, evEs, evEs, evEs]; exact lbs qa fun x => lb1 qb fun y => o x y
theorem t_call3 {f : Str} {m : α → β → δ → R γ} (o : ∀ x y z, Lr (c.cal f [g x, h y, l z]) ((m x y z).mp k)) (qa : Lr (evE c a ρ) (ra.mp g)) (qb : Lr (evE c b ρ) (rb.mp h)) (qd : Lr (evE c d ρ) (rd.mp l)) : Lr (evE c (.call f (.cons a (.cons b (.cons d .nil)))) ρ) ((ra.bd fun x => rb.bd fun y => rd.bd fun z => m x y z).mp k) := by
  rw [evE, evEs, evEs, evEs, evEs]; exact lbs qa fun x => lbs qb fun y => lb1 qd fun z => o x y z
theorem t_call4 {f : Str} {d' : ME} {l' : ζ → D} {re : R ζ} {m : α → β → δ → ζ → R γ} (o : ∀ x y z u, Lr (c.cal f [g x, h y, l z, l' u]) ((m x y z u).mp k)) (qa : Lr (evE c a ρ) (ra.mp g)) (qb : Lr (evE c b ρ) (rb.mp h)) (qd : Lr (evE c d ρ) (rd.mp l)) (qe : Lr (evE c d' ρ) (re.mp l')) : Lr (evE c (.call f (.cons a (.cons b (.cons d (.cons d' .nil))))) ρ) ((ra.bd fun x => rb.bd fun y => rd.bd fun z => re.bd fun u => m x y z u).mp k) := by
  rw [evE, evEs, evEs, evEs, evEs, evEs]; exact lbs qa fun x => lbs qb fun y => lbs qd fun z => lb1 qe fun u => o x y z u
/-! ### methods of lists -/
def idxT [DecidableEq α] (xs : List α) (x : α) : R Int := if x ∈ xs then .ok (xs.idxOf x : Nat) else .no
theorem place_map {n : Nat} {g : α → D} [Cd g n] [DecidableEq α] (x : α) : ∀ xs : List α, SeqAt.dataPlace (xs.map g) (g x) = if x ∈ xs then some (xs.idxOf x) else none
  | [] => by simp [SeqAt.dataPlace]
  | y :: ys => by
    have ih := place_map (g := g) x ys
    simp only [SeqAt.dataPlace, List.map_cons, List.findIdx?_cons, Cd.dec, List.mem_cons, List.idxOf_cons] at ih ⊢
    by_cases q : y = x
    · subst q; simp
    · have q' : ¬ x = y := fun z => q z.symm
      have qb : (y == x) = false := by simp [q]
      simp only [decide_eq_false q, q', false_or, qb]
      simp only [Bool.false_eq_true, if_false, ih]
      split <;> rfl
theorem t_indexL {n : Nat} [Cd g n] [DecidableEq α] (hn : n + 1 ≤ 64) {ra : R (List α)} {rb : R α} (qa : Lr (evE c a ρ) (ra.mp (eL g))) (qb : Lr (evE c b ρ) (rb.mp g)) : Lr (evE c (.mt .index a (.cons b .nil)) ρ) ((ra.bd fun x => rb.bd fun y => idxT x y).mp eI) := by
  rw [evE]
  refine lb qa fun x => ?_
  show Lr (if mtO .index (eL g x) then (evEs c (.cons b .nil) ρ).bind fun ds => mtD .index (eL g x) ds else .no) _
  rw [if_pos (show mtO .index (eL g x) = true from rfl), evEs, evEs]
  refine lb1 qb fun y => .of ?_
  have h1 : shp (eL g x) = true := Cd.shp hn x
  have h2 : shp (g y) = true := Cd.shp (by omega) y
  show (if shp (g y) && shp (eL g x) then (ofO (SeqAt.dataPlace (x.map g) (g y))).bind fun k => R.ok (PyData.int (k : Nat)) else .no) = (idxT x y).mp eI
  rw [h1, h2, place_map, idxT]
  simp only [Bool.and_self, if_true]
  split <;> rfl
theorem countP_map {n : Nat} {g : α → D} [Cd g n] [DecidableEq α] (x : α) (xs : List α) : ((xs.map g).countP fun z => PyData.eqv z (g x)) = xs.count x := by
  rw [List.countP_map, List.count]
  apply List.countP_congr
  intro y _
  simp [Function.comp, Cd.dec]
theorem t_countL {n : Nat} [Cd g n] [DecidableEq α] (hn : n + 1 ≤ 64) {ra : R (List α)} {rb : R α} (qa : Lr (evE c a ρ) (ra.mp (eL g))) (qb : Lr (evE c b ρ) (rb.mp g)) : Lr (evE c (.mt .count a (.cons b .nil)) ρ) ((ra.bd fun x => rb.bd fun y => R.ok ((x.count y : Int))).mp eI) := by
  rw [evE]
  refine lb qa fun x => ?_
  show Lr (if mtO .count (eL g x) then (evEs c (.cons b .nil) ρ).bind fun ds => mtD .count (eL g x) ds else .no) _
  rw [if_pos (show mtO .count (eL g x) = true from rfl), evEs, evEs]
  refine lm1 qb fun y => ?_
  have h1 : shp (eL g x) = true := Cd.shp hn x
  have h2 : shp (g y) = true := Cd.shp (by omega) y
  show (if shp (g y) && shp (eL g x) then R.ok (PyData.int (((x.map g).countP fun z => PyData.eqv z (g y)) : Nat)) else .no) = _
  rw [h1, h2, countP_map]
  rfl
end
end Wq

end
section
set_option Elab.async false
set_option linter.all false
/-! Defs as they are read. -/
namespace Wq.P
open PySem Wq
def f_is_number : Fd := ⟨3, ["thing", "low", "high"],
    (.cons (.ret (.and (.cons (.isi (.var 0) .int) (.cons (.not (.isi (.var 0) .bool)) (.cons (.chain .le .le (.var 1) (.var 0) (.var 2)) .nil)))))
    .nil)⟩
def f_is_spot : Fd := ⟨1, ["thing"],
    (.cons (.ifs (.or (.cons (.not (.isi (.var 0) .tuple)) (.cons (.cmp .ne (.bi .len (.cons (.var 0) .nil)) (.int 2)) .nil)))
    (.cons (.ret (.bl false))
    .nil)
    .nil)
    (.cons (.ret (.and (.cons (.call "is_number" (.cons (.idx (.var 0) (.int 0)) (.cons (.int 0) (.cons (.bin .sub (.glo "MOST_WIRES") (.int 1)) .nil)))) (.cons (.call "is_number" (.cons (.idx (.var 0) (.int 1)) (.cons (.int 0) (.cons (.bin .sub (.glo "MOST_WIRES") (.int 1)) .nil)))) .nil))))
    .nil))⟩
def x_are_keys_of_C1 : ME := .lc (.call "is_number" (.cons (.var 2) (.cons (.int 0) (.cons (.bin .sub (.var 0) (.int 1)) .nil)))) (.nm 2) (.seq (.var 1)) .none [2]
def x_are_keys_of_C2 : ME := .lc (.cmp .lt (.var 2) (.var 3)) (.tp [2, 3]) (.zip (.var 1) (.sl (.var 1) (.some (.int 1)) .none)) .none [2, 3]
def f_are_keys_of : Fd := ⟨2, ["many", "thing", "one", "other"],
    (.cons (.ifs (.or (.cons (.not (.isi (.var 1) .tuple)) (.cons (.not (.bi .all (.cons x_are_keys_of_C1 .nil))) .nil)))
    (.cons (.ret (.bl false))
    .nil)
    .nil)
    (.cons (.ret (.bi .all (.cons x_are_keys_of_C2 .nil)))
    .nil))⟩
def x_is_square_C1 : ME := .lc (.call "is_spot" (.cons (.var 1) .nil)) (.nm 1) (.seq (.idx (.var 0) (.int 0))) .none [1]
def f_is_square : Fd := ⟨1, ["thing", "one"],
    (.cons (.ifs (.or (.cons (.not (.isi (.var 0) .tuple)) (.cons (.cmp .ne (.bi .len (.cons (.var 0) .nil)) (.int 2)) (.cons (.not (.isi (.idx (.var 0) (.int 0)) .tuple)) .nil))))
    (.cons (.ret (.bl false))
    .nil)
    .nil)
    (.cons (.ifs (.or (.cons (.not (.chain .le .le (.int 1) (.bi .len (.cons (.idx (.var 0) (.int 0)) .nil)) (.glo "MOST_KEYS"))) (.cons (.not (.bi .all (.cons x_is_square_C1 .nil))) .nil)))
    (.cons (.ret (.bl false))
    .nil)
    .nil)
    (.cons (.ret (.and (.cons (.cmp .eq (.lenset (.idx (.var 0) (.int 0))) (.bi .len (.cons (.idx (.var 0) (.int 0)) .nil))) (.cons (.call "are_keys_of" (.cons (.bi .len (.cons (.idx (.var 0) (.int 0)) .nil)) (.cons (.idx (.var 0) (.int 1)) .nil))) .nil))))
    .nil)))⟩
def f_need_square : Fd := ⟨1, ["square"],
    (.cons (.ifs (.not (.call "is_square" (.cons (.var 0) .nil)))
    (.cons (.rais "NoSquare")
    .nil)
    .nil)
    .nil)⟩
def x_is_wish_of_C1 : ME := .lc (.call "are_keys_of" (.cons (.var 0) (.cons (.var 2) .nil))) (.nm 2) (.seq (.var 1)) .none [2]
def x_is_wish_of_C2 : ME := .lc (.cmp .lt (.var 2) (.var 3)) (.tp [2, 3]) (.zip (.var 1) (.sl (.var 1) (.some (.int 1)) .none)) .none [2, 3]
def f_is_wish_of : Fd := ⟨2, ["many", "thing", "one", "other"],
    (.cons (.ifs (.or (.cons (.not (.isi (.var 1) .tuple)) (.cons (.cmp .gt (.bi .len (.cons (.var 1) .nil)) (.glo "MOST_SETS")) (.cons (.not (.bi .all (.cons x_is_wish_of_C1 .nil))) .nil))))
    (.cons (.ret (.bl false))
    .nil)
    .nil)
    (.cons (.ret (.bi .all (.cons x_is_wish_of_C2 .nil)))
    .nil))⟩
def f_need_many : Fd := ⟨1, ["many"],
    (.cons (.ifs (.not (.call "is_number" (.cons (.var 0) (.cons (.int 1) (.cons (.glo "MOST_KEYS") .nil)))))
    (.cons (.rais "NoNumber")
    .nil)
    .nil)
    .nil)⟩
def f_need_wish : Fd := ⟨2, ["many", "wish"],
    (.cons (.ifs (.not (.call "is_wish_of" (.cons (.var 0) (.cons (.var 1) .nil))))
    (.cons (.rais "NoWish")
    .nil)
    .nil)
    .nil)⟩
def f__law_cell : Fd := ⟨2, ["script", "k"],
    (.cons (.ifs (.cmp .eq (.var 0) (.lst .nil))
    (.cons (.ret (.bin .mul (.int 7) (.var 1)))
    .nil)
    .nil)
    (.cons (.ret (.bin .add (.idx (.var 0) (.bin .mod (.var 1) (.bi .len (.cons (.var 0) .nil)))) (.bin .mul (.int 6553) (.bin .fdiv (.var 1) (.bi .len (.cons (.var 0) .nil))))))
    .nil))⟩
def f__law_drawn : Fd := ⟨3, ["script", "k", "many", "cell"],
    (.cons (.asg (.nm 3) (.bin .mod (.bin .add (.bin .mul (.bin .mod (.call "_law_cell" (.cons (.var 0) (.cons (.var 1) .nil))) (.int 2147483563)) (.int 69069)) (.bin .mul (.int 104723) (.bin .add (.var 1) (.int 1)))) (.int 2147483563)))
    (.cons (.asg (.nm 3) (.bin .mod (.bin .add (.bin .mul (.var 3) (.var 3)) (.bin .fdiv (.var 3) (.int 3))) (.int 2147483399)))
    (.cons (.ret (.bin .mod (.bin .fdiv (.bin .mod (.bin .add (.bin .mul (.var 3) (.var 3)) (.bin .fdiv (.var 3) (.int 7))) (.int 2147483647)) (.int 11)) (.var 2)))
    .nil)))⟩
def f_need_laid : Fd := ⟨1, ["many"],
    (.cons (.ifs (.not (.call "is_number" (.cons (.var 0) (.cons (.int 1) (.cons (.glo "MOST_LAID") .nil)))))
    (.cons (.rais "NoNumber")
    .nil)
    .nil)
    .nil)⟩
def f_need_keys : Fd := ⟨2, ["square", "keys"],
    (.cons (.ifs (.not (.call "are_keys_of" (.cons (.bi .len (.cons (.idx (.var 0) (.int 0)) .nil)) (.cons (.var 1) .nil))))
    (.cons (.rais "NoKeys")
    .nil)
    .nil)
    .nil)⟩
end Wq.P

end
section
set_option Elab.async false
set_option linter.all false
set_option autoImplicit false
set_option maxRecDepth 100000
set_option maxHeartbeats 1000000
/-! Defs that take any thing; drawn numbers. -/
namespace Wq.P
open PySem Wq
section
variable {c : Cv}
/-! ### numbers -/
def isNum (d : D) (lo hi : Int) : Bool := match d with
  | .int i => decide (lo ≤ i) && decide (i ≤ hi)
  | _ => false
def S_is_number (c : Cv) : Prop := ∀ d lo hi, c.cal "is_number" [eD d, eI lo, eI hi] = (R.ok (isNum d lo hi)).mp eB
theorem W_is_number (d : D) (lo hi : Int) : endR (exSs c f_is_number.body (startE f_is_number.N.length [eD d, eI lo, eI hi])) = (R.ok (isNum d lo hi)).mp eB := by
  cases d <;> simp [ssc, ss_nil, exS, evE, evEs, evAnd, evOr, evO, evC, evI, binD, addD, subD, fdivD, modD, bindT, setAll, biD, itemsD, isiD, startE, getV, getP, wipe, f_is_number, isNum, eD]
  rename_i i
  by_cases h : lo ≤ i <;> simp [ssc, ss_nil, exS, evE, evEs, evAnd, evOr, evO, evC, evI, binD, addD, subD, fdivD, modD, bindT, setAll, biD, itemsD, isiD, startE, getV, getP, wipe, h]
/-! ### sets of keys -/
def nums (lo hi : Int) (xs : List D) : Bool := xs.all fun d => isNum d lo hi
def rise : List D → Bool
  | .int a :: .int b :: r => decide (a < b) && rise (.int b :: r)
  | _ => true
def keysOf (n : Int) (d : D) : Bool := match d with
  | .tuple xs => nums 0 (n - 1) xs && rise xs
  | _ => false
theorem allB_map {f : D → Bool} : ∀ xs : List D, allB (xs.map fun x => .bool (f x)) = some (xs.all f)
  | [] => rfl
  | x :: xs => by simp [ssc, ss_nil, exS, evE, evEs, evAnd, evOr, evO, evC, evI, binD, addD, subD, fdivD, modD, bindT, setAll, biD, itemsD, isiD, startE, getV, getP, wipe, allB, allB_map xs]
theorem fm_some {α β : Type} (f : α → β) : ∀ xs : List α, xs.filterMap (fun x => some (f x)) = xs.map f := fun xs => by
  induction xs with
  | nil => rfl
  | cons x xs ih => simp [ssc, ss_nil, exS, evE, evEs, evAnd, evOr, evO, evC, evI, binD, addD, subD, fdivD, modD, bindT, setAll, biD, itemsD, isiD, startE, getV, getP, wipe, ih]
theorem num_int {d : D} {lo hi : Int} (h : isNum d lo hi = true) : ∃ i, d = .int i ∧ lo ≤ i ∧ i ≤ hi := by
  cases d with
  | int i =>
    simp only [isNum, Bool.and_eq_true, decide_eq_true_eq] at h
    exact ⟨i, rfl, h⟩
  | _ => cases h
theorem nums_int {lo hi : Int} : ∀ {xs : List D}, nums lo hi xs = true → ∃ ns : List Int, xs = ns.map .int ∧ ∀ n ∈ ns, lo ≤ n ∧ n ≤ hi
  | [], _ => ⟨[], rfl, fun _ h => by cases h⟩
  | x :: xs, h => by
    simp only [nums, List.all_cons, Bool.and_eq_true] at h
    obtain ⟨i, rfl, h1⟩ := num_int h.1
    obtain ⟨ns, rfl, h2⟩ := nums_int (xs := xs) h.2
    refine ⟨i :: ns, rfl, fun n hn => ?_⟩
    rcases List.mem_cons.mp hn with rfl | hn
    · exact h1
    · exact h2 n hn
/-- pairs of neighbours -/
theorem zip_next (ns : List Int) : zipD (ns.map .int) ((ns.map .int).drop 1) = (ns.zip (ns.drop 1)).map fun p => .tuple [.int p.1, .int p.2] := by
  rw [← List.map_drop]
  exact zipD_map PyData.int PyData.int ns (ns.drop 1)
theorem rise_zip : ∀ ns : List Int, ((ns.zip (ns.drop 1)).all fun p => decide (p.1 < p.2)) = rise (ns.map .int)
  | [] => rfl
  | [_] => rfl
  | a :: b :: r => by
    have ih := rise_zip (b :: r)
    simp only [List.drop_succ_cons, List.drop_zero] at ih ⊢
    simp only [List.zip_cons_cons, List.all_cons, List.map_cons, rise]
    rw [ih]
    rfl
theorem cut1 {α : Type} (xs : List α) : cut xs (some 1) none = xs.drop 1 := by
  simp only [cut, HT.sIx]
  cases xs with
  | nil => simp [ssc, ss_nil, exS, evE, evEs, evAnd, evOr, evO, evC, evI, binD, addD, subD, fdivD, modD, bindT, setAll, biD, itemsD, isiD, startE, getV, getP, wipe]
  | cons x xs => simp [ssc, ss_nil, exS, evE, evEs, evAnd, evOr, evO, evC, evI, binD, addD, subD, fdivD, modD, bindT, setAll, biD, itemsD, isiD, startE, getV, getP, wipe]
/-- all([.. for ..]) -/
theorem lc_all {elt : ME} {t : Tg} {it : MI} {ws : List Nat} {ρ : En} {xs : List D} (p : D → Bool) (hI : evI c it ρ = .ok xs)
    (h : ∀ x ∈ xs, ((bindT t x (Wq.wipe ρ ws)).bind fun ρ' => evE c elt ρ') = .ok (.bool (p x))) : ∃ L, evE c (.lc elt t it .none ws) ρ = .ok (.list L) ∧ allB L = some (xs.all p) := by
  refine ⟨_, ev_lc (fun x => some (.bool (p x))) hI (fun x hx => ?_), by rw [fm_some]; exact allB_map xs⟩
  have := h x hx
  cases q : bindT t x (Wq.wipe ρ ws) with
  | ok ρ' =>
    rw [q] at this
    simp only [bind_ok'] at this
    simp [ssc, ss_nil, exS, evE, evEs, evAnd, evOr, evO, evC, evI, binD, addD, subD, fdivD, modD, bindT, setAll, biD, itemsD, isiD, startE, getV, getP, wipe, this]
  | ex _ => rw [q] at this; cases this
  | no => rw [q] at this; cases this
def S_are_keys_of (c : Cv) : Prop := ∀ (n : Int) (d : D), c.cal "are_keys_of" [eI n, eD d] = (R.ok (keysOf n d)).mp eB
theorem W_are_keys_of (h1 : S_is_number c) (n : Int) (d : D) : endR (exSs c f_are_keys_of.body (startE f_are_keys_of.N.length [eI n, eD d])) = (R.ok (keysOf n d)).mp eB := by
  have h1 : ∀ d lo hi, c.cal "is_number" [d, .int lo, .int hi] = .ok (.bool (isNum d lo hi)) := h1
  cases d with
  | tuple xs =>
    obtain ⟨L1, e1, a1⟩ : ∃ L, evE c x_are_keys_of_C1 [.val (.int n), .val (.tuple xs), .emp, .emp] = .ok (.list L) ∧ allB L = some (nums 0 (n - 1) xs) :=
      lc_all (xs := xs) (fun x => isNum x 0 (n - 1)) (by simp [ssc, ss_nil, exS, evE, evEs, evAnd, evOr, evO, evC, evI, binD, addD, subD, fdivD, modD, bindT, setAll, biD, itemsD, isiD, startE, getV, getP, wipe]) (fun x _ => by simp [ssc, ss_nil, exS, evE, evEs, evAnd, evOr, evO, evC, evI, binD, addD, subD, fdivD, modD, bindT, setAll, biD, itemsD, isiD, startE, getV, getP, wipe, h1 x])
    by_cases hn : nums 0 (n - 1) xs = true
    · obtain ⟨ns, rfl, hb⟩ := nums_int hn
      obtain ⟨L2, e2, a2⟩ : ∃ L, evE c x_are_keys_of_C2 [.val (.int n), .val (.tuple (ns.map .int)), .emp, .emp] = .ok (.list L) ∧ allB L = some (rise (ns.map .int)) := by
        obtain ⟨L, e, a⟩ := lc_all (c := c) (elt := .cmp .lt (.var 2) (.var 3)) (t := .tp [2, 3]) (it := .zip (.var 1) (.sl (.var 1) (.some (.int 1)) .none)) (ws := [2, 3]) (ρ := [.val (.int n), .val (.tuple (ns.map .int)), .emp, .emp])
          (xs := (ns.zip (ns.drop 1)).map fun p => .tuple [.int p.1, .int p.2]) (fun x => match x with
            | .tuple [.int a, .int b] => decide (a < b)
            | _ => false) (by simp only [evI, evE, getV, List.getElem?_cons_succ, List.getElem?_cons_zero, bind_ok', slD, evO, toI_i, cut1, zipA, zip_next]) (fun x hx => by
              obtain ⟨p, _, rfl⟩ := List.mem_map.mp hx
              simp [ssc, ss_nil, exS, evE, evEs, evAnd, evOr, evO, evC, evI, binD, addD, subD, fdivD, modD, bindT, setAll, biD, itemsD, isiD, startE, getV, getP, wipe])
        refine ⟨L, e, a.trans ?_⟩
        rw [List.all_map]
        exact congrArg some (rise_zip ns)
      simp [ssc, ss_nil, exS, evE, evEs, evAnd, evOr, evO, evC, evI, binD, addD, subD, fdivD, modD, bindT, setAll, biD, itemsD, isiD, startE, getV, getP, wipe, f_are_keys_of, eD, e1, e2, a1, a2, keysOf, hn]
    · have hn2 : nums 0 (n - 1) xs = false := by simpa [ssc, ss_nil, exS, evE, evEs, evAnd, evOr, evO, evC, evI, binD, addD, subD, fdivD, modD, bindT, setAll, biD, itemsD, isiD, startE, getV, getP, wipe] using hn
      simp [ssc, ss_nil, exS, evE, evEs, evAnd, evOr, evO, evC, evI, binD, addD, subD, fdivD, modD, bindT, setAll, biD, itemsD, isiD, startE, getV, getP, wipe, f_are_keys_of, eD, e1, a1, keysOf, hn2]
  | _ => simp [ssc, ss_nil, exS, evE, evEs, evAnd, evOr, evO, evC, evI, binD, addD, subD, fdivD, modD, bindT, setAll, biD, itemsD, isiD, startE, getV, getP, wipe, f_are_keys_of, keysOf, eD]
/-! ### spots, squares -/
def isSpot (d : D) : Bool := match d with
  | .tuple [a, b] => isNum a 0 5 && isNum b 0 5
  | _ => false
def S_is_spot (c : Cv) : Prop := ∀ d, c.cal "is_spot" [eD d] = (R.ok (isSpot d)).mp eB
abbrev G_wires (c : Cv) : Prop := c.gc.lookup ("MOST_WIRES" : Str) = some (.int 6)
abbrev G_keys (c : Cv) : Prop := c.gc.lookup ("MOST_KEYS" : Str) = some (.int 6)
abbrev G_sets (c : Cv) : Prop := c.gc.lookup ("MOST_SETS" : Str) = some (.int 24)
theorem W_is_spot (g : G_wires c) (h1 : S_is_number c) (d : D) : endR (exSs c f_is_spot.body (startE f_is_spot.N.length [eD d])) = (R.ok (isSpot d)).mp eB := by
  have h1 : ∀ d lo hi, c.cal "is_number" [d, .int lo, .int hi] = .ok (.bool (isNum d lo hi)) := h1
  have g : c.gc.lookup ("MOST_WIRES" : Str) = some (.int 6) := g
  cases d with
  | tuple xs =>
    match xs with
    | [] => simp [ssc, ss_nil, exS, evE, evEs, evAnd, evOr, evO, evC, evI, binD, addD, subD, fdivD, modD, bindT, setAll, biD, itemsD, isiD, startE, getV, getP, wipe, f_is_spot, isSpot, eD]
    | [a] => simp [ssc, ss_nil, exS, evE, evEs, evAnd, evOr, evO, evC, evI, binD, addD, subD, fdivD, modD, bindT, setAll, biD, itemsD, isiD, startE, getV, getP, wipe, f_is_spot, isSpot, eD]
    | a :: b :: e :: r =>
      have h : ¬ ((r.length : Int) + 1 + 1 + 1 = 2) := by omega
      simp [ssc, ss_nil, exS, evE, evEs, evAnd, evOr, evO, evC, evI, binD, addD, subD, fdivD, modD, bindT, setAll, biD, itemsD, isiD, startE, getV, getP, wipe, f_is_spot, isSpot, eD, h]
    | [a, b] =>
      simp [ssc, ss_nil, exS, evE, evEs, evAnd, evOr, evO, evC, evI, binD, addD, subD, fdivD, modD, bindT, setAll, biD, itemsD, isiD, startE, getV, getP, wipe, f_is_spot, isSpot, eD, idxD, ixD, L2.atI, L2.ixN, g, h1]
      cases isNum a 0 5 <;> simp [ssc, ss_nil, exS, evE, evEs, evAnd, evOr, evO, evC, evI, binD, addD, subD, fdivD, modD, bindT, setAll, biD, itemsD, isiD, startE, getV, getP, wipe]
  | _ => simp [ssc, ss_nil, exS, evE, evEs, evAnd, evOr, evO, evC, evI, binD, addD, subD, fdivD, modD, bindT, setAll, biD, itemsD, isiD, startE, getV, getP, wipe, f_is_spot, isSpot, eD]
def isSquareD (d : D) : Bool := match d with
  | .tuple [.tuple ss, k] => (decide (1 ≤ (ss.length : Int)) && decide ((ss.length : Int) ≤ 6)) && (ss.all isSpot && (decide (((dedup ss).length : Int) = (ss.length : Int)) && keysOf ss.length k))
  | _ => false
theorem spot_tup {d : D} (h : isSpot d = true) : ∃ i j, d = .tuple [.int i, .int j] ∧ (0 ≤ i ∧ i ≤ 5) ∧ 0 ≤ j ∧ j ≤ 5 := by
  unfold isSpot at h
  split at h
  · obtain ⟨a, b⟩ := Bool.and_eq_true_iff.mp h
    obtain ⟨i, rfl, hi⟩ := num_int a
    obtain ⟨j, rfl, hj⟩ := num_int b
    exact ⟨i, j, rfl, hi, hj⟩
  · cases h
def S_is_square (c : Cv) : Prop := ∀ d, c.cal "is_square" [eD d] = (R.ok (isSquareD d)).mp eB
theorem W_is_square (g : G_keys c) (h1 : S_is_spot c) (h2 : S_are_keys_of c) (d : D) : endR (exSs c f_is_square.body (startE f_is_square.N.length [eD d])) = (R.ok (isSquareD d)).mp eB := by
  have h1 : ∀ d, c.cal "is_spot" [d] = .ok (.bool (isSpot d)) := h1
  have h2 : ∀ n d, c.cal "are_keys_of" [.int n, d] = .ok (.bool (keysOf n d)) := h2
  have g : c.gc.lookup ("MOST_KEYS" : Str) = some (.int 6) := g
  cases d with
  | tuple xs =>
    match xs with
    | [] => simp [ssc, ss_nil, exS, evE, evEs, evAnd, evOr, evO, evC, evI, binD, addD, subD, fdivD, modD, bindT, setAll, biD, itemsD, isiD, startE, getV, getP, wipe, f_is_square, isSquareD, eD]
    | [a] => cases a <;> simp [ssc, ss_nil, exS, evE, evEs, evAnd, evOr, evO, evC, evI, binD, addD, subD, fdivD, modD, bindT, setAll, biD, itemsD, isiD, startE, getV, getP, wipe, f_is_square, isSquareD, eD]
    | a :: b :: e :: r =>
      have h : ¬ ((r.length : Int) + 1 + 1 + 1 = 2) := by omega
      cases a <;> simp [ssc, ss_nil, exS, evE, evEs, evAnd, evOr, evO, evC, evI, binD, addD, subD, fdivD, modD, bindT, setAll, biD, itemsD, isiD, startE, getV, getP, wipe, f_is_square, isSquareD, eD, h]
    | [a, k] =>
      cases a with
      | tuple ss =>
        obtain ⟨L1, e1, a1⟩ : ∃ L, evE c x_is_square_C1 [.val (.tuple [.tuple ss, k]), .emp] = .ok (.list L) ∧ allB L = some (ss.all isSpot) :=
          lc_all (xs := ss) isSpot (by simp [ssc, ss_nil, exS, evE, evEs, evAnd, evOr, evO, evC, evI, binD, addD, subD, fdivD, modD, bindT, setAll, biD, itemsD, isiD, startE, getV, getP, wipe, idxD, ixD, L2.atI, L2.ixN]) (fun x _ => by simp [ssc, ss_nil, exS, evE, evEs, evAnd, evOr, evO, evC, evI, binD, addD, subD, fdivD, modD, bindT, setAll, biD, itemsD, isiD, startE, getV, getP, wipe, h1 x])
        by_cases q1 : 1 ≤ (ss.length : Int)
        · by_cases q2 : (ss.length : Int) ≤ 6
          · by_cases q3 : ss.all isSpot = true
            · have so : setOk ss = true := by
                unfold setOk
                have t1 : ss.all hTup = true := by
                  rw [List.all_eq_true] at q3 ⊢
                  intro x hx
                  obtain ⟨i, j, rfl, _⟩ := spot_tup (q3 x hx)
                  exact hTup_int (by simp [ssc, ss_nil, exS, evE, evEs, evAnd, evOr, evO, evC, evI, binD, addD, subD, fdivD, modD, bindT, setAll, biD, itemsD, isiD, startE, getV, getP, wipe, intTup, isInt])
                have t2 : ss.length < 64 := by omega
                simp [ssc, ss_nil, exS, evE, evEs, evAnd, evOr, evO, evC, evI, binD, addD, subD, fdivD, modD, bindT, setAll, biD, itemsD, isiD, startE, getV, getP, wipe, t1, t2]
              simp only [isSquareD, q3, decide_eq_true q1, decide_eq_true q2, Bool.true_and]
              by_cases q4 : ((dedup ss).length : Int) = (ss.length : Int)
              · simp [ssc, ss_nil, exS, evE, evEs, evAnd, evOr, evO, evC, evI, binD, addD, subD, fdivD, modD, bindT, setAll, biD, itemsD, isiD, startE, getV, getP, wipe, f_is_square, eD, idxD, ixD, L2.atI, L2.ixN, g, h2, e1, a1, q1, q2, q3, q4, so]
              · simp [ssc, ss_nil, exS, evE, evEs, evAnd, evOr, evO, evC, evI, binD, addD, subD, fdivD, modD, bindT, setAll, biD, itemsD, isiD, startE, getV, getP, wipe, f_is_square, eD, idxD, ixD, L2.atI, L2.ixN, g, h2, e1, a1, q1, q2, q3, q4, so]
            · have q3 : ss.all isSpot = false := by simpa [ssc, ss_nil, exS, evE, evEs, evAnd, evOr, evO, evC, evI, binD, addD, subD, fdivD, modD, bindT, setAll, biD, itemsD, isiD, startE, getV, getP, wipe] using q3
              simp [ssc, ss_nil, exS, evE, evEs, evAnd, evOr, evO, evC, evI, binD, addD, subD, fdivD, modD, bindT, setAll, biD, itemsD, isiD, startE, getV, getP, wipe, f_is_square, isSquareD, eD, idxD, ixD, L2.atI, L2.ixN, g, h2, e1, a1, q1, q2, q3]
          · simp [ssc, ss_nil, exS, evE, evEs, evAnd, evOr, evO, evC, evI, binD, addD, subD, fdivD, modD, bindT, setAll, biD, itemsD, isiD, startE, getV, getP, wipe, f_is_square, isSquareD, eD, idxD, ixD, L2.atI, L2.ixN, g, h2, q1, q2]
        · simp [ssc, ss_nil, exS, evE, evEs, evAnd, evOr, evO, evC, evI, binD, addD, subD, fdivD, modD, bindT, setAll, biD, itemsD, isiD, startE, getV, getP, wipe, f_is_square, isSquareD, eD, idxD, ixD, L2.atI, L2.ixN, g, h2, q1]
      | _ => simp [ssc, ss_nil, exS, evE, evEs, evAnd, evOr, evO, evC, evI, binD, addD, subD, fdivD, modD, bindT, setAll, biD, itemsD, isiD, startE, getV, getP, wipe, f_is_square, isSquareD, eD, idxD, ixD, L2.atI, L2.ixN]
  | _ => simp [ssc, ss_nil, exS, evE, evEs, evAnd, evOr, evO, evC, evI, binD, addD, subD, fdivD, modD, bindT, setAll, biD, itemsD, isiD, startE, getV, getP, wipe, f_is_square, isSquareD, eD]
/-! ### refusals -/
def needR (b : Bool) (k : Str) : R Unit := if b then .ok () else .ex k
def S_need_square (c : Cv) : Prop := ∀ d, c.cal "need_square" [eD d] = (needR (isSquareD d) "NoSquare").mp eU
theorem W_need_square (h1 : S_is_square c) (d : D) : endR (exSs c f_need_square.body (startE f_need_square.N.length [eD d])) = (needR (isSquareD d) "NoSquare").mp eU := by
  have h1 : ∀ d, c.cal "is_square" [d] = .ok (.bool (isSquareD d)) := h1
  cases h : isSquareD d <;> simp [ssc, ss_nil, exS, evE, evEs, evAnd, evOr, evO, evC, evI, binD, addD, subD, fdivD, modD, bindT, setAll, biD, itemsD, isiD, startE, getV, getP, wipe, f_need_square, eD, h1, h, needR, eU, R.mp]
def S_need_keys (c : Cv) : Prop := ∀ (sq : Sq) (d : D), c.cal "need_keys" [eSq sq, eD d] = (needR (keysOf (sq.1.length : Int) d) "NoKeys").mp eU
theorem W_need_keys (h1 : S_are_keys_of c) (sq : Sq) (d : D) : endR (exSs c f_need_keys.body (startE f_need_keys.N.length [eSq sq, eD d])) = (needR (keysOf (sq.1.length : Int) d) "NoKeys").mp eU := by
  have h1 : ∀ n d, c.cal "are_keys_of" [.int n, d] = .ok (.bool (keysOf n d)) := h1
  cases h : keysOf (sq.1.length : Int) d <;> simp [ssc, ss_nil, exS, evE, evEs, evAnd, evOr, evO, evC, evI, binD, addD, subD, fdivD, modD, bindT, setAll, biD, itemsD, isiD, startE, getV, getP, wipe, f_need_keys, eD, eSq, eP, eT, idxD, ixD, L2.atI, L2.ixN, h1, h, needR, eU, R.mp]
/-! ### wishes -/
def riseT : List (List Int) → Bool
  | a :: b :: r => pltL a b && riseT (b :: r)
  | _ => true
def toInts : D → List Int
  | .tuple xs => xs.filterMap fun d => match d with
    | .int i => some i
    | _ => none
  | _ => []
def isWishD (n : Int) (d : D) : Bool := match d with
  | .tuple xs => decide ((xs.length : Int) ≤ 24) && (xs.all (fun x => keysOf n x) && riseT (xs.map toInts))
  | _ => false
theorem toInts_map (ns : List Int) : toInts (.tuple (ns.map .int)) = ns := by
  simp only [toInts, List.filterMap_map]
  induction ns with
  | nil => rfl
  | cons n ns ih => simpa [ssc, ss_nil, exS, evE, evEs, evAnd, evOr, evO, evC, evI, binD, addD, subD, fdivD, modD, bindT, setAll, biD, itemsD, isiD, startE, getV, getP, wipe] using ih
theorem keys_ints {n : Int} {d : D} (h : keysOf n d = true) : ∃ ks : List Int, d = eT eI ks ∧ (∀ k ∈ ks, 0 ≤ k ∧ k < n) ∧ rise (ks.map .int) = true := by
  cases d with
  | tuple xs =>
    simp only [keysOf, Bool.and_eq_true] at h
    obtain ⟨ks, rfl, hk⟩ := nums_int h.1
    exact ⟨ks, rfl, fun k hk' => ⟨(hk k hk').1, by have := (hk k hk').2; omega⟩, h.2⟩
  | _ => cases h
theorem sets_all {n : Int} : ∀ {xs : List D}, xs.all (fun x => keysOf n x) = true → ∃ ks : List (List Int), xs = ks.map (eT eI) ∧ ∀ k ∈ ks, keysOf n (eT eI k) = true
  | [], _ => ⟨[], rfl, fun _ h => by cases h⟩
  | x :: xs, h => by
    simp only [List.all_cons, Bool.and_eq_true] at h
    obtain ⟨k, rfl, _⟩ := keys_ints h.1
    obtain ⟨ks, rfl, h2⟩ := sets_all h.2
    refine ⟨k :: ks, rfl, fun z hz => ?_⟩
    rcases List.mem_cons.mp hz with rfl | hz
    · exact h.1
    · exact h2 z hz
theorem riseT_zip : ∀ ks : List (List Int), ((ks.zip (ks.drop 1)).all fun p => pltL p.1 p.2) = riseT ks
  | [] => rfl
  | [_] => rfl
  | a :: b :: r => by
    have ih := riseT_zip (b :: r)
    simp only [List.drop_succ_cons, List.drop_zero] at ih ⊢
    simp only [List.zip_cons_cons, List.all_cons, riseT]
    rw [ih]
theorem toInts_all : ∀ ks : List (List Int), (ks.map (eT eI)).map toInts = ks
  | [] => rfl
  | k :: ks => by
    rw [List.map_cons, List.map_cons, toInts_all ks]
    exact congrArg (· :: ks) (toInts_map k)
def S_is_wish_of (c : Cv) : Prop := ∀ n d, c.cal "is_wish_of" [eI n, eD d] = (R.ok (isWishD n d)).mp eB
theorem W_is_wish_of (g : G_sets c) (h1 : S_are_keys_of c) (n : Int) (d : D) : endR (exSs c f_is_wish_of.body (startE f_is_wish_of.N.length [eI n, eD d])) = (R.ok (isWishD n d)).mp eB := by
  have h1 : ∀ n d, c.cal "are_keys_of" [.int n, d] = .ok (.bool (keysOf n d)) := h1
  have g : c.gc.lookup ("MOST_SETS" : Str) = some (.int 24) := g
  cases d with
  | tuple xs =>
    obtain ⟨L1, e1, a1⟩ : ∃ L, evE c x_is_wish_of_C1 [.val (.int n), .val (.tuple xs), .emp, .emp] = .ok (.list L) ∧ allB L = some (xs.all fun x => keysOf n x) :=
      lc_all (xs := xs) (fun x => keysOf n x) (by simp [ssc, ss_nil, exS, evE, evEs, evAnd, evOr, evO, evC, evI, binD, addD, subD, fdivD, modD, bindT, setAll, biD, itemsD, isiD, startE, getV, getP, wipe]) (fun x _ => by simp [ssc, ss_nil, exS, evE, evEs, evAnd, evOr, evO, evC, evI, binD, addD, subD, fdivD, modD, bindT, setAll, biD, itemsD, isiD, startE, getV, getP, wipe, h1])
    by_cases q1 : (xs.length : Int) ≤ 24
    · have q1' : ¬ (24 < (xs.length : Int)) := by omega
      by_cases q2 : xs.all (fun x => keysOf n x) = true
      · obtain ⟨ks, rfl, hk⟩ := sets_all q2
        obtain ⟨L2, e2, a2⟩ : ∃ L, evE c x_is_wish_of_C2 [.val (.int n), .val (.tuple (ks.map (eT eI))), .emp, .emp] = .ok (.list L) ∧ allB L = some (riseT ks) := by
          obtain ⟨L, e, a⟩ := lc_all (c := c) (elt := .cmp .lt (.var 2) (.var 3)) (t := .tp [2, 3]) (it := .zip (.var 1) (.sl (.var 1) (.some (.int 1)) .none)) (ws := [2, 3]) (ρ := [.val (.int n), .val (.tuple (ks.map (eT eI))), .emp, .emp])
            (xs := (ks.zip (ks.drop 1)).map (eP (eT eI) (eT eI))) (fun x => match x with
              | .tuple [a, b] => pltL (toInts a) (toInts b)
              | _ => false) (by simp only [evI, evE, getV, List.getElem?_cons_succ, List.getElem?_cons_zero, bind_ok', slD, evO, toI_i, cut1, zipA, ← List.map_drop, zipD_map]) (fun x hx => by
                obtain ⟨p, _, rfl⟩ := List.mem_map.mp hx
                have t := o_ltO (eT eI) (by decide) p.1 p.2
                simp only [eP, bindT, setAll, Wq.wipe, List.set, bind_ok', evE, getV, List.getElem?_cons_succ, List.getElem?_cons_zero, t]
                have t1 := toInts_map p.1
                have t2 := toInts_map p.2
                simp only [eT, t1, t2]
                rfl)
          refine ⟨L, e, a.trans ?_⟩
          rw [List.all_map, ← riseT_zip ks]
          congr 1
          apply List.all_congr
          · rfl
          · intro p
            have t1 := toInts_map p.1
            have t2 := toInts_map p.2
            simp only [Function.comp, eP, eT, t1, t2]
        simp only [isWishD, toInts_all]
        rw [List.length_map] at q1 q1'
        simp [ssc, ss_nil, exS, evE, evEs, evAnd, evOr, evO, evC, evI, binD, addD, subD, fdivD, modD, bindT, setAll, biD, itemsD, isiD, startE, getV, getP, wipe, f_is_wish_of, eD, g, e1, e2, a1, a2, q1', q1, q2]
      · have q2 : xs.all (fun x => keysOf n x) = false := by simpa [ssc, ss_nil, exS, evE, evEs, evAnd, evOr, evO, evC, evI, binD, addD, subD, fdivD, modD, bindT, setAll, biD, itemsD, isiD, startE, getV, getP, wipe] using q2
        simp [ssc, ss_nil, exS, evE, evEs, evAnd, evOr, evO, evC, evI, binD, addD, subD, fdivD, modD, bindT, setAll, biD, itemsD, isiD, startE, getV, getP, wipe, f_is_wish_of, isWishD, eD, g, e1, a1, q1', q1, q2]
    · have q1' : 24 < (xs.length : Int) := by omega
      simp [ssc, ss_nil, exS, evE, evEs, evAnd, evOr, evO, evC, evI, binD, addD, subD, fdivD, modD, bindT, setAll, biD, itemsD, isiD, startE, getV, getP, wipe, f_is_wish_of, isWishD, eD, g, q1', q1]
  | _ => simp [ssc, ss_nil, exS, evE, evEs, evAnd, evOr, evO, evC, evI, binD, addD, subD, fdivD, modD, bindT, setAll, biD, itemsD, isiD, startE, getV, getP, wipe, f_is_wish_of, isWishD, eD]
def S_need_many (c : Cv) : Prop := ∀ d, c.cal "need_many" [eD d] = (needR (isNum d 1 6) "NoNumber").mp eU
theorem W_need_many (g : G_keys c) (h1 : S_is_number c) (d : D) : endR (exSs c f_need_many.body (startE f_need_many.N.length [eD d])) = (needR (isNum d 1 6) "NoNumber").mp eU := by
  have h1 : ∀ d lo hi, c.cal "is_number" [d, .int lo, .int hi] = .ok (.bool (isNum d lo hi)) := h1
  have g : c.gc.lookup ("MOST_KEYS" : Str) = some (.int 6) := g
  cases h : isNum d 1 6 <;> simp [ssc, ss_nil, exS, evE, evEs, evAnd, evOr, evO, evC, evI, binD, addD, subD, fdivD, modD, bindT, setAll, biD, itemsD, isiD, startE, getV, getP, wipe, f_need_many, eD, g, h1, h, needR, eU, R.mp]
def S_need_wish (c : Cv) : Prop := ∀ n d, c.cal "need_wish" [eI n, eD d] = (needR (isWishD n d) "NoWish").mp eU
theorem W_need_wish (h1 : S_is_wish_of c) (n : Int) (d : D) : endR (exSs c f_need_wish.body (startE f_need_wish.N.length [eI n, eD d])) = (needR (isWishD n d) "NoWish").mp eU := by
  have h1 : ∀ n d, c.cal "is_wish_of" [.int n, d] = .ok (.bool (isWishD n d)) := h1
  cases h : isWishD n d <;> simp [ssc, ss_nil, exS, evE, evEs, evAnd, evOr, evO, evC, evI, binD, addD, subD, fdivD, modD, bindT, setAll, biD, itemsD, isiD, startE, getV, getP, wipe, f_need_wish, eD, h1, h, needR, eU, R.mp]
abbrev G_laid (c : Cv) : Prop := c.gc.lookup ("MOST_LAID" : Str) = some (.int 4)
def S_need_laid (c : Cv) : Prop := ∀ d, c.cal "need_laid" [eD d] = (needR (isNum d 1 4) "NoNumber").mp eU
theorem W_need_laid (g : G_laid c) (h1 : S_is_number c) (d : D) : endR (exSs c f_need_laid.body (startE f_need_laid.N.length [eD d])) = (needR (isNum d 1 4) "NoNumber").mp eU := by
  have h1 : ∀ d lo hi, c.cal "is_number" [d, .int lo, .int hi] = .ok (.bool (isNum d lo hi)) := h1
  have g : c.gc.lookup ("MOST_LAID" : Str) = some (.int 4) := g
  cases h : isNum d 1 4 <;> simp [ssc, ss_nil, exS, evE, evEs, evAnd, evOr, evO, evC, evI, binD, addD, subD, fdivD, modD, bindT, setAll, biD, itemsD, isiD, startE, getV, getP, wipe, f_need_laid, eD, g, h1, h, needR, eU, R.mp]
/-! ### drawn numbers -/
def cellOf (s : Sc) (k : Int) : Int := if s.ns = [] then 7 * k else s.ns.getD (k % s.ns.length).toNat 0 + 6553 * (k / s.ns.length)
theorem mul_l {i j : Int} (h : inB i = true) : mulD (.int i) (.int j) = .ok (.int (i * j)) := by simp [ssc, ss_nil, exS, evE, evEs, evAnd, evOr, evO, evC, evI, binD, addD, subD, fdivD, modD, bindT, setAll, biD, itemsD, isiD, startE, getV, getP, wipe, mulD, h]
theorem mod_i {i j : Int} (h : 0 < j) : modD (.int i) (.int j) = .ok (.int (i % j)) := by simp [ssc, ss_nil, exS, evE, evEs, evAnd, evOr, evO, evC, evI, binD, addD, subD, fdivD, modD, bindT, setAll, biD, itemsD, isiD, startE, getV, getP, wipe, modD, h]
theorem fdiv_i {i j : Int} (h : 0 < j) (h2 : j < 1073741824) : fdivD (.int i) (.int j) = .ok (.int (i / j)) := by simp [ssc, ss_nil, exS, evE, evEs, evAnd, evOr, evO, evC, evI, binD, addD, subD, fdivD, modD, bindT, setAll, biD, itemsD, isiD, startE, getV, getP, wipe, fdivD, h, h2]
theorem add_i (i j : Int) : addD (.int i) (.int j) = .ok (.int (i + j)) := rfl
theorem eq_nil (ns : List Int) : cmpD .eq (.list (ns.map .int)) (.list []) = .ok (decide (ns = [])) := by
  rw [cmp_eq (shp_intsL ns).1 (by decide +kernel)]
  cases ns <;> simp [ssc, ss_nil, exS, evE, evEs, evAnd, evOr, evO, evC, evI, binD, addD, subD, fdivD, modD, bindT, setAll, biD, itemsD, isiD, startE, getV, getP, wipe, PyData.eqv, PyData.eqvAll]
def S__law_cell (c : Cv) : Prop := ∀ s k, c.cal "_law_cell" [eSc s, eI k] = (R.ok (cellOf s k)).mp eI
theorem W__law_cell (s : Sc) (k : Int) : endR (exSs c f__law_cell.body (startE f__law_cell.N.length [eSc s, eI k])) = (R.ok (cellOf s k)).mp eI := by
  obtain ⟨ns, hl⟩ := s
  have m1 : mulD (.int 7) (.int k) = .ok (.int (7 * k)) := mul_l (by decide)
  have m2 : ∀ z, mulD (.int 6553) (.int z) = .ok (.int (6553 * z)) := fun z => mul_l (by decide)
  have e0 := eq_nil ns
  by_cases hn : ns = []
  · subst hn
    simp only [List.map_nil] at e0
    simp [ssc, ss_nil, exS, evE, evEs, evAnd, evOr, evO, evC, evI, binD, addD, subD, fdivD, modD, bindT, setAll, biD, itemsD, isiD, startE, getV, getP, wipe, f__law_cell, eSc, e0, cellOf, m1]
  · have h1 : 0 < ns.length := List.length_pos_iff.mpr hn
    have hz : (0 : Int) < (ns.length : Int) := by omega
    have hb : (ns.length : Int) < 1073741824 := by omega
    have hm := Int.emod_nonneg k (show (ns.length : Int) ≠ 0 by omega)
    have hm2 := Int.emod_lt_of_pos k hz
    have hi : idxD (.list (ns.map .int)) (.int (k % ns.length)) = .ok (.int (ns.getD (k % ns.length).toNat 0)) := by
      have h3 : (k % ns.length).toNat < ns.length := by omega
      simp [ssc, ss_nil, exS, evE, evEs, evAnd, evOr, evO, evC, evI, binD, addD, subD, fdivD, modD, bindT, setAll, biD, itemsD, isiD, startE, getV, getP, wipe, idxD, ixD, L2.atI, L2.ixN, hm, hm2, List.getElem?_map, List.getElem?_eq_getElem h3]
    have hlen : biD .len [.list (ns.map .int)] = .ok (.int ns.length) := by simp [ssc, ss_nil, exS, evE, evEs, evAnd, evOr, evO, evC, evI, binD, addD, subD, fdivD, modD, bindT, setAll, biD, itemsD, isiD, startE, getV, getP, wipe]
    have e1 : modD (.int k) (.int ns.length) = .ok (.int (k % ns.length)) := mod_i hz
    have e2 : fdivD (.int k) (.int ns.length) = .ok (.int (k / ns.length)) := fdiv_i hz hb
    simp only [f__law_cell, eSc, eI, mp_ok, ssc, exS, evE, evEs, startE, List.map_cons, List.map_nil, List.length_cons, List.length_nil, List.cons_append, List.nil_append, List.replicate, getV0, getVs, bind_ok', e0, hn, decide_false, tru_b, fl_ok, Bool.false_eq_true, if_false, ss_nil, then_nx,
      binD, hlen, e1, e2, hi, m2, addD, then_rt, endR_rt, cellOf]
def drawn (s : Sc) (k many : Int) : Int :=
  let a := (cellOf s k % 2147483563 * 69069 + 104723 * (k + 1)) % 2147483563
  let b := (a * a + a / 3) % 2147483399
  (b * b + b / 7) % 2147483647 / 11 % many
def drawnR (s : Sc) (k many : Int) : R Int := if 0 < many then .ok (drawn s k many) else .no
theorem drawn_bd (s : Sc) (k : Int) {many : Int} (h : 0 < many) : 0 ≤ drawn s k many ∧ drawn s k many < many :=
  ⟨Int.emod_nonneg _ (by omega), Int.emod_lt_of_pos _ h⟩
def S__law_drawn (c : Cv) : Prop := ∀ s k many, c.cal "_law_drawn" [eSc s, eI k, eI many] = (drawnR s k many).mp eI
theorem inB_of {i : Int} (h1 : 0 ≤ i) (h2 : i < 4294967296) : inB i = true := by
  simp only [inB, Bool.and_eq_true, decide_eq_true_eq]
  omega
theorem W__law_drawn (h1 : S__law_cell c) (s : Sc) (k many : Int) : endR (exSs c f__law_drawn.body (startE f__law_drawn.N.length [eSc s, eI k, eI many])) = (drawnR s k many).mp eI := by
  have hc : c.cal "_law_cell" [eSc s, .int k] = .ok (.int (cellOf s k)) := h1 s k
  generalize hx : cellOf s k = x at hc
  have a1 := Int.emod_nonneg x (show (2147483563 : Int) ≠ 0 by decide)
  have a2 := Int.emod_lt_of_pos x (show (0 : Int) < 2147483563 by decide)
  have m1 : mulD (.int (x % 2147483563)) (.int 69069) = .ok (.int (x % 2147483563 * 69069)) := mul_l (inB_of a1 (by omega))
  have m2 : mulD (.int 104723) (.int (k + 1)) = .ok (.int (104723 * (k + 1))) := mul_l (by decide)
  generalize hy : x % 2147483563 * 69069 + 104723 * (k + 1) = y
  have b1 := Int.emod_nonneg y (show (2147483563 : Int) ≠ 0 by decide)
  have b2 := Int.emod_lt_of_pos y (show (0 : Int) < 2147483563 by decide)
  generalize hz : y % 2147483563 = z at b1 b2
  have m3 : mulD (.int z) (.int z) = .ok (.int (z * z)) := mul_l (inB_of b1 (by omega))
  generalize hu : z * z + z / 3 = u
  have c1 := Int.emod_nonneg u (show (2147483399 : Int) ≠ 0 by decide)
  have c2 := Int.emod_lt_of_pos u (show (0 : Int) < 2147483399 by decide)
  generalize hv : u % 2147483399 = v at c1 c2
  have m4 : mulD (.int v) (.int v) = .ok (.int (v * v)) := mul_l (inB_of c1 (by omega))
  have e : drawn s k many = (v * v + v / 7) % 2147483647 / 11 % many := by
    simp only [drawn, hx, hy, hz, hu, hv]
  have mm : modD (.int ((v * v + v / 7) % 2147483647 / 11)) (.int many) = (drawnR s k many).mp eI := by
    unfold drawnR
    rw [e]
    by_cases q : 0 < many
    · rw [if_pos q]; exact mod_i q
    · simp [ssc, ss_nil, exS, evE, evEs, evAnd, evOr, evO, evC, evI, binD, addD, subD, fdivD, modD, bindT, setAll, biD, itemsD, isiD, startE, getV, getP, wipe, q, R.mp]
  simp only [f__law_drawn, eI, ssc, exS, evE, evEs, startE, List.map_cons, List.map_nil, List.length_cons, List.length_nil, List.cons_append, List.nil_append, List.replicate, getV0, getVs, bind_ok', hc, fl_ok, ss_nil, then_nx, binD, m1, m2, m3, m4, add_i, bindT, List.set, mod_i (show (0 : Int) < 2147483563 by decide), mod_i (show (0 : Int) < 2147483399 by decide), mod_i (show (0 : Int) < 2147483647 by decide),
    fdiv_i (show (0 : Int) < 3 by decide) (by decide), fdiv_i (show (0 : Int) < 7 by decide) (by decide), fdiv_i (show (0 : Int) < 11 by decide) (by decide), hy, hz, hu, hv, mm]
  cases drawnR s k many <;> rfl
end
end Wq.P

end
section
set_option Elab.async false
set_option linter.all false
set_option autoImplicit false
set_option maxRecDepth 100000
/-! What the walked defs lean on. -/
namespace Wq
open PySem
/-- never None -/
class NoN {α : Type} (g : α → D) : Prop where
  nn : ∀ a, notN (g a) = true
section
variable {α β γ : Type}
instance {g : α → D} : NoN (eT g) := ⟨fun _ => rfl⟩
instance {g : α → D} : NoN (eL g) := ⟨fun _ => rfl⟩
instance : NoN eI := ⟨fun _ => rfl⟩
instance : NoN eB := ⟨fun _ => rfl⟩
instance {g : α → D} {h : β → D} : NoN (eP g h) := ⟨fun _ => rfl⟩
instance {g : α → D} {h : β → D} {l : γ → D} : NoN (eP3 g h l) := ⟨fun _ => rfl⟩
theorem eqv_none {d : D} (h : notN d = true) : PyData.eqv .none d = false ∧ PyData.eqv d .none = false := by
  cases d <;> first | exact ⟨rfl, rfl⟩ | cases h | simp [PyData.eqv]
instance {g : α → D} {k : Nat} [Cd g k] [NoN g] : Cd (eO g) k := ⟨fun a b => by
  cases a with
  | none => cases b with
    | none => simp [eO, PyData.eqv]
    | some y => simp [eO, eqv_none (NoN.nn (g := g) y)]
  | some x => cases b with
    | none => simp [eO, eqv_none (NoN.nn (g := g) x)]
    | some y => simp [eO, Cd.eqv], fun a => by
  cases a with
  | none => rfl
  | some x => exact Cd.lay x, fun a => by
  cases a with
  | none => simp [eO, PyData.depth]
  | some x => exact Cd.dep x⟩
end
end Wq
namespace Wq.P
open PySem Wq
abbrev needSq (d : D) : R Unit := needR (isSquareD d) "NoSquare"
abbrev needKs (sq : Sq) (d : D) : R Unit := needR (keysOf (sq.1.length : Int) d) "NoKeys"
abbrev needMany (d : D) : R Unit := needR (isNum d 1 6) "NoNumber"
abbrev needWish (n : Int) (d : D) : R Unit := needR (isWishD n d) "NoWish"
abbrev needLaid (d : D) : R Unit := needR (isNum d 1 4) "NoNumber"
section
variable {c : Cv} {α β γ δ : Type} {ρ : En} {a b d : ME}
variable {g : α → D} {h : β → D} {l : δ → D}
theorem t_drawnL (hd : S__law_drawn c) {n : Int} {ra : R Sc} {rb : R Int} (hn : decide (0 < n) = true) (qa : Lr (evE c a ρ) (ra.mp eSc)) (qb : Lr (evE c b ρ) (rb.mp eI)) : Lr (evE c (.call "_law_drawn" (.cons a (.cons b (.cons (.int n) .nil)))) ρ) ((ra.bd fun x => rb.bd fun y => R.ok (drawn x y n)).mp eI) := by
  have hn := of_decide_eq_true hn
  rw [evE, evEs, evEs, evEs, evEs, evE]
  refine lbs qa fun x => ?_
  rcases qb with qb | qb
  · rw [mp_no qb]; exact .inl rfl
  rw [qb]
  cases rb with
  | ok y =>
    refine .inr ?_
    show c.cal "_law_drawn" [eSc x, eI y, eI n] = _
    rw [hd, drawnR, if_pos hn]
    rfl
  | ex _ => exact .inr rfl
  | no => exact .inl rfl
theorem t_p30 {ra : R (α × β × δ)} (q : Lr (evE c a ρ) (ra.mp (eP3 g h l))) : Lr (evE c (.idx a (.int 0)) ρ) ((ra.bd fun x => R.ok x.1).mp g) := by
  rw [evE]; exact lm q fun _ => by rw [evE]; rfl
theorem t_p31 {ra : R (α × β × δ)} (q : Lr (evE c a ρ) (ra.mp (eP3 g h l))) : Lr (evE c (.idx a (.int 1)) ρ) ((ra.bd fun x => R.ok x.2.1).mp h) := by
  rw [evE]; exact lm q fun _ => by rw [evE]; rfl
theorem t_p32 {ra : R (α × β × δ)} (q : Lr (evE c a ρ) (ra.mp (eP3 g h l))) : Lr (evE c (.idx a (.int 2)) ρ) ((ra.bd fun x => R.ok x.2.2).mp l) := by
  rw [evE]; exact lm q fun _ => by rw [evE]; rfl
def ixP (x : α × α) (n : Int) : R α := ixR [x.1, x.2] n
theorem o_ixP (g : α → D) (x : α × α) (n : Int) : idxD (eP g g x) (eI n) = (ixP x n).mp g := o_ixT g [x.1, x.2] n
theorem liftL {T : FT} {gc : List (Str × D)} {sub : Str → Str → Bool} {xs : List Str} {k : Nat} {f : Str} {fd : Fd} {ds : List D} {m : R D} (hl : T.lookup f = some fd) (hn : ds.length = fd.np) (h : Lr (endR (exSs (cvN T gc sub xs k) fd.body (startE fd.N.length ds))) m) : Lr ((cvN T gc sub xs (k + 1)).cal f ds) m := by
  have : (cvN T gc sub xs (k + 1)).cal f ds = endR (exSs (cvN T gc sub xs k) fd.body (startE fd.N.length ds)) := by
    simp only [cvN, hl, hn, if_true]
  rw [this]
  exact h
theorem liftE {T : FT} {gc : List (Str × D)} {sub : Str → Str → Bool} {xs : List Str} {k : Nat} {f : Str} {fd : Fd} {ds : List D} {m : R D} (hl : T.lookup f = some fd) (hn : ds.length = fd.np) (h : endR (exSs (cvN T gc sub xs k) fd.body (startE fd.N.length ds)) = m) : (cvN T gc sub xs (k + 1)).cal f ds = m := by
  simp only [cvN, hl, hn, if_true]
  exact h
end
end Wq.P

end
section
set_option Elab.async false
set_option linter.all false
set_option autoImplicit false
set_option maxRecDepth 100000
/-! Any thing read as one of a kind; one of some defs; what is refused. -/
namespace Wq
open PySem
section
variable {α β : Type}
def dI : D → Option Int
  | .int i => some i
  | _ => none
def dB : D → Option Bool
  | .bool i => some i
  | _ => none
def dAll (f : D → Option α) : List D → Option (List α)
  | [] => some []
  | x :: xs => match f x, dAll f xs with
    | some a, some r => some (a :: r)
    | _, _ => none
def dTl (f : D → Option α) : D → Option (List α)
  | .tuple xs => dAll f xs
  | _ => none
def dLl (f : D → Option α) : D → Option (List α)
  | .list xs => dAll f xs
  | _ => none
def dPr (f : D → Option α) (g : D → Option β) : D → Option (α × β)
  | .tuple [a, b] => match f a, g b with
    | some x, some y => some (x, y)
    | _, _ => none
  | _ => none
theorem dI_ok (d : D) (x : Int) (h : dI d = some x) : d = eI x := by
  cases d <;> simp [dI] at h
  subst h; rfl
theorem dB_ok (d : D) (x : Bool) (h : dB d = some x) : d = eB x := by
  cases d <;> simp [dB] at h
  subst h; rfl
theorem dAll_ok {f : D → Option α} {g : α → D} (hf : ∀ d x, f d = some x → d = g x) : ∀ (ds : List D) (xs : List α), dAll f ds = some xs → ds = xs.map g
  | [], xs, h => by simp [dAll] at h; subst h; rfl
  | d :: ds, xs, h => by
    unfold dAll at h
    split at h
    · rename_i a r h1 h2
      simp at h
      subst h
      rw [List.map_cons, ← hf d a h1, ← dAll_ok hf ds r h2]
    · cases h
theorem dTl_ok {f : D → Option α} {g : α → D} (hf : ∀ d x, f d = some x → d = g x) (d : D) (x : List α) (h : dTl f d = some x) : d = eT g x := by
  cases d <;> simp [dTl] at h
  rw [eT, dAll_ok hf _ x h]
theorem dLl_ok {f : D → Option α} {g : α → D} (hf : ∀ d x, f d = some x → d = g x) (d : D) (x : List α) (h : dLl f d = some x) : d = eL g x := by
  cases d <;> simp [dLl] at h
  rw [eL, dAll_ok hf _ x h]
theorem dPr_ok {f : D → Option α} {f' : D → Option β} {g : α → D} {g' : β → D} (hf : ∀ d x, f d = some x → d = g x) (hf' : ∀ d x, f' d = some x → d = g' x) (d : D) (x : α × β) (h : dPr f f' d = some x) : d = eP g g' x := by
  unfold dPr at h
  split at h
  · split at h
    · rename_i h1 h2
      simp at h
      subst h
      rw [eP, ← hf _ _ h1, ← hf' _ _ h2]
    · cases h
  · cases h
theorem dAll_enc {f : D → Option α} {g : α → D} (hf : ∀ x, f (g x) = some x) : ∀ xs : List α, dAll f (xs.map g) = some xs
  | [] => rfl
  | x :: xs => by simp [dAll, hf, dAll_enc hf xs]
theorem dTl_enc {f : D → Option α} {g : α → D} (hf : ∀ x, f (g x) = some x) (xs : List α) : dTl f (eT g xs) = some xs := dAll_enc hf xs
theorem dLl_enc {f : D → Option α} {g : α → D} (hf : ∀ x, f (g x) = some x) (xs : List α) : dLl f (eL g xs) = some xs := dAll_enc hf xs
theorem dPr_enc {f : D → Option α} {f' : D → Option β} {g : α → D} {g' : β → D} (hf : ∀ x, f (g x) = some x) (hf' : ∀ x, f' (g' x) = some x) (p : α × β) : dPr f f' (eP g g' p) = some p := by
  simp [dPr, eP, hf, hf']
theorem dI_enc (x : Int) : dI (eI x) = some x := rfl
theorem dB_enc (x : Bool) : dB (eB x) = some x := rfl
theorem deR_enc {f : D → Option α} {g : α → D} (hf : ∀ x, f (g x) = some x) (x : α) : deR f (g x) = .ok x := by simp [deR, hf]
abbrev dSet : D → Option (List Int) := dTl dI
abbrev dSpots : D → Option (List (Int × Int)) := dTl (dPr dI dI)
abbrev dSq : D → Option Sq := dPr dSpots dSet
abbrev dWish : D → Option (List (List Int)) := dTl dSet
theorem dSet_enc (x : List Int) : dSet (eT eI x) = some x := dTl_enc dI_enc x
theorem dSq_enc (x : Sq) : dSq (eSq x) = some x := dPr_enc (dTl_enc (dPr_enc dI_enc dI_enc)) (dTl_enc dI_enc) x
theorem dWish_enc (x : List (List Int)) : dWish (eT (eT eI) x) = some x := dTl_enc (dTl_enc dI_enc) x
theorem de_set (x : List Int) : deR dSet (eT eI x) = .ok x := deR_enc dSet_enc x
theorem de_sq (x : Sq) : deR dSq (eSq x) = .ok x := deR_enc dSq_enc x
theorem de_wish (x : List (List Int)) : deR dWish (eT (eT eI) x) = .ok x := deR_enc dWish_enc x
theorem de_int (x : Int) : deR dI (eI x) = .ok x := rfl
end
section
variable {c : Cv} {α β γ δ σ τ : Type} {ρ : En} {a b d : ME} {es : MEs} {i j : Nat}
variable {g : α → D} {h : β → D} {l : δ → D}
/-- list(..) of a pair -/
theorem o_LP (g : α → D) (h : β → D) (x : α × β) : biD .list [eP g h x] = (R.ok (PyData.list [g x.1, h x.2])).mp eD := rfl
def itemsR (d : D) : R (List D) := ofO (itemsD d)
theorem i_seqD {ra : R D} (q : Lr (evE c a ρ) (ra.mp eD)) : Lr (evI c (.seq a) ρ) ((ra.bd fun x => itemsR x).mp (List.map eD)) := by
  rw [evI]
  refine lb q fun x => .of ?_
  show ofO (itemsD x) = _
  unfold itemsR
  cases itemsD x with
  | none => rfl
  | some l => show R.ok l = R.ok (l.map fun d => d); rw [List.map_id']
def repT (xs : List α) (k : Int) : R (List α) := if decide (2 ≤ k) && decide (k ≤ 1000) && decide (xs.length ≤ 1000) && !xs.isEmpty then .ok (times k xs) else if decide (k = 1) then .ok xs else .no
theorem o_repT (g : α → D) (x : List α) (n : Int) : binD .mul (eT g x) (eI n) = (repT x n).mp (eT g) := by
  simp only [binD, mulD, eT, repT, List.length_map, List.isEmpty_map]
  split
  · show _ = R.ok (PyData.tuple ((times n x).map g))
    rw [times_map]
  · split <;> rfl
def isbR (b n : Bool) : D → R Bool
  | .bool k => .ok (n != decide (k = b))
  | .int _ => .ok n
  | _ => .no
theorem t_isB {b n : Bool} {ra : R D} (q : Lr (evE c a ρ) (ra.mp eD)) : Lr (evE c (.isB a b n) ρ) ((ra.bd fun x => isbR b n x).mp eB) := by
  rw [evE]
  refine lb q fun x => .of ?_
  show isbD b n x = _
  cases x <;> rfl
/-! ### one of some defs -/
inductive Z2 {α β : Type} (P : α → β → Prop) : List α → List β → Prop
  | nil : Z2 P [] []
  | cons {x : α} {y : β} {xs : List α} {ys : List β} : P x y → Z2 P xs ys → Z2 P (x :: xs) (y :: ys)
theorem Z2.len {α β : Type} {P : α → β → Prop} {xs : List α} {ys : List β} (h : Z2 P xs ys) : xs.length = ys.length := by
  induction h with
  | nil => rfl
  | cons _ _ ih => simp [ih]
theorem Z2.get {α β : Type} {P : α → β → Prop} {xs : List α} {ys : List β} (h : Z2 P xs ys) : ∀ k : Nat, (xs[k]? = none ∧ ys[k]? = none) ∨ ∃ x y, xs[k]? = some x ∧ ys[k]? = some y ∧ P x y := by
  induction h with
  | nil => intro k; exact .inl ⟨by simp, by simp⟩
  | cons h1 _ ih =>
    intro k
    cases k with
    | zero => exact .inr ⟨_, _, by simp, by simp, h1⟩
    | succ k => simpa using ih k
theorem Z2.atI {α β : Type} {P : α → β → Prop} {xs : List α} {ys : List β} (h : Z2 P xs ys) (n : Int) : (L2.atI xs n = none ∧ L2.atI ys n = none) ∨ ∃ x y, L2.atI xs n = some x ∧ L2.atI ys n = some y ∧ P x y := by
  unfold L2.atI
  rw [h.len]
  cases L2.ixN ys.length n with
  | none => exact .inl ⟨rfl, rfl⟩
  | some k => exact h.get k
/-- which of them, and what it tells -/
def ofN (ks : List (R D)) (n : Int) : R D := (ixR ks n).bd fun r => r
theorem callS_ok {fs : List Str} {ks : List (R D)} {ds : List D} (hk : Z2 (fun f k => Lr (c.cal f ds) k) fs ks) (n : Int) : Lr ((ofO (ixD fs n)).bind fun f => c.cal f ds) (ofN ks n) := by
  unfold ofN ixR ixD
  rcases hk.atI n with ⟨e1, e2⟩ | ⟨f, k, e1, e2, h⟩
  · rw [e1, e2]; exact .inl rfl
  · rw [e1, e2]; exact h
theorem mp_eD (k : R D) : k.mp eD = k := by cases k <;> rfl
theorem ed_nil : Lr (evEs c .nil ρ) (R.ok []) := by rw [evEs]; exact .inr rfl
theorem ed_cons {x : α} {ds : List D} (qa : Lr (evE c a ρ) ((R.ok x).mp g)) (qs : Lr (evEs c es ρ) (R.ok ds)) : Lr (evEs c (.cons a es) ρ) (R.ok (g x :: ds)) := by
  rw [evEs, qa.ok, qs.ok]; exact .inr rfl
theorem t_callS {fs : List Str} {ix : ME} {ri : R Int} {ks : List (R D)} {ds : List D} (hk : Z2 (fun f k => Lr (c.cal f ds) k) fs ks) (qi : Lr (evE c ix ρ) (ri.mp eI)) (qs : Lr (evEs c es ρ) (R.ok ds)) : Lr (evE c (.callS fs ix es) ρ) ((ri.bd fun i => ofN ks i).mp eD) := by
  rw [evE, qs.ok]
  refine lb qi fun i => ?_
  rw [mp_eD]
  exact callS_ok hk i
/-! ### what is refused -/
def tryR (r : R D) (ref : Str → Option D) : Ct σ D := match r with
  | .ok x => .rt x
  | .ex k => match ref k with
    | some d => .rt d
    | none => .no
  | .no => .no
/-- which refusal it is -/
structure RefOk (c : Cv) (f cl : Str) (ref : Str → Option D) : Prop where
  tell : ∀ k d, ref k = some d → c.calx f k = .ok d
  held : ∀ k d, ref k = some d → c.xs.contains k = true ∧ c.sub k cl = true
theorem k_try {K : En → Fx} {ss : MSs} {E : σ → En} {f cl : Str} {ref : Str → Option D} {r : R D} (hf : RefOk c f cl ref) (hg : ∀ k, getX (ρ.set i (.exc k)) i = .ok k) (h : Lr (evE c a ρ) (r.mp eD)) : Lx (xK c (.cons (.try_ (.cons (.ret a) .nil) cl i (.cons (.ret (.callX f i)) .nil)) ss) K ρ) ((tryR r ref : Ct σ D).fx E eD) := by
  rw [xK_cons, exS, ss_cons, exS]
  rcases h with h | h
  · rw [mp_no h]; exact .inl rfl
  rw [h]
  cases r with
  | ok x => exact .inr rfl
  | no => exact .inl rfl
  | ex k =>
    cases q : ref k with
    | none =>
      refine .inl ?_
      simp only [tryR, q]
      rfl
    | some d =>
      obtain ⟨h1, h2⟩ := hf.held k d q
      have e : (tryR (.ex k) ref : Ct σ D) = .rt d := by simp only [tryR, q]
      rw [e]
      show Lx ((if c.xs.contains k then (if c.sub k cl then (match exSs c (.cons (.ret (.callX f i)) .nil) (ρ.set i (.exc k)) with
          | .nx ρ'' => if noX (ρ''.set i .emp) then .nx (ρ''.set i .emp) else .no
          | .rt d => .rt d
          | _ => .no) else .ex k ρ) else .no : Fl).x.then _) ((Ct.rt d : Ct σ D).fx E eD)
      rw [if_pos h1, if_pos h2, ss_cons, exS, evE, hg]
      show Lx ((match (match (c.calx f k).fl (ρ.set i (.exc k)) .rt with
          | .nx ρ' => exSs c .nil ρ'
          | r => r) with
          | .nx ρ'' => if noX (ρ''.set i .emp) then .nx (ρ''.set i .emp) else .no
          | .rt d => .rt d
          | _ => .no : Fl).x.then _) _
      rw [hf.tell k d q]
      exact .inr rfl
mutual
/-- nothing but returns and ifs of such -/
def rOnly : MS → Bool
  | .ret _ => true
  | .ifs _ a b => rOnlys a && rOnlys b
  | _ => false
def rOnlys : MSs → Bool
  | .nil => true
  | .cons s ss => rOnly s && rOnlys ss
end
mutual
theorem ro_s : ∀ (s : MS), rOnly s = true → ∀ ρ : En, (∀ ρ', exS c s ρ = .nx ρ' → ρ' = ρ) ∧ ∀ k ρ', exS c s ρ = .ex k ρ' → ρ' = ρ
  | .ret e, _, ρ => by
    rw [exS]
    cases evE c e ρ <;> constructor <;> intros <;> simp_all [R.fl]
  | .ifs t x y, h, ρ => by
    rw [rOnly, Bool.and_eq_true] at h
    rw [exS]
    cases q : (evE c t ρ).bind tru with
    | ok k =>
      show (∀ ρ', (if k = true then exSs c x ρ else exSs c y ρ) = .nx ρ' → ρ' = ρ) ∧ ∀ k' ρ', (if k = true then exSs c x ρ else exSs c y ρ) = .ex k' ρ' → ρ' = ρ
      cases k with
      | true => exact ro_ss x h.1 ρ
      | false => exact ro_ss y h.2 ρ
    | ex k => constructor <;> intros <;> simp_all [R.fl]
    | no => constructor <;> intros <;> simp_all [R.fl]
  | .frz _, h, _ => by cases h
  | .fgt _, h, _ => by cases h
  | .asg _ _, h, _ => by cases h
  | .asgL _ _, h, _ => by cases h
  | .asgA _ _ _, h, _ => by cases h
  | .app _ _, h, _ => by cases h
  | .ext _ _, h, _ => by cases h
  | .dnew _, h, _ => by cases h
  | .dnew1 _ _ _, h, _ => by cases h
  | .dput _ _ _, h, _ => by cases h
  | .exp _, h, _ => by cases h
  | .for_ _ _ _, h, _ => by cases h
  | .whl _ _, h, _ => by cases h
  | .rais _, h, _ => by cases h
  | .try_ _ _ _ _, h, _ => by cases h
theorem ro_ss : ∀ (ss : MSs), rOnlys ss = true → ∀ ρ : En, (∀ ρ', exSs c ss ρ = .nx ρ' → ρ' = ρ) ∧ ∀ k ρ', exSs c ss ρ = .ex k ρ' → ρ' = ρ
  | .nil, _, ρ => by
    rw [exSs]
    constructor <;> intros <;> simp_all
  | .cons s ss, h, ρ => by
    rw [rOnlys, Bool.and_eq_true] at h
    have h1 := ro_s s h.1 ρ
    have h2 := ro_ss ss h.2
    rw [exSs]
    cases q : exS c s ρ with
    | nx ρ1 =>
      have := h1.1 ρ1 q
      subst this
      exact h2 _
    | rt d => constructor <;> intros <;> simp_all
    | ex k ρ1 =>
      refine ⟨(fun ρ' e => by cases e), fun k' ρ' e => ?_⟩
      cases e
      exact h1.2 _ _ q
    | no => constructor <;> intros <;> simp_all
end
def tryC (M : Ct Empty D) (ref : Str → Option D) : Ct σ D := match M with
  | .nx z => nomatch z
  | .rt x => .rt x
  | .ex k => match ref k with
    | some d => .rt d
    | none => .no
  | .no => .no
theorem k_tryB {K : En → Fx} {ss bb : MSs} {E : σ → En} {f cl : Str} {ref : Str → Option D} {M : Ct Empty D} (hf : RefOk c f cl ref) (hg : ∀ k, getX (ρ.set i (.exc k)) i = .ok k) (ho : rOnlys bb = true) (h : Lx (xK c bb .nx ρ) (M.fx (fun z => nomatch z) eD)) : Lx (xK c (.cons (.try_ bb cl i (.cons (.ret (.callX f i)) .nil)) ss) K ρ) ((tryC M ref : Ct σ D).fx E eD) := by
  rw [xK_nx] at h
  rw [xK_cons, exS]
  rcases h with h | h
  · cases M with
    | no => exact .inl rfl
    | nx z => exact nomatch z
    | rt _ => cases h
    | ex _ => cases h
  cases M with
  | no => exact .inl rfl
  | nx z => exact nomatch z
  | rt x =>
    cases q : exSs c bb ρ with
    | rt d =>
      rw [q] at h
      exact .inr h
    | nx _ => rw [q] at h; cases h
    | ex _ _ => rw [q] at h; cases h
    | no => rw [q] at h; cases h
  | ex k =>
    cases q : exSs c bb ρ with
    | rt d => rw [q] at h; cases h
    | nx _ => rw [q] at h; cases h
    | no => rw [q] at h; cases h
    | ex k' ρ' =>
      rw [q] at h
      cases h
      have := (ro_ss bb ho ρ).2 _ _ q
      subst this
      cases q2 : ref k with
      | none =>
        refine .inl ?_
        simp only [tryC, q2]
        rfl
      | some d =>
        obtain ⟨h1, h2⟩ := hf.held k d q2
        have e : (tryC (.ex k) ref : Ct σ D) = .rt d := by simp only [tryC, q2]
        rw [e]
        show Lx ((if c.xs.contains k then (if c.sub k cl then (match exSs c (.cons (.ret (.callX f i)) .nil) (ρ'.set i (.exc k)) with
            | .nx ρ'' => if noX (ρ''.set i .emp) then .nx (ρ''.set i .emp) else .no
            | .rt d => .rt d
            | _ => .no) else .ex k ρ') else .no : Fl).x.then _) ((Ct.rt d : Ct σ D).fx E eD)
        rw [if_pos h1, if_pos h2, ss_cons, exS, evE, hg]
        show Lx ((match (match (c.calx f k).fl (ρ'.set i (.exc k)) .rt with
            | .nx ρ' => exSs c .nil ρ'
            | r => r) with
            | .nx ρ'' => if noX (ρ''.set i .emp) then .nx (ρ''.set i .emp) else .no
            | .rt d => .rt d
            | _ => .no : Fl).x.then _) _
        rw [hf.tell k d q2]
        exact .inr rfl
theorem calx_l {T : FT} {gc : List (Str × D)} {sub : Str → Str → Bool} {xs : List Str} {k : Nat} {f cl : Str} {fd : Fd} (hl : T.lookup f = some fd) (hn : fd.np = 1) : (cvN T gc sub xs (k + 1)).calx f cl = endR (exSs (cvN T gc sub xs k) fd.body (Sl.exc cl :: List.replicate (fd.N.length - 1) Sl.emp)) := by
  simp only [cvN, hl, hn, if_true]
end
end Wq

end
section
set_option Elab.async false
set_option linter.all false
set_option autoImplicit false
set_option maxRecDepth 100000
/-! Any thing worked with as it is; words read of any thing. -/
namespace Wq
open PySem
section
variable {α β γ : Type}
def dS : D → Option Str
  | .str s => some s
  | _ => none
def dW : D → Option Bool
  | .str s => if s = ("row" : Str) then some true else if s = ("column" : Str) then some false else none
  | _ => none
def dC : D → Option Bool
  | .str s => if s = ("up" : Str) then some true else if s = ("down" : Str) then some false else none
  | _ => none
theorem dS_ok (d : D) (x : Str) (h : dS d = some x) : d = eS x := by
  cases d <;> simp [dS] at h
  subst h; rfl
theorem dW_ok (d : D) (x : Bool) (h : dW d = some x) : d = eW x := by
  cases d with
  | str s =>
    have h : (if s = ("row" : Str) then some true else if s = ("column" : Str) then some false else none) = some x := h
    by_cases e1 : s = ("row" : Str)
    · rw [if_pos e1] at h
      obtain rfl := Option.some.inj h
      rw [e1]; rfl
    · rw [if_neg e1] at h
      by_cases e2 : s = ("column" : Str)
      · rw [if_pos e2] at h
        obtain rfl := Option.some.inj h
        rw [e2]; rfl
      · rw [if_neg e2] at h; cases h
  | _ => cases h
theorem dC_ok (d : D) (x : Bool) (h : dC d = some x) : d = eC x := by
  cases d with
  | str s =>
    have h : (if s = ("up" : Str) then some true else if s = ("down" : Str) then some false else none) = some x := h
    by_cases e1 : s = ("up" : Str)
    · rw [if_pos e1] at h
      obtain rfl := Option.some.inj h
      rw [e1]; rfl
    · rw [if_neg e1] at h
      by_cases e2 : s = ("down" : Str)
      · rw [if_pos e2] at h
        obtain rfl := Option.some.inj h
        rw [e2]; rfl
      · rw [if_neg e2] at h; cases h
  | _ => cases h
theorem dS_enc (x : Str) : dS (eS x) = some x := rfl
theorem dW_enc (x : Bool) : dW (eW x) = some x := by cases x <;> decide +kernel
theorem dC_enc (x : Bool) : dC (eC x) = some x := by cases x <;> decide +kernel
def lenD (d : D) : R Int := match d with
  | .str z => if z.length ≤ LIM then .ok z.length else .no
  | .list xs => .ok xs.length
  | .tuple xs => .ok xs.length
  | _ => .no
theorem o_lenD (x : D) : biD .len [eD x] = (lenD x).mp eI := by
  cases x with
  | str z =>
    show (if z.length ≤ LIM then R.ok (PyData.int z.length) else R.no) = R.mp (if z.length ≤ LIM then R.ok (z.length : Int) else R.no) eI
    split <;> rfl
  | _ => rfl
def ixDD (x : D) (n : Int) : R D := idxD x (.int n)
theorem o_ixD (x : D) (n : Int) : idxD (eD x) (eI n) = (ixDD x n).mp eD := (mp_eD _).symm
def slDD (x : D) (l h : Option Int) : R D := slD l h x
theorem o_slD (x : D) (l h : Option Int) : slD l h (eD x) = (slDD x l h).mp eD := (mp_eD _).symm
theorem o_inD (x y : D) : cmpD .isin (eD x) (eD y) = inD x y := rfl
def niD (x y : D) : R Bool := (inD x y).mp fun k => !k
theorem o_niD (x y : D) : cmpD .notin (eD x) (eD y) = niD x y := by
  show (inD x y).bind _ = _
  unfold niD
  cases inD x y <;> rfl
def ltDD (x y : D) : R Bool := cmpD .lt x y
theorem o_ltD (x y : D) : cmpD .lt (eD x) (eD y) = ltDD x y := rfl
theorem o_addD (x y : D) : binD .add (eD x) (eD y) = (addD x y).mp eD := (mp_eD _).symm
def biDD (b : BI) (x : D) : R D := biD b [x]
theorem o_biD (b : BI) (x : D) : biD b [eD x] = (biDD b x).mp eD := (mp_eD _).symm
variable {c : Cv} {ρ : En} {a b d : ME}
theorem t_revP {g : α → D} {ra : R (α × α)} (q : Lr (evE c a ρ) (ra.mp (eP g g))) : Lr (evE c (.rev a) ρ) ((ra.bd fun x => R.ok (x.2, x.1)).mp (eP g g)) := by
  rw [evE]; exact lm q fun x => by simp [revD, eP]
theorem t_chainR {o1 o2 : COp} {ra rb rd : R Int} {f1 f2 : Int → Int → Bool} (h1 : ∀ x y, cmpD o1 (eI x) (eI y) = .ok (f1 x y)) (h2 : ∀ x y, cmpD o2 (eI x) (eI y) = .ok (f2 x y)) (qa : Lr (evE c a ρ) (ra.mp eI)) (qb : Lr (evE c b ρ) (rb.mp eI)) (qd : Lr (evE c d ρ) (rd.mp eI)) : Lr (evE c (.chain o1 o2 a b d) ρ) ((ra.bd fun x => rb.bd fun y => if f1 x y then rd.bd fun z => R.ok (f2 y z) else R.ok false).mp eB) := by
  rw [evE]
  refine lb qa fun x => lb qb fun y => ?_
  rw [h1]
  show Lr (if f1 x y = true then (evE c d ρ).bind fun z => (cmpD o2 (eI y) z).bind fun k2 => R.ok (PyData.bool k2) else R.ok (PyData.bool false)) _
  cases f1 x y with
  | false => exact .inr rfl
  | true =>
    show Lr ((evE c d ρ).bind fun z => (cmpD o2 (eI y) z).bind fun k2 => R.ok (PyData.bool k2)) ((rd.bd fun z => R.ok (f2 y z)).mp eB)
    refine lb qd fun z => ?_
    rw [h2]
    exact .inr rfl
/-- a def, whole, that may end without a return -/
theorem f_endU {bb : MSs} {M : Ct Empty Unit} (h : Lx (xK c bb (fun _ => .rt .none) ρ) (M.fx (fun z => nomatch z) eU)) : Lr (endR (exSs c bb ρ)) (M.run.mp eU) := by
  rcases h with h | h
  · cases M with
    | no => exact .inl rfl
    | nx s => exact nomatch s
    | rt _ => cases h
    | ex _ => cases h
  · refine .inr ?_
    rw [end_x]
    unfold xK at h
    cases q : exSs c bb ρ with
    | nx ρ1 =>
      rw [q] at h
      have h : Fx.rt .none = _ := h
      cases M with
      | nx s => exact nomatch s
      | rt r => rfl
      | ex k => cases h
      | no => cases h
    | rt d =>
      rw [q] at h
      have h : Fx.rt d = _ := h
      cases M with
      | nx s => exact nomatch s
      | rt r => cases h; rfl
      | ex k => cases h
      | no => cases h
    | ex k ρ1 =>
      rw [q] at h
      have h : Fx.ex k = _ := h
      cases M with
      | nx s => exact nomatch s
      | rt r => cases h
      | ex k => cases h; rfl
      | no => cases h
    | no =>
      rw [q] at h
      have h : Fx.no = _ := h
      cases M with
      | nx s => exact nomatch s
      | rt r => cases h
      | ex k => cases h
      | no => rfl
end
end Wq

end
section
set_option Elab.async false
set_option linter.all false
set_option autoImplicit false
set_option maxRecDepth 100000
/-! Dicts of one's own, with types. -/
namespace Wq
open PySem
section
variable {α β γ σ σ' τ : Type}
def cntT [DecidableEq α] (xs : List α) (y : α) : Int := ((xs.filter fun z => decide (z = y)).length : Nat)
theorem cnt_map {n : Nat} {g : α → D} [Cd g n] [DecidableEq α] (x : α) : ∀ xs : List α, ((xs.map g).countP fun z => PyData.eqv z (g x)) = (xs.filter fun z => decide (z = x)).length
  | [] => rfl
  | y :: xs => by
    rw [List.map_cons, List.countP_cons, cnt_map x xs, Cd.dec, List.filter_cons]
    by_cases e : y = x <;> simp [e]
theorem t_cntL {n : Nat} {g : α → D} [Cd g n] [DecidableEq α] (hn : n + 1 ≤ 64) {c : Cv} {ρ : En} {a b : ME} {ra : R (List α)} {rb : R α} (qa : Lr (evE c a ρ) (ra.mp (eL g))) (qb : Lr (evE c b ρ) (rb.mp g)) : Lr (evE c (.mt .count a (.cons b .nil)) ρ) ((ra.bd fun x => rb.bd fun y => R.ok (cntT x y)).mp eI) := by
  rw [evE]
  refine lb qa fun x => ?_
  show Lr (if true then (evEs c (.cons b .nil) ρ).bind fun ds => mtD .count (eL g x) ds else .no) _
  rw [if_pos rfl, evEs, evEs]
  refine lb1 qb fun y => .of ?_
  have h1 : Wq.shp (eL g x) = true := Cd.shp hn x
  have h2 : Wq.shp (g y) = true := Cd.shp (by omega) y
  show (if (Wq.shp (g y) && Wq.shp (.list (x.map g))) = true then R.ok (PyData.int (((x.map g).countP fun z => PyData.eqv z (g y)) : Nat)) else R.no) = _
  have h1 : Wq.shp (.list (x.map g)) = true := h1
  rw [h1, h2, cnt_map]
  rfl
theorem i_enD {c : Cv} {ρ : En} {a : ME} {ra : R D} (q : Lr (evE c a ρ) (ra.mp eD)) : Lr (evI c (.enum a) ρ) ((ra.bd fun x => (itemsR x).bd fun y => R.ok (enT 0 y)).mp (List.map (eP eI eD))) := by
  rw [evI]
  refine lb q fun x => .of ?_
  show (ofO (itemsD x)).bind _ = _
  unfold itemsR
  cases z : itemsD x with
  | none => rfl
  | some xs =>
    show R.ok (enumD 0 xs) = R.ok ((enT 0 xs).map (eP eI eD))
    have : ∀ (xs : List D) (k : Nat), enumD k xs = (enT (k : Int) xs).map (eP eI eD) := by
      intro xs
      induction xs with
      | nil => intro k; rfl
      | cons x xs ih =>
        intro k
        show PyData.tuple [.int (k : Int), x] :: enumD (k + 1) xs = _
        rw [ih (k + 1)]
        rfl
    rw [this xs 0]
    rfl
/-- a kind of key -/
class KyC (g : α → D) (kk : outParam (α → List Key)) : Prop where
  ok : ∀ x, keyD (g x) = .ok (kk x)
  inj : ∀ x y, kk x = kk y → x = y
def kkS : List Int → List Key := List.map Sum.inl
def kkW (p : Bool × Int) : List Key := [.inr (if p.1 then "row" else "column"), .inl p.2]
theorem toKeys_ints : ∀ ns : List Int, toKeys (ns.map eI) = some (kkS ns)
  | [] => rfl
  | n :: ns => by
    show (toKey (.int n)).bind (fun k => (toKeys (ns.map eI)).map fun ks => k :: ks) = _
    rw [toKeys_ints ns]
    rfl
instance : KyC (eT eI) kkS := ⟨fun x => by
    show ofO (toKeys (x.map eI)) = _
    rw [toKeys_ints]
    rfl, fun x => by
    induction x with
    | nil => intro y h; cases y with
      | nil => rfl
      | cons _ _ => cases h
    | cons a x ih => intro y h; cases y with
      | nil => cases h
      | cons b y =>
        have h : (Sum.inl a :: kkS x : List Key) = Sum.inl b :: kkS y := h
        obtain ⟨h1, h2⟩ := List.cons.inj h
        cases h1
        rw [ih y h2]⟩
instance : KyC (eP eW eI) kkW := ⟨fun _ => rfl, fun x y h => by
    obtain ⟨a, n⟩ := x
    obtain ⟨b, m⟩ := y
    simp only [kkW, List.cons.injEq, Sum.inr.injEq, Sum.inl.injEq, and_true] at h
    obtain ⟨h1, h2⟩ := h
    subst h2
    cases a <;> cases b
    · rfl
    · exact absurd h1.symm (by simpa using row_col)
    · exact absurd h1 (by simpa using row_col)
    · rfl⟩
def eDic (kk : α → List Key) (g : β → D) (kvs : List (α × β)) : List (List Key × D) := kvs.map fun p => (kk p.1, g p.2)
def dlookT [DecidableEq α] (kvs : List (α × β)) (k : α) : Option β := (kvs.find? fun p => decide (p.1 = k)).map (·.2)
def dputT [DecidableEq α] (k : α) (v : β) : List (α × β) → List (α × β)
  | [] => [(k, v)]
  | p :: r => if p.1 = k then (p.1, v) :: r else p :: dputT k v r
def putR [DecidableEq α] (kvs : List (α × β)) (k : α) (v : β) : R (List (α × β)) := if kvs.length < 100000 then .ok (dputT k v kvs) else .no
variable {h : α → D} {kk : α → List Key} {g : β → D} [DecidableEq α] [KyC h kk] {c : Cv} {ρ : En} {i : Nat} {k v : ME} {kvs : List (α × β)}
theorem look_e (h : α → D) [KyC h kk] (kvs : List (α × β)) (x : α) : dlook (eDic kk g kvs) (kk x) = (dlookT kvs x).map g := by
  induction kvs with
  | nil => rfl
  | cons p r ih =>
    by_cases e : p.1 = x
    · simp [dlook, dlookT, eDic, e]
    · have e2 : ¬ kk p.1 = kk x := fun z => e (KyC.inj (g := h) _ _ z)
      have l1 : dlook (eDic kk g (p :: r)) (kk x) = dlook (eDic kk g r) (kk x) := by simp [dlook, eDic, e2]
      have l2 : dlookT (p :: r) x = dlookT r x := by simp [dlookT, e]
      rw [l1, l2, ih]
theorem put_e (h : α → D) [KyC h kk] (x : α) (y : β) : ∀ kvs : List (α × β), dputL (eDic kk g kvs) (kk x) (g y) = eDic kk g (dputT x y kvs)
  | [] => rfl
  | p :: r => by
    show (if kk p.1 = kk x then (kk p.1, g y) :: eDic kk g r else (kk p.1, g p.2) :: dputL (eDic kk g r) (kk x) (g y)) = eDic kk g (if p.1 = x then (p.1, y) :: r else p :: dputT x y r)
    by_cases e : p.1 = x
    · rw [if_pos (by rw [e]), if_pos e]; rfl
    · rw [if_neg (fun z => e (KyC.inj (g := h) _ _ z)), if_neg e, put_e h x y r]; rfl
theorem getD_of (q : ρ[i]? = some (.dic (eDic kk g kvs))) : getD' ρ i = .ok (eDic kk g kvs) := by simp only [getD', q]
theorem t_dget1 {rk : R α} (q : ρ[i]? = some (.dic (eDic kk g kvs))) (qk : Lr (evE c k ρ) (rk.mp h)) : Lr (evE c (.dget1 i k) ρ) ((rk.bd fun x => R.ok (dlookT kvs x)).mp (eO g)) := by
  rw [evE, getD_of q, bind_ok']
  refine lm qk fun x => ?_
  rw [KyC.ok (g := h)]
  show R.ok ((dlook (eDic kk g kvs) (kk x)).getD .none) = _
  rw [look_e h]
  cases dlookT kvs x <;> rfl
theorem t_dget2 {rk : R α} {rv : R β} (q : ρ[i]? = some (.dic (eDic kk g kvs))) (qk : Lr (evE c k ρ) (rk.mp h)) (qv : Lr (evE c v ρ) (rv.mp g)) : Lr (evE c (.dget2 i k v) ρ) ((rk.bd fun x => rv.bd fun y => R.ok ((dlookT kvs x).getD y)).mp g) := by
  rw [evE, getD_of q, bind_ok']
  refine lb qk fun x => lm qv fun y => ?_
  rw [KyC.ok (g := h)]
  show R.ok ((dlook (eDic kk g kvs) (kk x)).getD (g y)) = _
  rw [look_e h]
  cases dlookT kvs x <;> rfl
theorem t_ditem {rk : R α} (q : ρ[i]? = some (.dic (eDic kk g kvs))) (qk : Lr (evE c k ρ) (rk.mp h)) : Lr (evE c (.ditem i k) ρ) ((rk.bd fun x => ofO (dlookT kvs x)).mp g) := by
  rw [evE, getD_of q, bind_ok']
  refine lb qk fun x => .of ?_
  rw [KyC.ok (g := h)]
  show ofO (dlook (eDic kk g kvs) (kk x)) = _
  rw [look_e h]
  cases dlookT kvs x <;> rfl
theorem t_din {n : Bool} {rk : R α} (q : ρ[i]? = some (.dic (eDic kk g kvs))) (qk : Lr (evE c k ρ) (rk.mp h)) : Lr (evE c (.din i k n) ρ) ((rk.bd fun x => R.ok (n != (dlookT kvs x).isSome)).mp eB) := by
  rw [evE]
  refine lm qk fun x => ?_
  rw [getD_of q, KyC.ok (g := h)]
  show R.ok (PyData.bool (n != (dlook (eDic kk g kvs) (kk x)).isSome)) = _
  rw [look_e h]
  cases dlookT kvs x <;> rfl
variable {ss : MSs} {K : En → Fx} {E : σ → En} {e : τ → D}
theorem k_dnew {M : Ct σ τ} (q : Lx (xK c ss K (ρ.set i (.dic []))) (M.fx E e)) : Lx (xK c (.cons (.dnew i) ss) K ρ) (M.fx E e) := by
  rw [xK_cons, exS]
  exact q
theorem k_dnew1 {rk : R α} {rv : R β} {M : α → β → Ct σ τ} (qk : Lr (evE c k ρ) (rk.mp h)) (qv : Lr (evE c v ρ) (rv.mp g)) (q : ∀ x y, Lx (xK c ss K (ρ.set i (.dic (eDic kk g [(x, y)])))) ((M x y).fx E e)) : Lx (xK c (.cons (.dnew1 i k v) ss) K ρ) ((rk.ct fun x => rv.ct fun y => M x y).fx E e) := by
  rw [xK_cons, exS]
  rcases qk with z | z
  · rw [mp_no z]; exact .inl rfl
  rw [z]
  cases rk with
  | no => exact .inl rfl
  | ex _ => exact .inr rfl
  | ok x =>
    rcases qv with z | z
    · rw [mp_no z]; exact .inl rfl
    rw [z]
    cases rv with
    | no => exact .inl rfl
    | ex _ => exact .inr rfl
    | ok y =>
      show Lx (((keyD (h x)).fl ρ fun q => Fl.nx (ρ.set i (.dic [(q, g y)]))).x.then (xK c ss K)) ((M x y).fx E e)
      rw [KyC.ok (g := h)]
      exact q x y
theorem k_dput {rk : R α} {rv : R β} {M : List (α × β) → Ct σ τ} (qd : ρ[i]? = some (.dic (eDic kk g kvs))) (qk : Lr (evE c k ρ) (rk.mp h)) (qv : Lr (evE c v ρ) (rv.mp g)) (q : ∀ x : List (α × β), Lx (xK c ss K (ρ.set i (.dic (eDic kk g x)))) ((M x).fx E e)) :
    Lx (xK c (.cons (.dput i k v) ss) K ρ) ((rv.ct fun y => rk.ct fun x => (putR kvs x y).ct M).fx E e) := by
  rw [xK_cons, exS]
  rcases qv with z | z
  · rw [mp_no z]; exact .inl rfl
  rw [z]
  cases rv with
  | no => exact .inl rfl
  | ex _ => exact .inr rfl
  | ok y =>
    show Lx (((getD' ρ i).fl ρ fun kvs => (evE c k ρ).fl ρ fun x => (keyD x).fl ρ fun q => if kvs.length < 100000 then Fl.nx (ρ.set i (.dic (dputL kvs q (g y)))) else .no).x.then (xK c ss K)) ((rk.ct fun x => (putR kvs x y).ct M).fx E e)
    rw [getD_of qd]
    show Lx (((evE c k ρ).fl ρ fun x => (keyD x).fl ρ fun q => if (eDic kk g kvs).length < 100000 then Fl.nx (ρ.set i (.dic (dputL (eDic kk g kvs) q (g y)))) else .no).x.then (xK c ss K)) _
    rcases qk with z | z
    · rw [mp_no z]; exact .inl rfl
    rw [z]
    cases rk with
    | no => exact .inl rfl
    | ex _ => exact .inr rfl
    | ok x =>
      show Lx (((keyD (h x)).fl ρ fun q => if (eDic kk g kvs).length < 100000 then Fl.nx (ρ.set i (.dic (dputL (eDic kk g kvs) q (g y)))) else .no).x.then (xK c ss K)) (((putR kvs x y).ct M).fx E e)
      rw [KyC.ok (g := h)]
      have hl : (eDic kk g kvs).length = kvs.length := by simp [eDic]
      show Lx ((if (eDic kk g kvs).length < 100000 then Fl.nx (ρ.set i (.dic (dputL (eDic kk g kvs) (kk x) (g y)))) else .no).x.then (xK c ss K)) _
      rw [hl, put_e h]
      unfold putR
      split
      · exact q _
      · exact .inl rfl
end
section
variable {α σ : Type} {c : Cv} {ρ : En} {i : Nat} {a : ME}
/-- a refusal of one class is None -/
def tryN (r : R (Option α)) (cl : Str) : Ct σ (Option α) := match r with
  | .ok x => .rt x
  | .ex k => if k = cl then .rt none else .no
  | .no => .no
def Held (c : Cv) (cl : Str) : Prop := c.xs.contains cl = true ∧ c.sub cl cl = true
theorem k_tryN {K : En → Fx} {ss : MSs} {E : σ → En} {cl : Str} {g : α → D} {r : R (Option α)} (hh : Held c cl) (h : Lr (evE c a ρ) (r.mp (eO g))) : Lx (xK c (.cons (.try_ (.cons (.ret a) .nil) cl i (.cons (.ret .non) .nil)) ss) K ρ) ((tryN r cl : Ct σ (Option α)).fx E (eO g)) := by
  rw [xK_cons, exS, ss_cons, exS]
  rcases h with h | h
  · rw [mp_no h]; exact .inl rfl
  rw [h]
  cases r with
  | ok x => exact .inr rfl
  | no => exact .inl rfl
  | ex k =>
    by_cases e : k = cl
    · subst e
      have e1 : (tryN (.ex k) k : Ct σ (Option α)) = .rt none := by simp only [tryN, if_true]
      rw [e1]
      show Lx ((if c.xs.contains k then (if c.sub k k then (match exSs c (.cons (.ret .non) .nil) (ρ.set i (.exc k)) with
          | .nx ρ'' => if noX (ρ''.set i .emp) then .nx (ρ''.set i .emp) else .no
          | .rt d => .rt d
          | _ => .no) else .ex k ρ) else .no : Fl).x.then _) ((Ct.rt none : Ct σ (Option α)).fx E (eO g))
      rw [if_pos hh.1, if_pos hh.2, ss_cons, exS, evE]
      exact .inr rfl
    · refine .inl ?_
      have e1 : (tryN (.ex k) cl : Ct σ (Option α)) = .no := by simp only [tryN, if_neg e]
      rw [e1]
      rfl
end
section
variable {α β γ δ ζ η : Type} {c : Cv} {ρ : En} {a b d e' f' : ME} {g : α → D} {h : β → D} {l : γ → D} {l' : ζ → D} {l2 : η → D} {k : δ → D}
/-- a list of things of one kind as one of any things -/
theorem t_toLD {ra : R (List α)} (q : Lr (evE c a ρ) (ra.mp (eL g))) : Lr (evE c a ρ) ((ra.bd fun x => R.ok (x.map g)).mp (eL eD)) := lid q fun x => by
  simp only [eL, List.map_map]
  congr 1
theorem t_call5 {f : Str} {m : α → β → γ → ζ → η → R δ} (o : ∀ x y z u w, Lr (c.cal f [g x, h y, l z, l' u, l2 w]) ((m x y z u w).mp k)) {ra : R α} {rb : R β} {rd : R γ} {re : R ζ} {rf : R η} (qa : Lr (evE c a ρ) (ra.mp g)) (qb : Lr (evE c b ρ) (rb.mp h)) (qd : Lr (evE c d ρ) (rd.mp l)) (qe : Lr (evE c e' ρ) (re.mp l')) (qf : Lr (evE c f' ρ) (rf.mp l2)) :
    Lr (evE c (.call f (.cons a (.cons b (.cons d (.cons e' (.cons f' .nil)))))) ρ) ((ra.bd fun x => rb.bd fun y => rd.bd fun z => re.bd fun u => rf.bd fun w => m x y z u w).mp k) := by
  rw [evE, evEs, evEs, evEs, evEs, evEs, evEs]
  exact lbs qa fun x => lbs qb fun y => lbs qd fun z => lbs qe fun u => lb1 qf fun w => o x y z u w
end
end Wq

end
section
set_option Elab.async false
set_option linter.all false
set_option autoImplicit false
set_option maxRecDepth 100000
/-! Texts, with types. -/
namespace Wq
open PySem
section
variable {c : Cv} {ρ : En} {a b : ME}
def ixS (z : Str) (i : Int) : R Str := if z.length ≤ LIM then (match ixD z.cps.toList i with
  | some c => .ok ⟨#[c]⟩
  | none => .no) else .no
theorem o_ixS (z : Str) (i : Int) : idxD (eS z) (eI i) = (ixS z i).mp eS := by
  show (if z.length ≤ LIM then (match ixD z.cps.toList i with
    | some c => R.ok (PyData.str ⟨#[c]⟩)
    | none => R.no) else R.no) = _
  unfold ixS
  split
  · cases ixD z.cps.toList i <;> rfl
  · rfl
def slS (z : Str) (lo hi : Option Int) : R Str := if z.length ≤ LIM then .ok ⟨(cut z.cps.toList lo hi).toArray⟩ else .no
theorem o_slS (z : Str) (l h : Option Int) : slD l h (eS z) = (slS z l h).mp eS := by
  show (if z.length ≤ LIM then R.ok (PyData.str ⟨(cut z.cps.toList l h).toArray⟩) else R.no) = _
  unfold slS
  split <;> rfl
def addS (x y : Str) : R Str := if x.length + y.length ≤ LIM then .ok (x ++ y) else .no
theorem o_addS (x y : Str) : binD .add (eS x) (eS y) = (addS x y).mp eS := by
  show lim (x.length + y.length) (.str (x ++ y)) = _
  unfold lim addS
  split <;> rfl
def mulS (x : Str) (k : Int) : R Str := if decide (0 ≤ k) && decide (k ≤ 1000) && decide (x.length ≤ 1000) then .ok ⟨(times k x.cps.toList).toArray⟩ else .no
theorem o_mulS (x : Str) (k : Int) : binD .mul (eS x) (eI k) = (mulS x k).mp eS := by
  show (if decide (0 ≤ k) && decide (k ≤ 1000) && decide (x.length ≤ 1000) then R.ok (PyData.str ⟨(times k x.cps.toList).toArray⟩) else R.no) = _
  unfold mulS
  split <;> rfl
theorem o_inS (x y : Str) : cmpD .isin (eS x) (eS y) = .ok (isSub x y) := rfl
theorem o_niS (x y : Str) : cmpD .notin (eS x) (eS y) = .ok (!isSub x y) := rfl
def leS (x y : Str) : Bool := !decide (y.cps.toList < x.cps.toList)
theorem o_leS (x y : Str) : cmpD .le (eS x) (eS y) = .ok (leS x y) := rfl
def lenS (z : Str) : R Int := if z.length ≤ LIM then .ok (z.length : Int) else .no
theorem o_lenS (z : Str) : biD .len [eS z] = (lenS z).mp eI := by
  show (if z.length ≤ LIM then R.ok (PyData.int z.length) else R.no) = _
  unfold lenS
  split <;> rfl
def strR (i : Int) : R Str := if decide (0 ≤ i) && decide (i < 1000) then .ok (toString i) else .no
theorem o_strI (i : Int) : biD .str [eI i] = (strR i).mp eS := by
  show (if decide (0 ≤ i) && decide (i < 1000) then R.ok (PyData.str (toString i)) else R.no) = _
  unfold strR
  split <;> rfl
def intS (z : Str) : R Int := if decide (z.length ≤ 640) then ofO (PySem.intText? z) else .no
theorem o_intS (z : Str) : biD .int [eS z] = (intS z).mp eI := by
  show (if decide (z.length ≤ 640) then (ofO (PySem.intText? z)).bind fun n => R.ok (PyData.int n) else R.no) = _
  unfold intS
  split
  · cases PySem.intText? z <;> rfl
  · rfl
/-! ### methods -/
section
variable {α β γ : Type} {g : α → D} {h : β → D} {k : γ → D} {ra : R α} {rb : R β}
theorem t_mt1 {m : MK} {f : α → β → R γ} (h0 : ∀ x, mtO m (g x) = true) (o : ∀ x y, mtD m (g x) [h y] = (f x y).mp k) (qa : Lr (evE c a ρ) (ra.mp g)) (qb : Lr (evE c b ρ) (rb.mp h)) : Lr (evE c (.mt m a (.cons b .nil)) ρ) ((ra.bd fun x => rb.bd fun y => f x y).mp k) := by
  rw [evE]
  refine lb qa fun x => ?_
  rw [if_pos (h0 x), evEs, evEs]
  exact lb1 qb fun y => .of (o x y)
theorem t_mt0 {m : MK} {f : α → R γ} (h0 : ∀ x, mtO m (g x) = true) (o : ∀ x, mtD m (g x) [] = (f x).mp k) (qa : Lr (evE c a ρ) (ra.mp g)) : Lr (evE c (.mt m a .nil) ρ) ((ra.bd fun x => f x).mp k) := by
  rw [evE]
  refine lb qa fun x => ?_
  rw [if_pos (h0 x), evEs]
  exact .of (o x)
end
theorem toStrs_map : ∀ ys : List Str, toStrs (ys.map eS) = some ys
  | [] => rfl
  | y :: ys => by
    rw [List.map_cons, toStrs, toStrs_map ys]
    rfl
def splR (x y : Str) : R (List Str) := if decide (y.length ≠ 0) && decide (x.length ≤ 1000000) then .ok (Txt.split x y) else .no
theorem o_spl (x y : Str) : mtD .split (eS x) [eS y] = (splR x y).mp (eL eS) := by
  show (if decide (y.length ≠ 0) && decide (x.length ≤ 1000000) then R.ok (PyData.list ((Txt.split x y).map .str)) else R.no) = _
  unfold splR
  split <;> rfl
def joiR (x : Str) (ys : List Str) : R Str := if decide ((ys.map (·.length)).sum + ys.length * x.length ≤ 16777216) then .ok (Txt.join x ys) else .no
theorem o_joi (x : Str) (ys : List Str) : mtD .join (eS x) [eL eS ys] = (joiR x ys).mp eS := by
  show (ofO (toStrs (ys.map eS))).bind (fun ys => if decide ((ys.map (·.length)).sum + ys.length * x.length ≤ 16777216) then R.ok (PyData.str (Txt.join x ys)) else R.no) = _
  rw [toStrs_map]
  show (if decide ((ys.map (·.length)).sum + ys.length * x.length ≤ 16777216) then R.ok (PyData.str (Txt.join x ys)) else R.no) = _
  unfold joiR
  split <;> rfl
def upR (x : Str) : R Str := if decide (x.length ≤ 1000000) then .ok (Txt.upper x) else .no
theorem o_up (x : Str) : mtD .upper (eS x) [] = (upR x).mp eS := by
  show (if decide (x.length ≤ 1000000) then R.ok (PyData.str (Txt.upper x)) else R.no) = _
  unfold upR
  split <;> rfl
section
variable {d : ME}
theorem t_chainS {o1 o2 : COp} {ra rb rd : R Str} {f1 f2 : Str → Str → Bool} (h1 : ∀ x y, cmpD o1 (eS x) (eS y) = .ok (f1 x y)) (h2 : ∀ x y, cmpD o2 (eS x) (eS y) = .ok (f2 x y)) (qa : Lr (evE c a ρ) (ra.mp eS)) (qb : Lr (evE c b ρ) (rb.mp eS)) (qd : Lr (evE c d ρ) (rd.mp eS)) : Lr (evE c (.chain o1 o2 a b d) ρ) ((ra.bd fun x => rb.bd fun y => if f1 x y then rd.bd fun z => R.ok (f2 y z) else R.ok false).mp eB) := by
  rw [evE]
  refine lb qa fun x => lb qb fun y => ?_
  rw [h1]
  show Lr (if f1 x y = true then (evE c d ρ).bind fun z => (cmpD o2 (eS y) z).bind fun k2 => R.ok (PyData.bool k2) else R.ok (PyData.bool false)) _
  cases f1 x y with
  | false => exact .inr rfl
  | true =>
    show Lr ((evE c d ρ).bind fun z => (cmpD o2 (eS y) z).bind fun k2 => R.ok (PyData.bool k2)) ((rd.bd fun z => R.ok (f2 y z)).mp eB)
    refine lb qd fun z => ?_
    rw [h2]
    exact .inr rfl
end
def sixR (x y : Str) : R Int := (ofO (Builtin.Str.occurrences x y 0 x.length 1).head?).mp fun k => ((k : Nat) : Int)
theorem o_six (x y : Str) : mtD .sindex (eS x) [eS y] = (sixR x y).mp eI := by
  show (ofO (Builtin.Str.occurrences x y 0 x.length 1).head?).bind (fun k => R.ok (PyData.int (k : Nat))) = _
  unfold sixR
  cases (Builtin.Str.occurrences x y 0 x.length 1).head? <;> rfl
theorem t_widx {ra : R Bool} (hg : c.gc.lookup ("WORDS" : Str) = some (PyData.tuple [.str "down", .str "up"])) (qa : Lr (evE c a ρ) (ra.mp eC)) : Lr (evE c (.mt .tindex (.glo "WORDS") (.cons a .nil)) ρ) ((ra.bd fun x => R.ok (if x then (1 : Int) else 0)).mp eI) := by
  rw [evE, evE, hg]
  have e : ∀ (r : R D), ((ofO (some (PyData.tuple [.str "down", .str "up"]))).bind fun x => if mtO .tindex x then (evEs c (.cons a .nil) ρ).bind fun ds => mtD .tindex x ds else .no) = ((evEs c (.cons a .nil) ρ).bind fun ds => mtD .tindex (PyData.tuple [.str "down", .str "up"]) ds) := fun _ => rfl
  rw [e .no, evEs, evEs]
  refine lb1 qa fun x => .of ?_
  cases x <;> kernel_rfl
end
section
variable {α β σ τ : Type} {c : Cv} {ρ : En} {i : Nat} {a b hd : ME} {K : En → Fx} {ss : MSs} {E : σ → En} {cl : Str} {g : α → D} {e : τ → D}
theorem k_asgA {ra rb : R (List α)} {M : List α → Ct σ τ} (qa : Lr (evE c a ρ) (ra.mp (eL g))) (qb : Lr (evE c b ρ) (rb.mp (eL g))) (k : ∀ x : List α, Lx (xK c ss K (ρ.set i (.own (x.map g)))) ((M x).fx E e)) : Lx (xK c (.cons (.asgA i a b) ss) K ρ) (((R.bd ra fun x => (R.bd rb fun y => (catR x y))).ct M).fx E e) := by
  rw [xK_cons, exS]
  rcases qa with z | z
  · rw [mp_no z]; exact .inl rfl
  rw [z]
  cases ra with
  | no => exact .inl rfl
  | ex _ => exact .inr rfl
  | ok x =>
    rcases qb with z | z
    · rw [mp_no z]; exact .inl rfl
    rw [z]
    cases rb with
    | no => exact .inl rfl
    | ex _ => exact .inr rfl
    | ok y =>
      show Lx ((if (x.map g).length + (y.map g).length ≤ LIM then Fl.nx (ρ.set i (.own (x.map g ++ y.map g))) else .no).x.then (xK c ss K)) (((catR x y).ct M).fx E e)
      rw [List.length_map, List.length_map, catR]
      split
      · rw [← List.map_append]
        exact k (x ++ y)
      · exact .inl rfl
/-- what is told where it is refused -/
def tryT (r : R τ) (ref : Str → Option τ) : Ct σ τ := match r with
  | .ok x => .rt x
  | .ex k => match ref k with
    | some d => .rt d
    | none => .no
  | .no => .no
def HdOk (c : Cv) (ρ : En) (i : Nat) (cl : Str) (hd : ME) (e : τ → D) (ref : Str → Option τ) : Prop := ∀ k x, ref k = some x → c.xs.contains k = true ∧ c.sub k cl = true ∧ evE c hd (ρ.set i (.exc k)) = .ok (e x)
theorem hd_run {bb : MSs} {ref : Str → Option τ} {r : R τ} (hf : HdOk c ρ i cl hd e ref) (h : r = .no ∨ exSs c bb ρ = (r.mp e).fl ρ .rt) : Lx (xK c (.cons (.try_ bb cl i (.cons (.ret hd) .nil)) ss) K ρ) ((tryT r ref : Ct σ τ).fx E e) := by
  rw [xK_cons, exS]
  rcases h with h | h
  · rw [h]; exact .inl rfl
  rw [h]
  cases r with
  | ok x => exact .inr rfl
  | no => exact .inl rfl
  | ex k =>
    cases q : ref k with
    | none =>
      refine .inl ?_
      simp only [tryT, q]
      rfl
    | some d =>
      obtain ⟨h1, h2, h3⟩ := hf k d q
      have e1 : (tryT (.ex k) ref : Ct σ τ) = .rt d := by simp only [tryT, q]
      rw [e1]
      show Lx ((if c.xs.contains k then (if c.sub k cl then (match exSs c (.cons (.ret hd) .nil) (ρ.set i (.exc k)) with
          | .nx ρ'' => if noX (ρ''.set i .emp) then .nx (ρ''.set i .emp) else .no
          | .rt d => .rt d
          | _ => .no) else .ex k ρ) else .no : Fl).x.then _) ((Ct.rt d : Ct σ τ).fx E e)
      rw [if_pos h1, if_pos h2, ss_cons, exS, h3]
      exact .inr rfl
theorem k_tryH {ref : Str → Option τ} {r : R τ} (hf : HdOk c ρ i cl hd e ref) (h : Lr (evE c a ρ) (r.mp e)) : Lx (xK c (.cons (.try_ (.cons (.ret a) .nil) cl i (.cons (.ret hd) .nil)) ss) K ρ) ((tryT r ref : Ct σ τ).fx E e) := by
  refine hd_run hf ?_
  rcases h with h | h
  · cases r with
    | no => exact .inl rfl
    | ok _ => cases h
    | ex _ => cases h
  · refine .inr ?_
    rw [ss_cons, exS, h]
    cases r <;> rfl
theorem k_tryX {ref : Str → Option τ} {ra : R α} {r : R τ} (hf : HdOk c ρ i cl hd e ref) (ha : Lr (evE c a ρ) (ra.mp g)) (h : Lr (evE c b ρ) (r.mp e)) : Lx (xK c (.cons (.try_ (.cons (.exp a) (.cons (.ret b) .nil)) cl i (.cons (.ret hd) .nil)) ss) K ρ) ((tryT (R.bd ra fun _ => r) ref : Ct σ τ).fx E e) := by
  refine hd_run hf ?_
  rcases ha with ha | ha
  · cases ra with
    | no => exact .inl rfl
    | ok _ => cases ha
    | ex _ => cases ha
  rw [ss_cons, exS, ha]
  cases ra with
  | no => exact .inl rfl
  | ex k => exact .inr rfl
  | ok x =>
    rcases h with h | h
    · cases r with
      | no => exact .inl rfl
      | ok _ => cases h
      | ex _ => cases h
    · refine .inr ?_
      show exSs c (.cons (.ret b) .nil) ρ = _
      rw [ss_cons, exS, h]
      cases r <;> rfl
def Under (c : Cv) (k cl : Str) : Prop := c.xs.contains k = true ∧ c.sub k cl = true
/-- A if isinstance(e, X) else B -/
theorem hd_ife {k : Str} {x y : Str} (h1 : Under c k cl) (h2 : c.sub k k = true) (hg : getX (ρ.set i (.exc k)) i = .ok k) : HdOk c ρ i cl (.ife (.isx i k) (.str x) (.str y)) eD (fun q => if q = k then some (.str x) else none) := by
  intro q d h
  dsimp only at h
  split at h
  · rename_i e
    subst e
    cases h
    refine ⟨h1.1, h1.2, ?_⟩
    have e1 : evE c (.isx i q) (ρ.set i (.exc q)) = .ok (.bool true) := by
      rw [evE, hg]
      show R.ok (PyData.bool (c.sub q q)) = _
      rw [h2]
    rw [evE, e1]
    show evE c (.str x) (ρ.set i (.exc q)) = _
    rw [evE]
    rfl
  · cases h
/-- isinstance(e, ValueError) -/
theorem hd_isx {k : Str} (h1 : Under c k cl) (h2 : c.sub k ("ValueError" : Str) = true) (hg : getX (ρ.set i (.exc k)) i = .ok k) : HdOk c ρ i cl (.isx i "ValueError") eB (fun q => if q = k then some true else none) := by
  intro q d h
  dsimp only at h
  split at h
  · rename_i e
    subst e
    cases h
    refine ⟨h1.1, h1.2, ?_⟩
    rw [evE, hg]
    show R.ok (PyData.bool (c.sub q _)) = _
    rw [h2]
  · cases h
end
end Wq

end
section
set_option Elab.async false
set_option linter.all false
set_option maxRecDepth 100000
/-! How data lies in the heap; what grows. -/
namespace Wq
open PySem PySem.Spec PyProof.Rows L2

abbrev Fg := PySem.W.Frag
abbrev St := L2.St
/-! ### data in a heap -/
mutual
inductive Dv (K : Fg) (F : Hp) : V → D → Prop
  | non : Dv K F .non .none
  | bl (b : Bool) : Dv K F (.bl b) (.bool b)
  | int (i : Int) : Dv K F (.int i) (.int i)
  | str (x : Str) : Dv K F (.str x) (.str x)
  | lst {a : Addr} {xs : List V} {ds : List D} : Rd F a (.lst xs) → Dvs K F xs ds → Dv K F (.ref a) (.list ds)
  | tup {a : Addr} {xs : List V} {ds : List D} : SqT K F a xs → Dvs K F xs ds → Dv K F (.ref a) (.tuple ds)
inductive Dvs (K : Fg) (F : Hp) : List V → List D → Prop
  | nil : Dvs K F [] []
  | cons {v : V} {vs : List V} {d : D} {ds : List D} : Dv K F v d → Dvs K F vs ds → Dvs K F (v :: vs) (d :: ds)
end

theorem rdMono {F H : Hp} (s : Same F H) {a : Addr} {u : HO} (h : Rd F a u) : Rd H a u := by
  rcases h with h | ⟨o, h⟩
  · exact .inl (s _ _ h)
  · exact .inr ⟨o, s _ _ h⟩
theorem sqtMono {K : Fg} {F H : Hp} (s : Same F H) {a : Addr} {xs : List V} (h : SqT K F a xs) : SqT K H a xs := by
  rcases h with h | h
  · exact .inl (rdMono s h)
  · exact .inr h
mutual
theorem Dv.mono {K : Fg} {F H : Hp} (s : Same F H) : ∀ {d : D} {v : V}, Dv K F v d → Dv K H v d
  | _, _, .non => .non
  | _, _, .bl b => .bl b
  | _, _, .int i => .int i
  | _, _, .str x => .str x
  | _, _, .lst h r => .lst (rdMono s h) (Dvs.mono s r)
  | _, _, .tup h r => .tup (sqtMono s h) (Dvs.mono s r)
theorem Dvs.mono {K : Fg} {F H : Hp} (s : Same F H) : ∀ {ds : List D} {vs : List V}, Dvs K F vs ds → Dvs K H vs ds
  | _, _, .nil => .nil
  | _, _, .cons h r => .cons (Dv.mono s h) (Dvs.mono s r)
end
mutual
theorem Dv.dp {K : Fg} {F : Hp} : ∀ {d : D} {v : V}, Dv K F v d → Dp K F v d
  | _, _, .non => .non
  | _, _, .bl b => .bl b
  | _, _, .int i => .int i
  | _, _, .str x => .str x
  | _, _, .lst h r => .lst (.inl h) (Dvs.dp r)
  | _, _, .tup h r => .tup h (Dvs.dp r)
theorem Dvs.dp {K : Fg} {F : Hp} : ∀ {ds : List D} {vs : List V}, Dvs K F vs ds → DpAll K F vs ds
  | _, _, .nil => .nil
  | _, _, .cons h r => .cons (Dv.dp h) (Dvs.dp r)
end
section
variable {K : Fg} {F : Hp}
theorem Dvs.length : ∀ {vs : List V} {ds : List D}, Dvs K F vs ds → vs.length = ds.length
  | _, _, .nil => rfl
  | _, _, .cons _ r => by simp [r.length]
theorem Dvs.append : ∀ {vs ws : List V} {ds es : List D}, Dvs K F vs ds → Dvs K F ws es → Dvs K F (vs ++ ws) (ds ++ es)
  | _, _, _, _, .nil, h => h
  | _, _, _, _, .cons a r, h => .cons a (r.append h)
theorem Dvs.get : ∀ {vs : List V} {ds : List D} {i : Nat} {d : D}, Dvs K F vs ds → ds[i]? = some d → ∃ v, vs[i]? = some v ∧ Dv K F v d
  | _, _, _, _, .nil, e => by simp at e
  | _, _, 0, _, .cons a _, e => by
    simp only [List.getElem?_cons_zero, Option.some.injEq] at e
    subst e
    exact ⟨_, rfl, a⟩
  | _, _, i + 1, _, .cons _ r, e => by
    simp only [List.getElem?_cons_succ] at e
    obtain ⟨v, h1, h2⟩ := r.get e
    exact ⟨v, by simpa using h1, h2⟩
theorem Dvs.getv : ∀ {vs : List V} {ds : List D} {i : Nat} {v : V}, Dvs K F vs ds → vs[i]? = some v → ∃ d, ds[i]? = some d ∧ Dv K F v d
  | _, _, _, _, .nil, e => by simp at e
  | _, _, 0, _, .cons a _, e => by
    simp only [List.getElem?_cons_zero, Option.some.injEq] at e
    subst e
    exact ⟨_, rfl, a⟩
  | _, _, i + 1, _, .cons _ r, e => by
    simp only [List.getElem?_cons_succ] at e
    obtain ⟨v, h1, h2⟩ := r.getv e
    exact ⟨v, by simpa using h1, h2⟩
theorem Dvs.take : ∀ {vs : List V} {ds : List D} (n : Nat), Dvs K F vs ds → Dvs K F (vs.take n) (ds.take n)
  | _, _, 0, _ => by simp only [List.take_zero]; exact .nil
  | _, _, _ + 1, .nil => by simp only [List.take_nil]; exact .nil
  | _, _, n + 1, .cons a r => by simp only [List.take_succ_cons]; exact .cons a (r.take n)
theorem Dvs.drop : ∀ {vs : List V} {ds : List D} (n : Nat), Dvs K F vs ds → Dvs K F (vs.drop n) (ds.drop n)
  | _, _, 0, h => by simpa using h
  | _, _, _ + 1, .nil => by simp only [List.drop_nil]; exact .nil
  | _, _, n + 1, .cons _ r => by simp only [List.drop_succ_cons]; exact r.drop n
theorem Dvs.reverse : ∀ {vs : List V} {ds : List D}, Dvs K F vs ds → Dvs K F vs.reverse ds.reverse
  | _, _, .nil => by simp only [List.reverse_nil]; exact .nil
  | _, _, .cons a r => by simp only [List.reverse_cons]; exact r.reverse.append (.cons a .nil)
theorem Dvs.rep {vs : List V} {ds : List D} (h : Dvs K F vs ds) : ∀ k : Nat, Dvs K F (List.replicate k vs).flatten (List.replicate k ds).flatten
  | 0 => by simp only [List.replicate_zero, List.flatten_nil]; exact .nil
  | k + 1 => by simp only [List.replicate_succ, List.flatten_cons]; exact h.append (h.rep k)
theorem Dvs.cut {vs : List V} {ds : List D} (h : Dvs K F vs ds) (lo hi : Option Int) : Dvs K F (cutV vs lo hi) (Wq.cut ds lo hi) := by
  unfold cutV Wq.cut
  rw [h.length]
  exact (h.drop _).take _
end

/-! ### what may be changed stands apart: F of H is settled -/
structure Gr (F H F' H' : Hp) : Prop where
  f : Same F F'
  h : Same H H'
  s : Same F' H'
  n : ∀ a o, F' a = some o → F a = some o ∨ H a = none
theorem Gr.refl {F H : Hp} (s : Same F H) : Gr F H F H := ⟨fun _ _ e => e, fun _ _ e => e, s, fun _ _ e => .inl e⟩
theorem Gr.trans {F H F1 H1 F2 H2 : Hp} (a : Gr F H F1 H1) (b : Gr F1 H1 F2 H2) : Gr F H F2 H2 := by
  refine ⟨a.f.trans b.f, a.h.trans b.h, b.s, fun x o e => ?_⟩
  rcases b.n x o e with h | h
  · exact a.n x o h
  · exact .inr (a.h.free h)
theorem same_upd {H : Hp} {p : Addr} {o : HO} (hn : H p = none) : Same H (upd H p o) := fun b u e => by
  rw [upd_ne (ne_of_none e hn)]
  exact e
/-- a new thing, settled -/
theorem Gr.new {F H : Hp} {p : Addr} {o : HO} (s : Same F H) (hn : H p = none) : Gr F H (upd F p o) (upd H p o) := by
  have fn : F p = none := s.free hn
  refine ⟨same_upd fn, same_upd hn, fun b u e => ?_, fun b u e => ?_⟩
  · by_cases hb : b = p
    · subst hb
      rw [upd_same] at e ⊢
      exact e
    · rw [upd_ne hb] at e ⊢
      exact s b u e
  · by_cases hb : b = p
    · subst hb
      exact .inr hn
    · rw [upd_ne hb] at e
      exact .inl e
/-- a new thing that is not settled -/
theorem Gr.loose {F H : Hp} {p : Addr} {o : HO} (s : Same F H) (hn : H p = none) : Gr F H F (upd H p o) :=
  ⟨fun _ _ e => e, same_upd hn, fun b u e => same_upd hn b u (s b u e), fun _ _ e => .inl e⟩

/-- a value as it may be looked at: settled, or a list of one's own whose items are -/
inductive Rs (K : Fg) (F H : Hp) : V → D → Prop
  | dv {v : V} {d : D} : Dv K F v d → Rs K F H v d
  | own {a : Addr} {xs : List V} {ds : List D} : H a = some (.lst xs) → Dvs K F xs ds → Rs K F H (.ref a) (.list ds)
section
variable {K : Fg} {F H F' H' : Hp} {v : V} {d : D}
theorem Rs.gr (g : Gr F H F' H') (h : Rs K F H v d) : Rs K F' H' v d := by
  cases h with
  | dv h => exact .dv (h.mono g.f)
  | own h r => exact .own (g.h _ _ h) (r.mono g.f)
theorem Rs.dvh (s : Same F H) (h : Rs K F H v d) : Dv K H v d := by
  cases h with
  | dv h => exact h.mono s
  | own h r => exact .lst (.inl h) (r.mono s)
theorem Rs.int (h : Rs K F H v (.int i)) : v = .int i := by
  cases h with
  | dv h => cases h; rfl
theorem Rs.bool (h : Rs K F H v (.bool i)) : v = .bl i := by
  cases h with
  | dv h => cases h; rfl
theorem Rs.str (h : Rs K F H v (.str i)) : v = .str i := by
  cases h with
  | dv h => cases h; rfl
theorem Rs.none (h : Rs K F H v .none) : v = .non := by
  cases h with
  | dv h => cases h; rfl
theorem Rs.list {ds : List D} (s : Same F H) (h : Rs K F H v (.list ds)) : ∃ a xs, v = .ref a ∧ Rd H a (.lst xs) ∧ Dvs K F xs ds := by
  cases h with
  | dv h =>
    cases h with
    | lst h r => exact ⟨_, _, rfl, rdMono s h, r⟩
  | own h r => exact ⟨_, _, rfl, .inl h, r⟩
theorem Rs.tuple {ds : List D} (s : Same F H) (h : Rs K F H v (.tuple ds)) : ∃ a xs, v = .ref a ∧ SqT K H a xs ∧ Dvs K F xs ds := by
  cases h with
  | dv h =>
    cases h with
    | tup h r => exact ⟨_, _, rfl, sqtMono s h, r⟩
theorem Dv.tupF {ds : List D} (h : Dv K F v (.tuple ds)) : ∃ a xs, v = .ref a ∧ SqT K F a xs ∧ Dvs K F xs ds := by
  cases h with
  | tup h r => exact ⟨_, _, rfl, h, r⟩
theorem Dv.lstF {ds : List D} (h : Dv K F v (.list ds)) : ∃ a xs, v = .ref a ∧ Rd F a (.lst xs) ∧ Dvs K F xs ds := by
  cases h with
  | lst h r => exact ⟨_, _, rfl, h, r⟩
end

/-! ### names -/
/-- which refusal is held where; the program and its world -/
structure HX where
  f : Addr → Str → Prop
  P : Program
  w : World
instance : CoeFun HX (fun _ => Addr → Str → Prop) := ⟨HX.f⟩
/-- an entry of a dict: the key, where it lies, the value -/
abbrev Ent := List Key × Addr × Value
/-- a dict of one's own, as it lies -/
def dcO (P : Program) (w : World) (a : Addr) (es : List Ent) : HO := .ext fun h => ∃ o ar ep, h.get? a = some o ∧ o.ExactDict ∧ o.data = .dict ar ep ∧ ar.toList = es.map (entryOfKey (tupleKind (mixKind P w))) ∧ (es.map (·.1)).Nodup
abbrev KvR (K : Fg) (F : Hp) (p : Ent) (q : List Key × D) : Prop := p.1 = q.1 ∧ SqT K F p.2.1 (p.1.map kV) ∧ ∃ v, RelV v p.2.2 ∧ Dv K F v q.2
/-- the keys and values of a dict of one's own -/
def Kvs (K : Fg) (F : Hp) (a : Addr) (es : List Ent) (kvs : List (List Key × D)) : Prop := (a == sysModules) = false ∧ Paired (KvR K F) es kvs
def SlOk (hx : HX) (K : Fg) (F H : Hp) (ov : Option (Option V)) : Sl → Prop
  | .emp => True
  | .val d => ∃ v, ov = some (some v) ∧ Dv K F v d
  | .own xs => ∃ a vs, ov = some (some (.ref a)) ∧ F a = none ∧ H a = some (.lst vs) ∧ Dvs K F vs xs
  | .dic kvs => ∃ a ws, ov = some (some (.ref a)) ∧ F a = none ∧ H a = some (dcO hx.P hx.w a ws) ∧ Kvs K F a ws kvs
  | .exc c => ∃ p, ov = some (some (.ref p)) ∧ hx p c
def ownd : Option Sl → Bool
  | some (.own _) => true
  | some (.dic _) => true
  | _ => false
structure Rep (hx : HX) (K : Fg) (F H : Hp) (σ : St) (ρ : En) : Prop where
  s : Same F H
  len : σ.length = ρ.length
  at_ : ∀ (i : Nat) (x : Sl), ρ[i]? = some x → SlOk hx K F H σ[i]? x
  dis : ∀ i j : Nat, ownd ρ[i]? = true → ownd ρ[j]? = true → σ[i]? = σ[j]? → i = j
theorem Kvs.mono {K : Fg} {F H : Hp} (s : Same F H) {a : Addr} {ws : List Ent} {kvs : List (List Key × D)} (h : Kvs K F a ws kvs) : Kvs K H a ws kvs :=
  ⟨h.1, Paired.mapP h.2 fun _ _ z => ⟨z.1, sqtMono s z.2.1, by obtain ⟨v, r, d⟩ := z.2.2; exact ⟨v, r, d.mono s⟩⟩⟩
section
variable {hx : HX} {K : Fg} {F H F' H' : Hp} {σ : St} {ρ : En}
theorem SlOk.gr (g : Gr F H F' H') {ov : Option (Option V)} {x : Sl} (h : SlOk hx K F H ov x) : SlOk hx K F' H' ov x := by
  have fr : ∀ {a : Addr} {o : HO}, F a = none → H a = some o → F' a = none := fun {a o} e1 e2 => by
    cases q : F' a with
    | none => rfl
    | some u =>
      rcases g.n a u q with z | z
      · rw [e1] at z; cases z
      · rw [e2] at z; cases z
  cases x with
  | emp => trivial
  | val d =>
    obtain ⟨v, e, r⟩ := h
    exact ⟨v, e, r.mono g.f⟩
  | own xs =>
    obtain ⟨a, vs, e, hF, hH, r⟩ := h
    exact ⟨a, vs, e, fr hF hH, g.h _ _ hH, r.mono g.f⟩
  | dic kvs =>
    obtain ⟨a, ws, e, hF, hH, r⟩ := h
    exact ⟨a, ws, e, fr hF hH, g.h _ _ hH, r.mono g.f⟩
  | exc c => exact h
theorem Rep.gr (g : Gr F H F' H') (h : Rep hx K F H σ ρ) : Rep hx K F' H' σ ρ :=
  ⟨g.s, h.len, fun i x e => (h.at_ i x e).gr g, h.dis⟩
theorem getElem?_set {α : Type} (l : List α) (i j : Nat) (x : α) : (l.set i x)[j]? = if j = i ∧ i < l.length then some x else l[j]? := by
  by_cases h : j = i
  · subst h
    by_cases hl : j < l.length
    · rw [List.getElem?_set_self hl, if_pos ⟨rfl, hl⟩]
    · rw [if_neg (fun z => hl z.2), List.getElem?_eq_none (by simpa using hl), List.getElem?_eq_none (by omega)]
  · rw [List.getElem?_set_ne (Ne.symm h), if_neg (fun z => h z.1)]
/-- a name is set -/
theorem Rep.set (h : Rep hx K F H σ ρ) {i : Nat} {v : V} {x : Sl} (hs : SlOk hx K F H (some (some v)) x) (hd : ownd (some x) = true → ∀ j, j ≠ i → ownd ρ[j]? = true → σ[j]? ≠ some (some v)) :
    Rep hx K F H (σ.set i (some v)) (ρ.set i x) := by
  have ln := h.len
  refine ⟨h.s, by simp [ln], fun j y e => ?_, fun j k e1 e2 e3 => ?_⟩
  · rw [getElem?_set] at e ⊢
    by_cases c : j = i ∧ i < ρ.length
    · rw [if_pos c] at e
      rw [if_pos ⟨c.1, by omega⟩]
      cases e
      exact hs
    · rw [if_neg c] at e
      rw [if_neg (fun z => c ⟨z.1, by omega⟩)]
      exact h.at_ j y e
  · rw [getElem?_set] at e1 e2
    rw [getElem?_set, getElem?_set] at e3
    by_cases c1 : j = i ∧ i < ρ.length
    · by_cases c2 : k = i ∧ i < ρ.length
      · exact c1.1.trans c2.1.symm
      · rw [if_pos c1] at e1
        rw [if_neg c2] at e2
        rw [if_pos ⟨c1.1, by omega⟩, if_neg (fun z => c2 ⟨z.1, by omega⟩)] at e3
        exact absurd e3.symm (hd e1 k (fun z => c2 ⟨z, c1.2⟩) e2)
    · by_cases c2 : k = i ∧ i < ρ.length
      · rw [if_neg c1] at e1
        rw [if_pos c2] at e2
        rw [if_neg (fun z => c1 ⟨z.1, by omega⟩), if_pos ⟨c2.1, by omega⟩] at e3
        exact absurd e3 (hd e2 j (fun z => c1 ⟨z, c2.2⟩) e1)
      · rw [if_neg c1] at e1
        rw [if_neg c2] at e2
        rw [if_neg (fun z => c1 ⟨z.1, by omega⟩), if_neg (fun z => c2 ⟨z.1, by omega⟩)] at e3
        exact h.dis j k e1 e2 e3
theorem Rep.setVal (h : Rep hx K F H σ ρ) {i : Nat} {v : V} {d : D} (hv : Dv K F v d) : Rep hx K F H (σ.set i (some v)) (ρ.set i (.val d)) :=
  h.set ⟨v, rfl, hv⟩ fun z => by cases z
/-- what one's own lists and dicts are is not settled -/
theorem Rep.ownAt (h : Rep hx K F H σ ρ) {j : Nat} (e : ownd ρ[j]? = true) : ∃ a o, σ[j]? = some (some (.ref a)) ∧ F a = none ∧ H a = some o := by
  cases q : ρ[j]? with
  | none => rw [q] at e; cases e
  | some x =>
    have r := h.at_ j x q
    rw [q] at e
    cases x with
    | own xs =>
      obtain ⟨a, vs, e1, e2, e3, _⟩ := r
      exact ⟨a, _, e1, e2, e3⟩
    | dic kvs =>
      obtain ⟨a, ws, e1, e2, e3, _⟩ := r
      exact ⟨a, _, e1, e2, e3⟩
    | _ => cases e
/-- forgotten names -/
theorem Rep.forget (h : Rep hx K F H σ ρ) (i : Nat) : Rep hx K F H (σ.set i none) (ρ.set i .emp) := by
  have ln := h.len
  have no : ∀ j, ownd (ρ.set i .emp)[j]? = true → ¬ (j = i ∧ i < ρ.length) := fun j e c => by
    rw [getElem?_set, if_pos c] at e
    cases e
  refine ⟨h.s, by simp [ln], fun j y e => ?_, fun j k e1 e2 e3 => ?_⟩
  · rw [getElem?_set] at e ⊢
    by_cases c : j = i ∧ i < ρ.length
    · rw [if_pos c] at e
      cases e
      trivial
    · rw [if_neg c] at e
      rw [if_neg (fun z => c ⟨z.1, by omega⟩)]
      exact h.at_ j y e
  · have c1 := no j e1
    have c2 := no k e2
    rw [getElem?_set, if_neg c1] at e1
    rw [getElem?_set, if_neg c2] at e2
    rw [getElem?_set, getElem?_set, if_neg (fun z => c1 ⟨z.1, by omega⟩), if_neg (fun z => c2 ⟨z.1, by omega⟩)] at e3
    exact h.dis j k e1 e2 e3
theorem Rep.wipe (h : Rep hx K F H σ ρ) : ∀ vs : List Nat, Rep hx K F H (L2.wipe σ vs) (Wq.wipe ρ vs)
  | [] => h
  | v :: vs => (h.wipe vs).forget v
end
end Wq

end
section
set_option Elab.async false
set_option linter.all false
set_option autoImplicit false
set_option maxRecDepth 100000
/-! The text held against the small language. -/
namespace Wq
open PySem PySem.Spec PyProof.Rows L2

/-- where a piece of text stands -/
structure Cfg where
  N : List Str
  fs : List Str
  hs : List Str
  gs : List Str
  xs : List Str
  hot : Bool
  sc : Scope
  fl : Option (List Str)
/-- not a list of one's own -/
def sf : ME → Bool
  | .peek _ => false
  | _ => true
def sfs : MEs → Bool
  | .nil => true
  | .cons e es => sf e && sfs es
def MEs.len : MEs → Nat
  | .nil => 0
  | .cons _ es => es.len + 1
section
variable (Γ : Cfg)
def kd (x : Str) : Option NameKind := Γ.sc.names.lookup x
def kLoc (x : Str) : Bool := decide (kd Γ x = some .local)
def kCell (x : Str) : Bool := decide (kd Γ x = some .cell)
def kFree (x : Str) : Bool := decide (kd Γ x = some .free)
def kGl (x : Str) : Bool := decide (kd Γ x = some .globalImplicit) && !(x == ("__debug__" : Str)) && !(x == ("__name__" : Str))
/-- a name of the def's that is read -/
def okV (i : Nat) (x : Str) : Bool := decide (Γ.N[i]? = some x) && (kLoc Γ x || kCell Γ x || kFree Γ x) && !(x == ("__debug__" : Str)) && !(x == ("__classdict__" : Str))
/-- a name of the def's that is stored -/
def okS (i : Nat) (x : Str) : Bool := decide (Γ.N[i]? = some x) && (kLoc Γ x || (kCell Γ x && (match Γ.fl with
  | none => true
  | some l => l.contains x)))
def okG (x : Str) (l : List Str) : Bool := kGl Γ x && l.contains x
def okTg : Tg → Expr → Bool
  | .nm i, .Name x _ => okS Γ i x
  | .tp is, .Tuple es _ _ => go is es
  | _, _ => false
where
  go : List Nat → List Expr → Bool
  | [], [] => true
  | i :: is, .Name x _ :: es => okS Γ i x && go is es
  | _, _ => false
end
def opB : BOp → Operator → Bool
  | .add, .Add => true | .sub, .Sub => true | .mul, .Mult => true | .fdiv, .FloorDiv => true | .mod, .Mod => true
  | _, _ => false
def opC : COp → CmpOp → Bool
  | .eq, .Eq => true | .ne, .NotEq => true | .lt, .Lt => true | .le, .LtE => true | .gt, .Gt => true | .ge, .GtE => true
  | .isin, .In => true | .notin, .NotIn => true
  | _, _ => false
/-- an operator that may end a chain -/
def opC2 : COp → Bool
  | .isin => false | .notin => false
  | _ => true
def biN : BI → Str
  | .len => "len" | .all => "all" | .sorted => "sorted" | .list => "list" | .tuple => "tuple" | .int => "int" | .str => "str"
  | .min1 => "min" | .max1 => "max" | .min2 => "min" | .max2 => "max"
/-- built-ins that look at none but the moment: they may be called while a refusal is held -/
def biH : BI → Bool
  | .len => true | .list => true | .tuple => true | .int => true | .str => true
  | _ => false
def tyN : Ty → Str
  | .int => "int" | .bool => "bool" | .tuple => "tuple" | .list => "list" | .str => "str"
def mkN : MK → Str
  | .index => "index" | .count => "count" | .split => "split" | .join => "join" | .upper => "upper" | .replace => "replace" | .sindex => "index" | .tindex => "index"
/-- methods of texts, of one thing -/
def mtT : MK → Bool
  | .split => true | .join => true | .sindex => true
  | _ => false
/-- methods of texts alone -/
def mtZ : MK → Bool
  | .upper => true
  | _ => false
/-- a method of a constant tuple -/
def mtG : MK → ME → Bool
  | .tindex, .glo _ => true
  | _, _ => false
def mtK : MK → Bool
  | .index => true | .count => true
  | _ => false
/-- an index that is no slice -/
def plainIx : Expr → Bool
  | .Slice _ _ _ _ => false
  | _ => true
/-- what is walked is no written set -/
def iterOk : Expr → Bool
  | .Set _ _ _ => false
  | _ => true
def nst : Expr → Bool
  | .Starred _ _ => false
  | _ => true
def abOk : Expr → Bool
  | .Call (.Name _ _) [] [] _ => false
  | _ => true
def mtPos (ap pos : Pos) : Bool := ap.endLine == pos.line
def sfI : MI → Bool
  | .seq a => sf a
  | .rng _ => true
  | .rng2 _ _ => true
  | .enum a => sf a
  | .zip a b => sf a && sf b
/-- names of defs -/
def okFs (Γ : Cfg) : List Str → List Expr → Bool
  | [], [] => true
  | f :: fs, .Name x _ :: es => decide (f = x) && okG Γ x Γ.fs && okFs Γ fs es
  | _, _ => false
def tgIn : Tg → List Nat → Bool
  | .nm i, ws => ws.contains i
  | .tp is, ws => is.all fun i => ws.contains i
def tupTg : Expr → Bool
  | .Tuple _ _ _ => true
  | _ => false
def inMark (op : CmpOp) (b : Expr) : Bool := !behindInMarks op b
/-- the names of a comprehension's own, with their places -/
def ownOf (N : List Str) (ws : List Nat) : List (Str × Nat) := ws.filterMap fun i => (N[i]?).map fun x => (x, i)
def blkOf (Γ : Cfg) (scope : Scope) : Cfg :=
  { Γ with sc := relS scope Γ.sc, fl := some ((scope.names.filter fun p => p.2 == .cell).map (·.1)) }
/-- names of the def's built-ins: none of them is a global of the module -/
def bnames : List Str := ["len", "all", "sorted", "list", "tuple", "int", "str", "min", "max", "set", "range", "zip", "enumerate", "isinstance", "bool", "ValueError"]
mutual
def chkE (Γ : Cfg) : ME → Expr → Bool
  | .var i, e => (match e with
    | .Name x _ => okV Γ i x
    | _ => false)
  | .peek i, e => (match e with
    | .Name x _ => okV Γ i x
    | _ => false)
  | .glo x, e => (match e with
    | .Name y _ => decide (x = y) && okG Γ x Γ.gs
    | _ => false)
  | .non, e => (match e with
    | .Constant .none _ _ => true
    | _ => false)
  | .bl b, e => (match e with
    | .Constant (.bool c) _ _ => decide (b = c)
    | _ => false)
  | .int i, e => (match e with
    | .Constant (.int j) _ _ => decide (i = j)
    | _ => false)
  | .str s, e => (match e with
    | .Constant (.str t) _ _ => decide (s = t)
    | _ => false)
  | .neg a, e => (match e with
    | .UnaryOp .USub x _ => chkE Γ a x
    | _ => false)
  | .tup es, e => (match e with
    | .Tuple xs _ _ => sfs es && decide (es.len ≤ 1000) && chkEs Γ es xs
    | _ => false)
  | .lst es, e => (match e with
    | .List xs _ => sfs es && decide (es.len ≤ 1000) && chkEs Γ es xs
    | _ => false)
  | .bin op a b, e => (match e with
    | .BinOp x o y _ => opB op o && chkE Γ a x && chkE Γ b y
    | _ => false)
  | .cmp op a b, e => (match e with
    | .Compare x [o] [y] _ => opC op o && inMark o y && chkE Γ a x && chkE Γ b y
    | _ => false)
  | .chain o1 o2 a b c, e => (match e with
    | .Compare x [p1, p2] [y, z] _ => opC o1 p1 && opC o2 p2 && opC2 o1 && opC2 o2 && !lastMarks [p1, p2] [y, z] && chkE Γ a x && chkE Γ b y && chkE Γ c z
    | _ => false)
  | .isN a n, e => (match e with
    | .Compare x [o] [.Constant .none _ _] _ => (match o with
      | .Is => !n
      | .IsNot => n
      | _ => false) && chkE Γ a x
    | _ => false)
  | .isB a b n, e => (match e with
    | .Compare x [o] [.Constant (.bool c) _ _] _ => decide (b = c) && (match o with
      | .Is => !n
      | .IsNot => n
      | _ => false) && chkE Γ a x
    | _ => false)
  | .and es, e => (match e with
    | .BoolOp .And xs _ => chkEs Γ es xs
    | _ => false)
  | .or es, e => (match e with
    | .BoolOp .Or xs _ => chkEs Γ es xs
    | _ => false)
  | .not a, e => (match e with
    | .UnaryOp .Not x _ => chkE Γ a x
    | _ => false)
  | .ife c a b, e => (match e with
    | .IfExp x y z _ => sf a && sf b && chkE Γ c x && chkE Γ a y && chkE Γ b z
    | _ => false)
  | .idx a b, e => (match e with
    | .Subscript x y _ => plainIx y && chkE Γ a x && chkE Γ b y
    | _ => false)
  | .sl a lo hi, e => (match e with
    | .Subscript x (.Slice l h none _) _ => chkE Γ a x && chkO Γ lo l && chkO Γ hi h
    | _ => false)
  | .rev a, e => (match e with
    | .Subscript x (.Slice none none (some (.UnaryOp .USub (.Constant (.int 1) _ _) _)) _) _ => chkE Γ a x
    | _ => false)
  | .odds a, e => (match e with
    | .Subscript x (.Slice (some (.Constant (.int 1) _ _)) none (some (.Constant (.int 2) _ _)) _) _ => chkE Γ a x
    | _ => false)
  | .call f es, e => (match e with
    | .Call (.Name x _) (y :: ys) [] _ => !Γ.hot && decide (f = x) && okG Γ f Γ.fs && sfs es && chkEs Γ es (y :: ys)
    | _ => false)
  | .callS fs ix es, e => (match e with
    | .Call (.Subscript (.List ns _) y _) (z :: zs) [] _ => !Γ.hot && okFs Γ fs ns && decide (fs.length ≤ 1000) && plainIx y && sfs es && chkE Γ ix y && chkEs Γ es (z :: zs)
    | _ => false)
  | .callX f i, e => (match e with
    | .Call (.Name x _) [.Name y _] [] _ => Γ.hot && decide (f = x) && okG Γ f Γ.hs && okV Γ i y
    | _ => false)
  | .bi b es, e => (match e with
    | .Call (.Name x _) (y :: ys) [] _ => decide (x = biN b) && kGl Γ x && (!Γ.hot || biH b) && chkEs Γ es (y :: ys)
    | _ => false)
  | .isi a t, e => (match e with
    | .Call (.Name x _) [y, .Name z _] [] _ => decide (x = ("isinstance" : Str)) && kGl Γ x && decide (z = tyN t) && kGl Γ z && nst y && chkE Γ a y
    | _ => false)
  | .isx i k, e => (match e with
    | .Call (.Name x _) [.Name y _, .Name z _] [] _ => Γ.hot && decide (x = ("isinstance" : Str)) && kGl Γ x && okV Γ i y && decide (z = k) && kGl Γ z && (decide (k = ("ValueError" : Str)) || Γ.xs.contains k)
    | _ => false)
  | .lenset a, e => (match e with
    | .Call (.Name x _) [.Call (.Name y _) [z] [] _] [] _ => !Γ.hot && decide (x = ("len" : Str)) && kGl Γ x && decide (y = ("set" : Str)) && kGl Γ y && nst z && chkE Γ a z
    | _ => false)
  | .sortset a, e => (match e with
    | .Call (.Name x _) [.Call (.Name y _) [z] [] _] [] _ => !Γ.hot && decide (x = ("sorted" : Str)) && kGl Γ x && decide (y = ("set" : Str)) && kGl Γ y && nst z && chkE Γ a z
    | _ => false)
  | .lrange a, e => (match e with
    | .Call (.Name x _) [.Call (.Name y _) [z] [] _] [] _ => !Γ.hot && decide (x = ("list" : Str)) && kGl Γ x && decide (y = ("range" : Str)) && kGl Γ y && nst z && chkE Γ a z
    | _ => false)
  | .lrange2 a b, e => (match e with
    | .Call (.Name x _) [.Call (.Name y _) [z, z2] [] _] [] _ => !Γ.hot && decide (x = ("list" : Str)) && kGl Γ x && decide (y = ("range" : Str)) && kGl Γ y && nst z && nst z2 && chkE Γ a z && chkE Γ b z2
    | _ => false)
  | .trange a, e => (match e with
    | .Call (.Name x _) [.Call (.Name y _) [z] [] _] [] _ => !Γ.hot && decide (x = ("tuple" : Str)) && kGl Γ x && decide (y = ("range" : Str)) && kGl Γ y && nst z && chkE Γ a z
    | _ => false)
  | .lzip _ _, _ => false
  | .mt k o es, e => (match e with
    | .Call (.Attribute x n ap) (y :: ys) [] pos => decide (n = mkN k) && (mtK k || mtT k || mtG k o) && mtPos ap pos && abOk x && decide (es.len < 10) && chkE Γ o x && chkEs Γ es (y :: ys)
    | .Call (.Attribute x n ap) [] [] pos => decide (n = mkN k) && mtZ k && mtPos ap pos && abOk x && (match es with
      | .nil => true
      | _ => false) && chkE Γ o x
    | _ => false)
  | .dget1 i k, e => (match e with
    | .Call (.Attribute (.Name x _) n ap) [y] [] pos => decide (n = ("get" : Str)) && mtPos ap pos && okV Γ i x && nst y && sf k && chkE Γ k y
    | _ => false)
  | .dget2 i k v, e => (match e with
    | .Call (.Attribute (.Name x _) n ap) [y, z] [] pos => decide (n = ("get" : Str)) && mtPos ap pos && okV Γ i x && nst y && nst z && sf k && sf v && chkE Γ k y && chkE Γ v z
    | _ => false)
  | .ditem i k, e => (match e with
    | .Subscript (.Name x _) y _ => plainIx y && okV Γ i x && sf k && chkE Γ k y
    | _ => false)
  | .din i k n, e => (match e with
    | .Compare y [o] [.Name x _] _ => (match o with
      | .In => !n
      | .NotIn => n
      | _ => false) && okV Γ i x && sf k && chkE Γ k y
    | _ => false)
  | .lc elt tg it cond ws, e => (match e with
    | .ListComp x [⟨t, i, fs, 0⟩] scope _ => !Γ.hot && sf elt && blkC Γ.N Γ.sc scope (ownOf Γ.N ws) && decide ((ownOf Γ.N ws).map (·.2) = ws) && okTg (blkOf Γ scope) tg t && tgIn tg ws && chkI Γ it t i && (match fs with
      | [] => chkC (blkOf Γ scope) cond none
      | [f] => chkC (blkOf Γ scope) cond (some f)
      | _ => false) && chkE (blkOf Γ scope) elt x
    | _ => false)
def chkEs (Γ : Cfg) : MEs → List Expr → Bool
  | .nil, l => (match l with
    | [] => true
    | _ => false)
  | .cons e es, l => (match l with
    | x :: xs => nst x && chkE Γ e x && chkEs Γ es xs
    | _ => false)
def chkO (Γ : Cfg) : MO → Option Expr → Bool
  | .none, o => (match o with
    | none => true
    | _ => false)
  | .some e, o => (match o with
    | some x => chkE Γ e x
    | _ => false)
def chkC (Γ : Cfg) : MO → Option Expr → Bool
  | .none, o => (match o with
    | none => true
    | _ => false)
  | .some e, o => (match o with
    | some x => chkE Γ e x
    | _ => false)
def chkI (Γ : Cfg) : MI → Expr → Expr → Bool
  | .seq a, _, e => iterOk e && chkE Γ a e
  | .rng a, _, e => (match e with
    | .Call (.Name y _) [z] [] _ => decide (y = ("range" : Str)) && kGl Γ y && nst z && chkE Γ a z
    | _ => false)
  | .rng2 a b, _, e => (match e with
    | .Call (.Name y _) [z, z2] [] _ => decide (y = ("range" : Str)) && kGl Γ y && nst z && nst z2 && chkE Γ a z && chkE Γ b z2
    | _ => false)
  | .enum a, t, e => (match e with
    | .Call (.Name y _) [z] [] _ => tupTg t && decide (y = ("enumerate" : Str)) && kGl Γ y && nst z && sf a && chkE Γ a z
    | _ => false)
  | .zip a b, t, e => (match e with
    | .Call (.Name y _) [z, z2] [] _ => tupTg t && decide (y = ("zip" : Str)) && kGl Γ y && nst z && nst z2 && sf a && sf b && chkE Γ a z && chkE Γ b z2
    | _ => false)
end
def isLc : Expr → Bool
  | .ListComp .. => true
  | .SetComp .. => true
  | .DictComp .. => true
  | _ => false
def isTupE : Expr → Bool
  | .Tuple .. => true
  | _ => false
/-- the first bind of x = [..] is seen at once -/
def isSoleName : Expr → Bool
  | .Name _ _ => true
  | _ => false
mutual
def chkS (Γ : Cfg) : MS → Stmt → Bool
  | .frz _, _ => false
  | .fgt _, _ => false
  | .asg t m, st => (match st with
    | .Assign [tg] e _ => sf m && okTg Γ t tg && chkE Γ m e && (match t with
      | .nm _ => true
      | .tp _ => !Γ.hot && !isTupE e)
    | _ => false)
  | .asgL i ms, st => (match st with
    | .Assign [.Name x _] (.List es _) _ => okS Γ i x && sfs ms && decide (ms.len ≤ 1000) && chkEs Γ ms es
    | _ => false)
  | .asgA i a b, st => (match st with
    | .Assign [.Name x _] (.BinOp y .Add z _) _ => okS Γ i x && chkE Γ a y && chkE Γ b z
    | _ => false)
  | .app i m, st => (match st with
    | .Expr (.Call (.Attribute (.Name x _) n ap) [y] [] pos) _ => decide (n = ("append" : Str)) && mtPos ap pos && okV Γ i x && nst y && sf m && chkE Γ m y
    | _ => false)
  | .ext i m, st => (match st with
    | .Expr (.Call (.Attribute (.Name x _) n ap) [y] [] pos) _ => decide (n = ("extend" : Str)) && mtPos ap pos && okV Γ i x && nst y && sf m && chkE Γ m y
    | _ => false)
  | .dnew i, st => (match st with
    | .Assign [.Name x _] (.Dict [] [] _) _ => okS Γ i x
    | _ => false)
  | .dnew1 i k v, st => (match st with
    | .Assign [.Name x _] (.Dict [some y] [z] _) _ => okS Γ i x && sf k && sf v && chkE Γ k y && chkE Γ v z
    | _ => false)
  | .dput i k v, st => (match st with
    | .Assign [.Subscript (.Name x _) y _] z _ => okV Γ i x && plainIx y && sf k && sf v && !isLc z && chkE Γ k y && chkE Γ v z
    | _ => false)
  | .exp m, st => (match st with
    | .Expr e _ => !isLc e && chkE Γ m e
    | _ => false)
  | .ret m, st => (match st with
    | .Return (some e) _ => sf m && chkE Γ m e
    | _ => false)
  | .ifs m a b, st => (match st with
    | .If e x y _ => chkE Γ m e && chkSs Γ a x && chkSs Γ b y
    | _ => false)
  | .for_ t it b, st => (match st with
    | .For tg e body [] _ => !Γ.hot && okTg Γ t tg && iterOk e && chkI Γ it tg e && sfI it && chkSs Γ b body
    | _ => false)
  | .whl m b, st => (match st with
    | .While e body [] _ => chkE Γ m e && chkSs Γ b body
    | _ => false)
  | .rais k, st => (match st with
    | .Raise (some (.Call (.Name x _) [.Constant (.str _) _ _] [] _)) none _ => !Γ.hot && decide (x = k) && okG Γ x Γ.xs
    | _ => false)
  | .try_ b k i h, st => (match st with
    | .Try body [.ExceptHandler (some (.Name x _)) (some n) (h0 :: hs) _] [] [] _ => !Γ.hot && decide (x = k) && okG Γ x Γ.xs && decide (Γ.N[i]? = some n) && kLoc Γ n && chkSs Γ b body && chkSs { Γ with hot := true } h (h0 :: hs)
    | _ => false)
def chkSs (Γ : Cfg) : MSs → List Stmt → Bool
  | .nil, l => (match l with
    | [] => true
    | _ => false)
  | .cons (.frz _) ss, l => chkSs Γ ss l
  | .cons (.fgt _) ss, l => chkSs Γ ss l
  | .cons s ss, l => (match l with
    | x :: xs => chkS Γ s x && chkSs Γ ss xs
    | _ => false)
end
end Wq

end
section
set_option Elab.async false
set_option linter.all false
set_option autoImplicit false
set_option maxRecDepth 100000
/-! What a piece of the small language tells of the text that it is read of. -/
namespace Wq
open PySem PySem.Spec PyProof.Rows L2

/-- from settled F of H on: a value comes, or a refusal, as told -/
def Po {α : Type} (W : WX) (K : Fg) (σ : St) (F H : Hp) (r : R α) (T : α → Hp → Hp → Prop) : Prop := match r with
  | .ok a => ∀ F' H', Gr F H F' H' → T a F' H'
  | .ex k => ∀ F' H', Gr F H F' H' → W (.ref (He.ga K k)) none σ H'
  | .no => False
section
variable {α β : Type} {W : WX} {K : Fg} {σ : St} {F H F1 H1 : Hp} {r : R α}
theorem Po.gr {T : α → Hp → Hp → Prop} (h : Po W K σ F H r T) (g : Gr F H F1 H1) : Po W K σ F1 H1 r T := by
  cases r with
  | ok a => exact fun F' H' g' => h F' H' (g.trans g')
  | ex k => exact fun F' H' g' => h F' H' (g.trans g')
  | no => exact h
theorem Po.imp {T T' : α → Hp → Hp → Prop} (h : Po W K σ F H r T) (t : ∀ a F' H', r = .ok a → Gr F H F' H' → T a F' H' → T' a F' H') : Po W K σ F H r T' := by
  cases r with
  | ok a => exact fun F' H' g' => t a F' H' rfl g' (h F' H' g')
  | ex k => exact h
  | no => exact h
theorem Po.bind {f : α → R β} {T : β → Hp → Hp → Prop} (h : Po W K σ F H (r.bind f) T) : Po W K σ F H r fun a F1 H1 => Po W K σ F1 H1 (f a) T := by
  cases r with
  | ok a => exact fun F1 H1 g => Po.gr (show Po W K σ F H (f a) T from h) g
  | ex k => exact h
  | no => exact h
theorem Po.ok {a : α} {T : α → Hp → Hp → Prop} (h : Po W K σ F H (.ok a) T) (s : Same F H) : T a F H := h F H (Gr.refl s)
theorem Po.okAt {a : α} {T : α → Hp → Hp → Prop} (h : Po W K σ F H r T) (e : r = .ok a) (s : Same F H) : T a F H := by
  subst e
  exact h.ok s
end

/-- how the value of m lies -/
def Rm (K : Fg) (m : ME) (F H : Hp) (v : V) (d : D) : Prop := if sf m = true then Dv K F v d else Rs K F H v d
def Rms (K : Fg) (es : MEs) (F H : Hp) (vs : List V) (ds : List D) : Prop := if sfs es = true then Dvs K F vs ds else Paired (Rs K F H) vs ds
section
variable {K : Fg} {m : ME} {F H : Hp} {v : V} {d : D}
theorem Rm.rs (h : Rm K m F H v d) : Rs K F H v d := by
  unfold Rm at h
  split at h
  · exact .dv h
  · exact h
theorem Rm.dv (h : Rm K m F H v d) (hs : sf m = true) : Dv K F v d := by
  unfold Rm at h
  rw [if_pos hs] at h
  exact h
theorem Rm.of (h : Dv K F v d) : Rm K m F H v d := by
  unfold Rm
  split
  · exact h
  · exact .dv h
theorem paired_of_dvs : ∀ {vs : List V} {ds : List D}, Dvs K F vs ds → Paired (Rs K F H) vs ds
  | _, _, .nil => .nil
  | _, _, .cons a r => .cons (.dv a) (paired_of_dvs r)
theorem Rms.rs {es : MEs} {vs : List V} {ds : List D} (h : Rms K es F H vs ds) : Paired (Rs K F H) vs ds := by
  unfold Rms at h
  split at h
  · exact paired_of_dvs h
  · exact h
theorem Rms.dvs {es : MEs} {vs : List V} {ds : List D} (h : Rms K es F H vs ds) (hs : sfs es = true) : Dvs K F vs ds := by
  unfold Rms at h
  rw [if_pos hs] at h
  exact h
end

/-- what the def f promises, by what c tells of it -/
def spF (K : Fg) (c : Str → List D → R D) (f : Str) : Sp := fun vs H Q E => ∃ F ds, Same F H ∧ Dvs K F vs ds ∧
  Po (fun cls d _ H' => E cls d H') K [] F H (c f ds) fun d F' H' => ∀ v, Dv K F' v d → Q v H'
/-- a def that is called while a refusal is held: its promise names what is held -/
structure FnE (P : Program) (w : World) (K : Fg) (mg : Str → Option Value) (base : Heap) (CX : CXT) (k : Nat) (f : Addr) (fd : FuncData) (ps : List Str) (sp : (Addr × Obj) → Sp) : Prop where
  len : ∀ p vs H Q E, sp p vs H Q E → vs.length = ps.length
  run : ∀ (A : Around) (outer : List Env) (s : Shared) (H : Hp) (args : Args) (us : List Value) (vs : List V) (Q : VK) (E : XK) (p : Addr × Obj), L2H.RoomH k A → L2H.Hot1 A p → L2H.PinOk outer H s p → Env0 P w K mg base A outer s H → BindsTo s fd args (ps.zip us) → Vals vs us → sp p vs H Q E →
    codeAny (model P w) A (.call (.ref f) args) (CR CX outer P w H s Q E) s
/-- the refusal p is of the class k -/
def IsE (K : Fg) (xs : List Str) (p : Addr × Obj) (k : Str) : Prop := k ∈ xs ∧ p.2.cls = .ref (He.ga K k) ∧ p.2.dict = none ∧ ∃ vs, p.2.data = .fields vs
/-- the promise of a def that takes the held refusal -/
def spE (K : Fg) (xs : List Str) (c : Str → Str → R D) (f : Str) (p : Addr × Obj) : Sp := fun vs H Q E => ∃ k F, vs = [.ref p.1] ∧ IsE K xs p k ∧ Same F H ∧
  Po (fun cls d _ H' => E cls d H') K [] F H (c f k) fun d F' H' => ∀ v, Dv K F' v d → Q v H'
def XcOk (X : Cx) (x : Str) : Prop := X.mg x = some (.ref (He.ga X.K x)) ∧ PySem.W.excIn X.K (He.ga X.K x) He.veBase "ValueError.__new__" = true ∧ PySem.W.keepIn X.K (.ref (He.ga X.K x)) = true ∧
  PySem.W.subIn X.K (.ref (He.ga X.K x)) (.type "BaseException") = some true ∧ PySem.W.typeIn X.K (.ref (He.ga X.K x)) = some (.type "type")

/-- a tuple of the written part that has no dict -/
def tyT (K : Fg) (v : V) : Prop := ∃ p o, v = .ref p ∧ K.lookup p = some o ∧ o.cls = .type "tuple" ∧ o.dict = none
/-- what is asked of the place where a piece of text runs -/
structure Ok (c : Cv) (Γ : Cfg) (hx : HX) (X : Cx) (W : WX) : Prop where
  nN : X.N = Γ.N
  nd : X.N.Nodup
  sc : X.env.scope = Γ.sc
  un : X.A.units + 70 < cLine
  calm : Γ.hot = false → X.calm = true
  fl : ∀ x : Str, (match Γ.fl with
    | none => True
    | some l => l.contains x = true) → X.fn x = true
  calls : Γ.hot = false → ∀ f ∈ Γ.fs, ∃ k a fd ps, Room k X.A ∧ X.mg f = some (.ref a) ∧ PySem.W.keepIn X.K (.ref a) = true ∧ Binds X.K fd ps [] ∧
    FnOk X.prog X.w X.K X.mg X.base (L2N.CX X.prog X.w) k a fd ps (spF X.K c.cal f)
  hxn : Γ.hot = false → ∀ p k, ¬ hx p k
  cx : c.xs = Γ.xs
  ve : ∀ x ∈ Γ.xs, c.sub x "ValueError" = true
  ek : ∀ x ∈ Γ.xs, ExcC X.K (He.ga X.K x) ∧ PySem.W.kitOne X.K (.ref (He.ga X.K x)) (.type "ValueError") = some true ∧ ∀ y ∈ Γ.xs, PySem.W.kitOne X.K (.ref (He.ga X.K x)) (.ref (He.ga X.K y)) = some (c.sub x y) ∧ PySem.W.exmOne X.K (.ref (He.ga X.K x)) (.ref (He.ga X.K y)) = some (c.sub x y)
  hot : Γ.hot = true → ∃ p k, L2H.Hot1 X.A p ∧ p ∈ X.pn ∧ IsE X.K Γ.xs p k ∧ (∀ q z, hx q z → q = p.1 ∧ z = k)
  callx : (∀ f ∈ Γ.hs, ∃ k a fd ps, L2H.RoomH k X.A ∧ X.mg f = some (.ref a) ∧ PySem.W.keepIn X.K (.ref a) = true ∧ Binds X.K fd ps [] ∧ FnE X.prog X.w X.K X.mg X.base (L2N.CX X.prog X.w) k a fd ps (spE X.K Γ.xs c.calx f))
  free : ∀ b ∈ bnames, X.mg b = none
  gs : ∀ x ∈ Γ.gs, ∃ d u v, c.gc.lookup x = some d ∧ X.mg x = some u ∧ RelV v u ∧ (∀ F, Dv X.K F v d) ∧ ∀ ds, d = .tuple ds → tyT X.K v
  xs : ∀ x ∈ Γ.xs, XcOk X x
  tk : L2N.Takes X W
  hp : hx.P = X.prog ∧ hx.w = X.w

def tM (c : Cv) (hx : HX) (K : Fg) (W : WX) (m : ME) : TE := fun σ H Q =>
  ∃ ρ F, Rep hx K F H σ ρ ∧ Po W K σ F H (evE c m ρ) fun d F' H' => ∀ v, Rm K m F' H' v d → Q v H'
def tMs (c : Cv) (hx : HX) (K : Fg) (W : WX) (es : MEs) : TA := fun σ H Q =>
  ∃ ρ F, Rep hx K F H σ ρ ∧ Po W K σ F H (evEs c es ρ) fun ds F' H' => ∀ vs, Rms K es F' H' vs ds → Q vs H'
def tT (c : Cv) (hx : HX) (K : Fg) (W : WX) (m : ME) : TT := fun σ H Q =>
  ∃ ρ F, Rep hx K F H σ ρ ∧ Po W K σ F H ((evE c m ρ).bind tru) fun b _ H' => Q b H'
def tO (c : Cv) (hx : HX) (K : Fg) (W : WX) (o : MO) : TO := fun σ H Q =>
  ∃ ρ F, Rep hx K F H σ ρ ∧ Po W K σ F H (evO c o ρ) fun b _ H' => Q b H'

theorem peImp {X : Cx} {e : Expr} {t t' : TE} (h : PE X e t) (i : ∀ σ H Q, t' σ H Q → t σ H Q) : PE X e t' := ⟨fun pins s σ H Q I q => h.run pins s σ H Q I (i σ H Q q)⟩
theorem ptImp {X : Cx} {e : Expr} {t t' : TT} (h : PT X e t) (i : ∀ σ H Q, t' σ H Q → t σ H Q) : PT X e t' := ⟨fun pins s σ H Q I q => h.run pins s σ H Q I (i σ H Q q)⟩
theorem pwImp {X : Cx} {e : Expr} {t t' : TT} (h : PW X e t) (i : ∀ σ H Q, t' σ H Q → t σ H Q) : PW X e t' := ⟨fun wh pins s σ H Q I q => h.run wh pins s σ H Q I (i σ H Q q)⟩
theorem paImp {X : Cx} {es : List Expr} {t t' : TA} (h : PA X es t) (i : ∀ σ H Q, t' σ H Q → t σ H Q) : PA X es t' := ⟨fun pos pins s σ H Q I q => h.run pos pins s σ H Q I (i σ H Q q)⟩

section
variable {c : Cv} {Γ : Cfg} {hx : HX} {X : Cx} {W : WX}

/-! ### names -/
theorem okV_iff {i : Nat} {x : Str} (O : Ok c Γ hx X W) (h : okV Γ i x = true) : X.N[i]? = some x ∧ Vis X.env.scope x ∧ (x == ("__debug__" : Str)) = false ∧ (x == ("__classdict__" : Str)) = false := by
  unfold okV kLoc kCell kFree kd at h
  simp only [Bool.and_eq_true, Bool.or_eq_true, decide_eq_true_eq, Bool.not_eq_true'] at h
  obtain ⟨⟨⟨h1, h2⟩, h3⟩, h4⟩ := h
  refine ⟨by rw [O.nN]; exact h1, ?_, h3, h4⟩
  unfold Vis
  rw [O.sc]
  rcases h2 with (h | h) | h
  · exact .inl h
  · exact .inr (.inl h)
  · exact .inr (.inr h)
theorem kGl_iff {x : Str} (O : Ok c Γ hx X W) (h : kGl Γ x = true) : Gl X x ∧ (x == ("__debug__" : Str)) = false ∧ x ≠ "__name__" := by
  unfold kGl kd at h
  simp only [Bool.and_eq_true, decide_eq_true_eq, Bool.not_eq_true', beq_eq_false_iff_ne] at h
  obtain ⟨⟨h1, h2⟩, h3⟩ := h
  refine ⟨?_, beq_eq_false_iff_ne.mpr h2, h3⟩
  show X.env.scope.names.lookup x = some .globalImplicit
  rw [O.sc]
  exact h1
theorem okG_iff {x : Str} {l : List Str} (O : Ok c Γ hx X W) (h : okG Γ x l = true) : Gl X x ∧ (x == ("__debug__" : Str)) = false ∧ x ≠ "__name__" ∧ x ∈ l := by
  unfold okG at h
  obtain ⟨h1, h2⟩ := Bool.and_eq_true_iff.mp h
  obtain ⟨a, b, d⟩ := kGl_iff O h1
  exact ⟨a, b, d, by simpa using h2⟩
theorem getV_ok {ρ : En} {i : Nat} {d : D} (h : getV ρ i = .ok d) : ρ[i]? = some (.val d) := by
  unfold getV at h
  split at h
  · rename_i e
    rw [e]
    cases h
    rfl
  · cases h
theorem sVar {i : Nat} {x : Str} {pos : Pos} (O : Ok c Γ hx X W) (h : okV Γ i x = true) : PE X (.Name x pos) (tM c hx X.K W (.var i)) := by
  obtain ⟨h1, h2, h3, h4⟩ := okV_iff O h
  refine peImp (pe_var h1 h2 h3 h4) fun σ H Q ⟨ρ, F, rep, po⟩ => ?_
  have po : Po W X.K σ F H (getV ρ i) _ := po
  cases e : getV ρ i with
  | ok d =>
    have e2 := getV_ok e
    obtain ⟨v, q, r⟩ := rep.at_ i _ e2
    exact ⟨v, q, po.okAt e rep.s v (Rm.of r)⟩
  | ex k => unfold getV at e; split at e <;> cases e
  | no => rw [e] at po; exact po.elim
theorem sPeek {i : Nat} {x : Str} {pos : Pos} (O : Ok c Γ hx X W) (h : okV Γ i x = true) : PE X (.Name x pos) (tM c hx X.K W (.peek i)) := by
  obtain ⟨h1, h2, h3, h4⟩ := okV_iff O h
  refine peImp (pe_var h1 h2 h3 h4) fun σ H Q ⟨ρ, F, rep, po⟩ => ?_
  have po : Po W X.K σ F H (getP ρ i) _ := po
  unfold getP at po
  split at po
  · rename_i d e
    obtain ⟨v, q, r⟩ := rep.at_ i _ e
    exact ⟨v, q, po.ok rep.s v (Rm.of r)⟩
  · rename_i xs e
    obtain ⟨a, vs, q, _, hH, r⟩ := rep.at_ i _ e
    exact ⟨_, q, po.ok rep.s _ (by unfold Rm; exact Rs.own hH r)⟩
  · exact po.elim
theorem sGlo {x : Str} {pos : Pos} (O : Ok c Γ hx X W) (h : okG Γ x Γ.gs = true) : PE X (.Name x pos) (tM c hx X.K W (.glo x)) := by
  obtain ⟨h1, h2, h3, h4⟩ := okG_iff O h
  obtain ⟨d, u, v, e1, e2, r, dv, _⟩ := O.gs x h4
  refine peImp (pe_glob h1 e2 r h2) fun σ H Q ⟨ρ, F, rep, po⟩ => ?_
  have po : Po W X.K σ F H (ofO (c.gc.lookup x)) _ := po
  rw [e1] at po
  exact po.ok rep.s v (Rm.of (dv F))
/-! ### constants -/
theorem sConst {e : Expr} {v : V} {d : D} {m : ME} (h : PE X e (tC v)) (hm : ∀ ρ, evE c m ρ = .ok d) (hd : ∀ F, Dv X.K F v d) : PE X e (tM c hx X.K W m) := by
  refine peImp h fun σ H Q ⟨ρ, F, rep, po⟩ => ?_
  rw [hm] at po
  exact po.ok rep.s v (Rm.of (hd F))
/-! ### argument lists -/
theorem nst_star {e : Expr} {es : List Expr} {env : Env} (h : nst e = true) : starEach (e :: es) env = (false, eval e env) :: starEach es env := by
  cases e <;> first | rfl | cases h
theorem sNil : PA X [] (tMs c hx X.K W .nil) := paImp pa_nil fun σ H Q ⟨ρ, F, rep, po⟩ => by
  have po : Po W X.K σ F H (R.ok []) _ := po
  exact po.ok rep.s [] (by unfold Rms; exact .nil)
theorem sCons {e : Expr} {es : List Expr} {m : ME} {ms : MEs} (h1 : PE X e (tM c hx X.K W m)) (h2 : PA X es (tMs c hx X.K W ms)) (hn : nst e = true) : PA X (e :: es) (tMs c hx X.K W (.cons m ms)) := by
  refine paImp (pa_cons h1 h2 (nst_star hn)) fun σ H Q ⟨ρ, F, rep, po⟩ => ?_
  have po : Po W X.K σ F H ((evE c m ρ).bind fun d => (evEs c ms ρ).bind fun ds => .ok (d :: ds)) _ := po
  refine ⟨ρ, F, rep, po.bind.imp fun d F1 H1 _ g1 po v rv => ⟨ρ, F1, rep.gr g1, po.bind.imp fun ds F2 H2 _ g2 po vs rvs => ?_⟩⟩
  refine po.ok g2.s (v :: vs) ?_
  unfold Rms
  by_cases hs : sfs (.cons m ms) = true
  · rw [if_pos hs]
    obtain ⟨a, b⟩ := Bool.and_eq_true_iff.mp (show (sf m && sfs ms) = true from hs)
    exact .cons ((rv.dv a).mono g2.f) (rvs.dvs b)
  · rw [if_neg hs]
    exact .cons (rv.rs.gr g2) rvs.rs
/-! ### displays -/
theorem chkEs_len : ∀ {ms : MEs} {es : List Expr}, chkEs Γ ms es = true → es.length = ms.len
  | .nil, [], _ => rfl
  | .nil, _ :: _, h => by simp [chkEs] at h
  | .cons _ _, [], h => by simp [chkEs] at h
  | .cons m ms, e :: es, h => by
    simp only [chkEs, Bool.and_eq_true] at h
    simp [MEs.len, chkEs_len h.2]
theorem evEs_len : ∀ {ms : MEs} {ρ : En} {ds : List D}, evEs c ms ρ = .ok ds → ds.length = ms.len
  | .nil, _, _, h => by
    simp only [evEs] at h
    cases h
    rfl
  | .cons m ms, ρ, ds, h => by
    simp only [evEs, R.bind] at h
    split at h
    · split at h
      · rename_i e
        cases h
        simp [MEs.len, evEs_len e]
      · cases h
      · cases h
    · cases h
    · cases h
theorem sizeLine_big : 1000000 ≤ sizeLine := by rw [sizeLine_eq]; decide
theorem sTup {es : List Expr} {ms : MEs} {k : Nat} {pos : Pos} (h : PA X es (tMs c hx X.K W ms)) (hs : sfs ms = true) (hl : ms.len ≤ 1000) : PE X (.Tuple es k pos) (tM c hx X.K W (.tup ms)) := by
  refine peImp (pe_tup h) fun σ H Q ⟨ρ, F, rep, po⟩ => ?_
  have po : Po W X.K σ F H ((evEs c ms ρ).bind fun ds => R.ok (PyData.tuple ds)) _ := po
  refine ⟨ρ, F, rep, po.bind.imp fun ds F1 H1 e g1 po vs rvs => ?_⟩
  have r := rvs.dvs hs
  have hz := sizeLine_big
  have hlen := evEs_len e
  have hl2 := r.length
  refine ⟨by omega, fun p hp => ?_⟩
  have g := Gr.new (o := .tup vs) g1.s hp
  exact po _ _ g _ (Rm.of (.tup (.inl (.inl upd_same)) (r.mono g.f)))
theorem sLst {es : List Expr} {ms : MEs} {pos : Pos} (h : PA X es (tMs c hx X.K W ms)) (hs : sfs ms = true) (hl : ms.len ≤ 1000) : PE X (.List es pos) (tM c hx X.K W (.lst ms)) := by
  refine peImp (pe_lst h) fun σ H Q ⟨ρ, F, rep, po⟩ => ?_
  have po : Po W X.K σ F H ((evEs c ms ρ).bind fun ds => R.ok (PyData.list ds)) _ := po
  refine ⟨ρ, F, rep, po.bind.imp fun ds F1 H1 e g1 po vs rvs => ?_⟩
  have r := rvs.dvs hs
  have hz := sizeLine_big
  have hlen := evEs_len e
  have hl2 := r.length
  refine ⟨by omega, fun p hp => ?_⟩
  have g := Gr.new (o := .lst vs) g1.s hp
  exact po _ _ g _ (Rm.of (.lst (.inl upd_same) (r.mono g.f)))
end
end Wq

end
section
set_option Elab.async false
set_option linter.all false
set_option autoImplicit false
set_option maxRecDepth 100000
/-! Operators. -/
namespace Wq
open PySem PySem.Spec PyProof.Rows L2
section
variable {c : Cv} {Γ : Cfg} {hx : HX} {X : Cx} {W : WX} {σ₀ : St}

/-- a list that is read: its own object -/
theorem lstRd {pins : List (Addr × Obj)} {σ : St} {H : Hp} {s : Shared} {l : Addr} {xs : List V} (I : Inv X pins σ H s) (h : Rd H l (.lst xs)) :
    xs.length ≤ sizeLine ∧ ∃ (its : List Value) (n : Nat), Vals xs its ∧ s.heap.get? l = some { cls := .type "list", data := .seq its.toArray n } := by
  obtain ⟨z, its, n, r, e⟩ := h.ok I.hok
  exact ⟨z, its, n, r, e⟩

/-! ### + - * // % -/
def rBin (W : WX) (K : Fg) (σ₀ : St) (op : BOp) : R2 := fun x y H Q => ∃ F d e, Same F H ∧ Rs K F H x d ∧ Rs K F H y e ∧ Po W K σ₀ F H (binD op d e) fun r F' H' => ∀ v, Dv K F' v r → Q v H'
theorem catL : OpR X (binaryOp .Add) (fun x y H Q => ∃ l b xs zs, x = .ref l ∧ y = .ref b ∧ Rd H l (.lst xs) ∧ Rd H b (.lst zs) ∧ xs.length + zs.length ≤ sizeLine ∧ ∀ p, H p = none → Q (.ref p) (upd H p (.lst (xs ++ zs)))) := by
  rintro pins s σ H x y v u Q I rx ry ⟨l, b, xs, zs, rfl, rfl, hL, hB, hz, q⟩
  cases rx
  cases ry
  obtain ⟨_, i1, n1, r1, e1⟩ := lstRd I hL
  obtain ⟨_, i2, n2, r2, e2⟩ := lstRd I hB
  have l1 := r1.length
  have l2 := r2.length
  refine PySem.P.add_list e1 e2 ?_ (by simp only [List.size_toArray]; omega)
  rw [show i1.toArray ++ i2.toArray = (i1 ++ i2).toArray from by simp]
  exact ⟨.ref _, _, I.lnew (t' := s.toks) (r1.append r2) (by simp only [List.length_append]; omega), rfl, q _ I.fresh⟩
theorem lim_ok {n : Nat} {d : D} {K : Fg} {σ : St} {F H : Hp} {T : D → Hp → Hp → Prop} (h : Po W K σ F H (lim n d) T) : n ≤ sizeLine ∧ Po W K σ F H (.ok d) T := by
  unfold lim at h
  split at h
  · rename_i hn
    exact ⟨by rw [sizeLine_eq]; exact hn, h⟩
  · exact h.elim
theorem opAdd : OpR X (binaryOp .Add) (rBin W X.K σ₀ .add) := by
  rintro pins s σ H x y v u Q I rx ry ⟨F, d, e, sm, hd, he, po⟩
  have po : Po W X.K σ₀ F H (addD d e) _ := po
  unfold addD at po
  split at po
  · exact op_add pins s σ H x y v u Q I rx ry ⟨_, _, hd.int, he.int, po.ok sm _ (.int _)⟩
  · obtain ⟨hn, po⟩ := lim_ok po
    exact op_add_str pins s σ H x y v u Q I rx ry ⟨_, _, hd.str, he.str, hn, po.ok sm _ (.str _)⟩
  · obtain ⟨hn, po⟩ := lim_ok po
    obtain ⟨l, xs, e1, r1, d1⟩ := hd.list sm
    obtain ⟨l2, ys, e2, r2, d2⟩ := he.list sm
    refine catL pins s σ H x y v u Q I rx ry ⟨l, l2, xs, ys, e1, e2, r1, r2, by rw [d1.length, d2.length]; exact hn, fun p hp => ?_⟩
    have g := Gr.new (o := .lst (xs ++ ys)) sm hp
    exact po _ _ g _ (.lst (.inl upd_same) ((d1.append d2).mono g.f))
  · obtain ⟨hn, po⟩ := lim_ok po
    obtain ⟨l, xs, e1, r1, d1⟩ := hd.tuple sm
    obtain ⟨l2, ys, e2, r2, d2⟩ := he.tuple sm
    refine op_catA pins s σ H x y v u Q I rx ry ⟨l, l2, xs, ys, e1, e2, r1, r2, by rw [d1.length, d2.length]; exact hn, fun hn => ?_, fun _ hn => ?_, fun _ _ p hp => ?_⟩
    · subst hn
      cases d1
      cases he with
      | dv he => exact po.ok sm _ (by rw [← e2]; exact he)
    · subst hn
      cases d2
      cases hd with
      | dv hd => exact po.ok sm _ (by rw [← e1, List.append_nil]; exact hd)
    · have g := Gr.new (o := .tup (xs ++ ys)) sm hp
      exact po _ _ g _ (.tup (.inl (.inl upd_same)) ((d1.append d2).mono g.f))
  · exact po.elim
theorem opSub : OpR X (binaryOp .Sub) (rBin W X.K σ₀ .sub) := by
  rintro pins s σ H x y v u Q I rx ry ⟨F, d, e, sm, hd, he, po⟩
  have po : Po W X.K σ₀ F H (subD d e) _ := po
  unfold subD at po
  split at po
  · exact op_sub pins s σ H x y v u Q I rx ry ⟨_, _, hd.int, he.int, po.ok sm _ (.int _)⟩
  · exact po.elim
theorem opFdiv : OpR X (binaryOp .FloorDiv) (rBin W X.K σ₀ .fdiv) := by
  rintro pins s σ H x y v u Q I rx ry ⟨F, d, e, sm, hd, he, po⟩
  have po : Po W X.K σ₀ F H (fdivD d e) _ := po
  unfold fdivD at po
  split at po
  · split at po
    · rename_i hc
      simp only [Bool.and_eq_true, decide_eq_true_eq] at hc
      exact op_fdiv pins s σ H x y v u Q I rx ry ⟨_, _, hd.int, he.int, hc, po.ok sm _ (.int _)⟩
    · exact po.elim
  · exact po.elim
theorem opMod : OpR X (binaryOp .Mod) (rBin W X.K σ₀ .mod) := by
  rintro pins s σ H x y v u Q I rx ry ⟨F, d, e, sm, hd, he, po⟩
  have po : Po W X.K σ₀ F H (modD d e) _ := po
  unfold modD at po
  split at po
  · split at po
    · rename_i hc
      exact op_mod pins s σ H x y v u Q I rx ry ⟨_, _, hd.int, he.int, of_decide_eq_true hc, po.ok sm _ (.int _)⟩
    · exact po.elim
  · exact po.elim
theorem repL : OpR X (binaryOp .Mult) (fun x y H Q => ∃ l k xs, x = .ref l ∧ y = .int k ∧ Rd H l (.lst xs) ∧ -1 ≤ k ∧ k ≤ 1000 ∧ xs.length ≤ 1000 ∧ ∀ p, H p = none → Q (.ref p) (upd H p (.lst (List.replicate k.toNat xs).flatten))) := by
  rintro pins s σ H x y v u Q I rx ry ⟨l, k, xs, rfl, rfl, hL, h1, h2, h3, q⟩
  cases rx
  obtain ⟨t, rfl⟩ := ry
  obtain ⟨_, its, n, r, e⟩ := lstRd I hL
  have ln := r.length
  have hm : xs.length * k.toNat ≤ 1000 * 1000 := Nat.mul_le_mul h3 (by omega)
  have hsz := sizeLine_big
  have a1 : its.toArray.size * k.toNat ≤ sizeLine := by simp only [List.size_toArray, ← ln]; omega
  have a2 : ¬ its.toArray.size * k.toNat > (2 ^ 63 - 1) / 8 := by
    simp only [List.size_toArray, ← ln]
    omega
  have a3 : ¬ (!Builtin.List.listFitsIndex k) = true := by
    rw [fitsIndex_both (by omega) (by omega)]
    exact Bool.false_ne_true
  have a4 : ¬ Builtin.List.listTooLong (its.toArray.size * k.toNat) = true := by
    rw [notLongL a1]
    exact Bool.false_ne_true
  have a5 : List.foldl (fun x1 x2 => x1 ++ x2) #[] (List.replicate (if its.toArray.isEmpty = true then 0 else k.toNat) its.toArray) = (List.replicate k.toNat its).flatten.toArray := by
    have f0 : ∀ m : Nat, List.foldl (fun x1 x2 => x1 ++ x2) #[] (List.replicate m its.toArray) = (List.replicate m its).flatten.toArray := fun m => by
      simpa using foldl_rep its m []
    rw [f0]
    cases its with
    | nil => simp
    | cons a r' => rw [if_neg (by simp)]
  refine wpAny_binaryOp_repeat_ref (T := "list") (U := "int") (by decide) ⟨_, e, rfl⟩ (fun s' => typeIs_int s' k t) noFill_list_mul F.fills_int_mul F.slot_int_rmul repeat_list F.slot_int_index.lookup ?_
  refine call_meets F.slot_int_rmul (typeIs_int s k t) F.entry_int_rmul (F.args_int_rmul_2 _ _) (int___rmul___int_list k t l its.toArray n) ⟨e, rfl, ⟨_, e, rfl⟩, ?_⟩
  refine call_meets F.slot_list_mul ⟨_, e, rfl⟩ F.entry_list_mul (F.args_list_mul_2 _ _) (AutoListH.list___mul___list_int_3 l its.toArray n k t a3 a2 a4) ⟨e, ?_⟩
  rw [a5]
  exact ⟨.ref _, _, I.lnew (t' := s.toks) (r.rep k.toNat) (by rw [PyProof.Rows.lm_len_rep_flat, Nat.mul_comm]; omega), rfl, q _ I.fresh⟩
theorem inB_iff {i : Int} (h : inB i = true) : -(2 ^ 64) < i ∧ i < 2 ^ 64 := by
  unfold inB at h
  simp only [Bool.and_eq_true, decide_eq_true_eq] at h
  exact h
set_option maxHeartbeats 4000000 in
theorem tuple_mul1 (l : Addr) (items : Array Value) (n : Nat) (dd : Option Addr) (sl : Array (Option Value)) (u : Tok) :
    Meets (Builtin.«tuple.__mul__» ⟨[.ref l, .int 1 u], []⟩) (fun _ R s => s.heap.get? l = some { cls := .type "tuple", dict := dd, data := .seq items n, slots := sl } ∧ R (.ok (.ret (Value.ref l))) s) :=
  .of_wp fun prog w A R s h => by
    obtain ⟨hp, g, d, tk, os⟩ := s
    obtain ⟨hl, h⟩ := h
    have f1 := AutoSeq1.idx_int
    have c1 : (items.isEmpty || (1 : Int) == 1) = true := by simp
    wp_walk using wpAny_loadPart' hl
    first
      | exact ⟨_, rfl, h⟩
      | (refine wpAny_ite_true (decide_eq_true c1) ?_; wp_walk using wpAny_loadPart' hl; exact ⟨_, rfl, h⟩)
/-- a tuple once is itself -/
theorem repT1 : OpR X (binaryOp .Mult) (fun x y H Q => ∃ l xs, x = .ref l ∧ y = .int 1 ∧ SqT X.K H l xs ∧ Q (.ref l) H) := by
  rintro pins s σ H x y v u Q I rx ry ⟨l, xs, rfl, rfl, hT, q⟩
  cases rx
  obtain ⟨t, rfl⟩ := ry
  obtain ⟨its, r, ⟨⟨cls, dd, data, sl⟩, ho, hc, n, hd⟩, hs⟩ := I.tuple hT
  simp only at hc hd
  subst hc hd
  exact wpAny_binaryOp_repeat_ref (T := "tuple") (U := "int") (by decide) ⟨_, ho, rfl⟩ (fun s' => typeIs_int s' 1 t) noFill_tuple_mul F.fills_int_mul F.slot_int_rmul repeat_tuple F.slot_int_index.lookup
    (call_meets F.slot_int_rmul (typeIs_int s 1 t) F.entry_int_rmul (F.args_int_rmul_2 _ _) (int_rmul_tuple 1 t l its.toArray n dd sl)
      ⟨ho, rfl, ⟨_, ho, rfl⟩, call_meets F.slot_tuple_mul ⟨_, ho, rfl⟩ F.entry_tuple_mul (F.args_tuple_mul_2 _ _) (tuple_mul1 l its.toArray n dd sl t) ⟨ho, .ref l, H, I, rfl, q⟩⟩)
theorem rep_cps (z : Str) (m : Nat) : (List.replicate m z.cps).foldl (· ++ ·) #[] = ((List.replicate m z.cps.toList).flatten).toArray := by
  have key : ∀ (m : Nat) (a : Array Nat), (List.replicate m z.cps).foldl (· ++ ·) a = a ++ ((List.replicate m z.cps.toList).flatten).toArray := fun m => by
    induction m with
    | zero => intro a; simp
    | succ m ih =>
      intro a
      rw [List.replicate_succ, List.foldl_cons, ih]
      rw [List.replicate_succ, List.flatten_cons, Array.append_assoc]
      congr 1
      apply Array.toList_inj.mp
      simp
  rw [key]
  simp
/-- a text a few times -/
theorem repS : OpR X (binaryOp .Mult) (fun x y H Q => ∃ z k, x = .str z ∧ y = .int k ∧ 0 ≤ k ∧ k ≤ 1000 ∧ z.length ≤ 1000 ∧ Q (.str ⟨(times k z.cps.toList).toArray⟩) H) := by
  rintro pins s σ H x y v u Q I rx ry ⟨z, k, rfl, rfl, h1, h2, h3, q⟩
  obtain ⟨t, rfl⟩ := rx
  obtain ⟨t', rfl⟩ := ry
  have hm : z.length * k.toNat ≤ 1000 * 1000 := Nat.mul_le_mul h3 (by omega)
  refine PySem.P.mul_str (by simp; omega) (fun a b => ?_) (fun a b => ?_) ?_
  · have h4 : (z.length : Int) ≤ 1000 := by omega
    have h5 : (1000 : Int) ≤ (2 ^ 63 - 1) / k := (Int.le_ediv_iff_mul_le (by omega)).mpr (by omega)
    omega
  · unfold Builtin.Str.tooLong
    have : (1000000 : Nat) ≤ sizeLine := sizeLine_big
    exact decide_eq_false (by omega)
  · by_cases a : k < 1
    · rw [if_pos a]
      have : k = 0 := by omega
      subst this
      exact ⟨by decide, .str _, H, I.kept (t' := s.toks + 1) fun _ _ e => e, ⟨_, rfl⟩, q⟩
    · rw [if_neg a]
      by_cases b : (k == 1 || z.length == 0) = true
      · rw [if_pos b]
        have e : (⟨(times k z.cps.toList).toArray⟩ : Str) = z := by
          rcases Bool.or_eq_true_iff.mp b with b | b
          · have : k = 1 := by simpa using b
            subst this
            simp [times]
          · have hz : z.cps = #[] := by
              have : z.length = 0 := by simpa using b
              exact Array.eq_empty_of_size_eq_zero this
            have : z = ⟨#[]⟩ := by cases z; simp_all
            subst this
            simp [times]
        rw [e] at q
        exact ⟨.str _, H, I, ⟨_, rfl⟩, q⟩
      · rw [if_neg b]
        refine ⟨?_, .str _, H, I.kept (t' := s.toks + 1) fun _ _ e => e, ⟨_, rfl⟩, ?_⟩
        · rw [rep_cps]
          show ((List.replicate k.toNat z.cps.toList).flatten).toArray.size ≤ _
          have : (1000000 : Nat) ≤ sizeLine := sizeLine_big
          rw [List.size_toArray, PyProof.Rows.lm_len_rep_flat]
          have e : z.cps.toList.length = z.length := by simp; rfl
          rw [e, Nat.mul_comm]
          omega
        · rw [rep_cps]
          exact q
theorem opMul : OpR X (binaryOp .Mult) (rBin W X.K σ₀ .mul) := by
  rintro pins s σ H x y v u Q I rx ry ⟨F, d, e, sm, hd, he, po⟩
  have po : Po W X.K σ₀ F H (mulD d e) _ := po
  unfold mulD at po
  split at po
  · split at po
    · rename_i hc
      refine op_mul pins s σ H x y v u Q I rx ry ⟨_, _, hd.int, he.int, ?_, po.ok sm _ (.int _)⟩
      rcases Bool.or_eq_true_iff.mp hc with z | z
      · exact .inl (inB_iff z)
      · exact .inr (inB_iff z)
    · exact po.elim
  · split at po
    · rename_i hc
      simp only [Bool.and_eq_true, decide_eq_true_eq] at hc
      obtain ⟨⟨c1, c2⟩, c3⟩ := hc
      obtain ⟨l, xs, e1, r1, d1⟩ := hd.list sm
      refine repL pins s σ H x y v u Q I rx ry ⟨l, _, xs, e1, he.int, r1, c1, c2, by rw [d1.length]; exact c3, fun p hp => ?_⟩
      exact po _ _ (Gr.new sm hp) _ (.lst (.inl upd_same) ((d1.rep _).mono (Gr.new sm hp).f))
    · exact po.elim
  · split at po
    · rename_i hc
      simp only [Bool.and_eq_true, decide_eq_true_eq, Bool.not_eq_true'] at hc
      obtain ⟨⟨⟨c1, c2⟩, c3⟩, c4⟩ := hc
      obtain ⟨l, xs, e1, r1, d1⟩ := hd.tuple sm
      refine op_repT pins s σ H x y v u Q I rx ry ⟨l, _, xs, e1, he.int, r1, fun z => ?_, c1, c2, by rw [d1.length]; exact c3, fun p hp => ?_⟩
      · subst z
        cases d1
        cases c4
      · exact po _ _ (Gr.new sm hp) _ (.tup (.inl (.inl upd_same)) ((d1.rep _).mono (Gr.new sm hp).f))
    · split at po
      · rename_i hk
        have hk := of_decide_eq_true hk
        subst hk
        cases hd with
        | dv hd =>
        obtain ⟨l, xs, e1, r1, d1⟩ := hd.tupF
        exact repT1 pins s σ H x y v u Q I rx ry ⟨l, xs, e1, he.int, sqtMono sm r1, po.ok sm _ (by rw [← e1]; exact hd)⟩
      · exact po.elim
  · split at po
    · rename_i hc
      simp only [Bool.and_eq_true, decide_eq_true_eq] at hc
      exact repS pins s σ H x y v u Q I rx ry ⟨_, _, hd.str, he.int, hc.1.1, hc.1.2, hc.2, po.ok sm _ (.str _)⟩
    · exact po.elim
  · exact po.elim
theorem opBin {op : BOp} {o : Operator} (h : opB op o = true) : OpR X (binaryOp o) (rBin W X.K σ₀ op) := by
  cases op with
  | add => cases o with
    | Add => exact opAdd
    | _ => cases h
  | sub => cases o with
    | Sub => exact opSub
    | _ => cases h
  | mul => cases o with
    | Mult => exact opMul
    | _ => cases h
  | fdiv => cases o with
    | FloorDiv => exact opFdiv
    | _ => cases h
  | mod => cases o with
    | Mod => exact opMod
    | _ => cases h
theorem sBin {op : BOp} {o : Operator} {a b : Expr} {ma mb : ME} {pos : Pos} (ha : PE X a (tM c hx X.K W ma)) (hb : PE X b (tM c hx X.K W mb)) (h : opB op o = true) : PE X (.BinOp a o b pos) (tM c hx X.K W (.bin op ma mb)) := by
  refine ⟨fun pins s σ H Q I ⟨ρ, F, rep, po⟩ => ?_⟩
  have po : Po W X.K σ F H ((evE c ma ρ).bind fun x => (evE c mb ρ).bind fun y => binD op x y) _ := po
  refine (pe_op (opBin (W := W) (σ₀ := σ) h) ha hb).run pins s σ H Q I ⟨ρ, F, rep, po.bind.imp fun x F1 H1 _ g1 po v rv => ⟨ρ, F1, rep.gr g1, po.bind.imp fun y F2 H2 _ g2 po w rw => ?_⟩⟩
  exact ⟨F2, x, y, g2.s, rv.rs.gr g2, rw.rs, po.imp fun r F3 H3 _ _ q v dv => q v (Rm.of dv)⟩
theorem sNeg {a : Expr} {ma : ME} {pos : Pos} (ha : PE X a (tM c hx X.K W ma)) : PE X (.UnaryOp .USub a pos) (tM c hx X.K W (.neg ma)) := by
  refine peImp (pe_un un_neg ha) fun σ H Q ⟨ρ, F, rep, po⟩ => ?_
  have po : Po W X.K σ F H ((evE c ma ρ).bind negD) _ := po
  refine ⟨ρ, F, rep, po.bind.imp fun x F1 H1 _ g1 po v rv => ?_⟩
  unfold negD at po
  split at po
  · exact ⟨_, rv.rs.int, po.ok g1.s _ (Rm.of (.int _))⟩
  · exact po.elim

/-! ### comparisons -/
def rCmp (K : Fg) (op : COp) : R2 := fun x y H Q => ∃ F d e k, Same F H ∧ Rs K F H x d ∧ Rs K F H y e ∧ cmpD op d e = .ok k ∧ Q (.bl k) H
theorem eqD_ok {a b : D} {k : Bool} (h : eqD a b = .ok k) : SeqAt.shaped a = true ∧ SeqAt.shaped b = true ∧ PyData.eqv a b = k := by
  unfold eqD at h
  split at h
  · rename_i hs
    obtain ⟨h1, h2⟩ := Bool.and_eq_true_iff.mp hs
    cases h
    exact ⟨h1, h2, rfl⟩
  · cases h
theorem bind_ok {α β : Type} {x : R α} {f : α → R β} {b : β} (h : x.bind f = .ok b) : ∃ a, x = .ok a ∧ f a = .ok b := by
  cases x with
  | ok a => exact ⟨a, rfl, h⟩
  | ex k => cases h
  | no => cases h
section
variable (hu : X.A.units + 70 < cLine)
include hu
theorem opEq : OpR X (compareOp .Eq) (rCmp X.K .eq) := by
  rintro pins s σ H x y v u Q I rx ry ⟨F, d, e, k, sm, hd, he, hk, q⟩
  obtain ⟨h1, h2, h3⟩ := eqD_ok (show eqD d e = .ok k from hk)
  subst h3
  exact op_eqD (by omega) pins s σ H x y v u Q I rx ry ⟨d, e, (hd.dvh sm).dp, (he.dvh sm).dp, h1, h2, q⟩
theorem opNe : OpR X (compareOp .NotEq) (rCmp X.K .ne) := by
  rintro pins s σ H x y v u Q I rx ry ⟨F, d, e, k, sm, hd, he, hk, q⟩
  obtain ⟨k', hk', e'⟩ := bind_ok (show (eqD d e).bind (fun k => .ok (!k)) = .ok k from hk)
  obtain ⟨h1, h2, h3⟩ := eqD_ok hk'
  cases e'
  subst h3
  exact op_neD (by omega) pins s σ H x y v u Q I rx ry ⟨d, e, (hd.dvh sm).dp, (he.dvh sm).dp, h1, h2, q⟩
end
end
end Wq

end
section
set_option Elab.async false
set_option linter.all false
set_option autoImplicit false
set_option maxRecDepth 100000
/-! Order, in, is, and, or, not. -/
namespace Wq
open PySem PySem.Spec PyProof.Rows L2 PySem.W
mutual
theorem ltB_data : ∀ a b : D, alike a b = true → dataLt a b = ltB a b
  | .none, b, h => by
    cases b with
    | none => rfl
    | _ => simp [alike] at h
  | .bool x, b, h => by
    cases b with
    | bool y =>
      rw [dataLt_bool, ltB]
      cases x <;> cases y <;> rfl
    | _ => simp [alike] at h
  | .int x, b, h => by
    cases b with
    | int y => rw [dataLt_int, ltB]
    | _ => simp [alike] at h
  | .str x, b, h => by
    cases b with
    | str y => rw [dataLt_str, ltB]
    | _ => simp [alike] at h
  | .list xs, b, h => by
    cases b with
    | list ys =>
      rw [dataLt_list, ltB]
      exact ltBs_data xs ys (by simpa [alike] using h)
    | _ => simp [alike] at h
  | .tuple xs, b, h => by
    cases b with
    | tuple ys =>
      rw [dataLt_tuple, ltB]
      exact ltBs_data xs ys (by simpa [alike] using h)
    | _ => simp [alike] at h
  | .dict _, b, h => by cases b <;> simp [alike] at h
theorem ltBs_data : ∀ xs ys : List D, alikeAll xs ys = true → PyProof.Rows.lexLt itemOrd (keyToksAll xs) (keyToksAll ys) = ltBs xs ys
  | [], [], _ => by decide +kernel
  | [], y :: ys, _ => by
    rw [ltBs, toks_all_cons]
    rw [show keyToksAll [] = [Sum.inl 0] from by simp [keyToksAll]]
    exact (lex_diff (O := itemOrd) (x := Sum.inl 0) (y := Sum.inl 1) (by decide)).trans (by decide +kernel)
  | x :: xs, [], _ => by
    rw [ltBs, toks_all_cons]
    rw [show keyToksAll [] = [Sum.inl 0] from by simp [keyToksAll]]
    exact (lex_diff (O := itemOrd) (x := Sum.inl 1) (y := Sum.inl 0) (by decide)).trans (by decide +kernel)
  | x :: xs, y :: ys, h => by
    obtain ⟨h1, h2⟩ := alike_all_cons h
    rw [ltBs]
    cases e : PyData.eqv x y with
    | true =>
      rw [dataLt_all_yes h1 e, if_pos rfl]
      exact ltBs_data xs ys h2
    | false =>
      rw [dataLt_all_no h1 e, if_neg Bool.false_ne_true]
      exact ltB_data x y h1
end
section
variable {c : Cv} {Γ : Cfg} {hx : HX} {X : Cx} {W : WX}
section
variable (hu : X.A.units + 70 < cLine)
include hu
theorem opLt : OpR X (compareOp .Lt) (rCmp X.K .lt) := by
  rintro pins s σ H x y v u Q I rx ry ⟨F, d, e, k, sm, hd, he, hk, q⟩
  have hk : (if shp d && shp e && notN d && PySem.W.alike d e then R.ok (ltB d e) else R.no) = R.ok k := hk
  split at hk
  · rename_i hc
    simp only [Bool.and_eq_true] at hc
    obtain ⟨⟨⟨h1, h2⟩, h3⟩, h4⟩ := hc
    obtain ⟨as, r1⟩ := Dp.reads I d x v (hd.dvh sm).dp rx
    obtain ⟨bs, r2⟩ := Dp.reads I e y u (he.dvh sm).dp ry
    have hk : ltB d e = k := by cases hk; rfl
    have hn : d ≠ .none := fun z => by subst z; cases h3
    have room := SeqAt.room_of_shaped (A := X.A) (da := d) (db := e) h1 (by omega)
    exact rcLt_alike d e X.A s v u as bs r1 r2 h4 hn room X.prog X.w X.xe _ ⟨.bl _, H, I, rfl, by rw [ltB_data d e h4, hk]; exact q⟩
  · cases hk
theorem opIn : OpR X (compareOp .In) (rCmp X.K .isin) := by
  rintro pins s σ H x y v u Q I rx ry ⟨F, d, e, k, sm, hd, he, hk, q⟩
  have hk : inD d e = .ok k := hk
  unfold inD at hk
  split at hk
  · split at hk
    · rename_i hc
      obtain ⟨h1, h2⟩ := Bool.and_eq_true_iff.mp hc
      cases hk
      exact op_inD (by omega) pins s σ H x y v u Q I rx ry ⟨d, _, (hd.dvh sm).dp, (he.dvh sm).dp, h1, h2, q⟩
    · cases hk
  · split at hk
    · rename_i hc
      obtain ⟨h1, h2⟩ := Bool.and_eq_true_iff.mp hc
      cases hk
      obtain ⟨as, r1⟩ := Dp.reads I d x v (hd.dvh sm).dp rx
      obtain ⟨bs, r2⟩ := Dp.reads I _ y u (he.dvh sm).dp ry
      exact SeqAt.in_tuple_reads r2 r1 (SeqAt.canLay_of_shaped h2) (SeqAt.canLay_of_shaped h1) (room_in_shaped h1 (by omega)) ⟨.bl _, H, I, rfl, q⟩
    · cases hk
  · split at hk
    · cases hk
      exact op_in_str pins s σ H x y v u Q I rx ry ⟨_, _, hd.str, he.str, q⟩
    · cases hk
  · cases hk
theorem opNotin : OpR X (compareOp .NotIn) (rCmp X.K .notin) := by
  rintro pins s σ H x y v u Q I rx ry ⟨F, d, e, k, sm, hd, he, hk0, q⟩
  obtain ⟨k', hk, e'⟩ := bind_ok (show (inD d e).bind (fun k => .ok (!k)) = .ok k from hk0)
  clear hk0
  cases e'
  unfold inD at hk
  split at hk
  · split at hk
    · rename_i hc
      obtain ⟨h1, h2⟩ := Bool.and_eq_true_iff.mp hc
      cases hk
      exact op_notInD (by omega) pins s σ H x y v u Q I rx ry ⟨d, _, (hd.dvh sm).dp, (he.dvh sm).dp, h1, h2, q⟩
    · cases hk
  · split at hk
    · rename_i hc
      obtain ⟨h1, h2⟩ := Bool.and_eq_true_iff.mp hc
      cases hk
      obtain ⟨as, r1⟩ := Dp.reads I d x v (hd.dvh sm).dp rx
      obtain ⟨bs, r2⟩ := Dp.reads I _ y u (he.dvh sm).dp ry
      exact SeqAt.notIn_tuple_reads r2 r1 (SeqAt.canLay_of_shaped h2) (SeqAt.canLay_of_shaped h1) (room_in_shaped h1 (by omega)) ⟨.bl _, H, I, rfl, q⟩
    · cases hk
  · split at hk
    · cases hk
      exact L2.op_notIn_str pins s σ H x y v u Q I rx ry ⟨_, _, hd.str, he.str, q⟩
    · cases hk
  · cases hk
theorem opLe : OpR X (compareOp .LtE) (rCmp X.K .le) := by
  rintro pins s σ H x y v u Q I rx ry ⟨F, d, e, k, sm, hd, he, hk, q⟩
  cases d with
  | int i => cases e with
    | int j =>
      cases hk
      exact op_le pins s σ H x y v u Q I rx ry ⟨_, _, hd.int, he.int, q⟩
    | _ => cases hk
  | str i => cases e with
    | str j =>
      cases hk
      exact op_le_str pins s σ H x y v u Q I rx ry ⟨_, _, hd.str, he.str, q⟩
    | _ => cases hk
  | _ => cases e <;> cases hk
theorem opGt : OpR X (compareOp .Gt) (rCmp X.K .gt) := by
  rintro pins s σ H x y v u Q I rx ry ⟨F, d, e, k, sm, hd, he, hk, q⟩
  cases d with
  | int i => cases e with
    | int j =>
      cases hk
      exact op_gt pins s σ H x y v u Q I rx ry ⟨_, _, hd.int, he.int, q⟩
    | _ => cases hk
  | _ => cases e <;> cases hk
theorem opGe : OpR X (compareOp .GtE) (rCmp X.K .ge) := by
  rintro pins s σ H x y v u Q I rx ry ⟨F, d, e, k, sm, hd, he, hk, q⟩
  cases d with
  | int i => cases e with
    | int j =>
      cases hk
      exact op_ge pins s σ H x y v u Q I rx ry ⟨_, _, hd.int, he.int, q⟩
    | _ => cases hk
  | _ => cases e <;> cases hk
theorem opCmp {op : COp} {o : CmpOp} (h : opC op o = true) : OpR X (compareOp o) (rCmp X.K op) := by
  cases op with
  | eq => cases o with
    | Eq => exact opEq hu
    | _ => cases h
  | ne => cases o with
    | NotEq => exact opNe hu
    | _ => cases h
  | lt => cases o with
    | Lt => exact opLt hu
    | _ => cases h
  | le => cases o with
    | LtE => exact opLe hu
    | _ => cases h
  | gt => cases o with
    | Gt => exact opGt hu
    | _ => cases h
  | ge => cases o with
    | GtE => exact opGe hu
    | _ => cases h
  | isin => cases o with
    | In => exact opIn hu
    | _ => cases h
  | notin => cases o with
    | NotIn => exact opNotin hu
    | _ => cases h
end
theorem cmp_imp {α : Type} {K : Fg} {σ : St} {F H : Hp} {op : COp} {x y : D} {f : Bool → R α} {T : α → Hp → Hp → Prop} (po : Po W K σ F H ((cmpD op x y).bind f) T) : ∃ k, cmpD op x y = .ok k ∧ Po W K σ F H (f k) T := by
  cases e : cmpD op x y with
  | ok k =>
    rw [e] at po
    exact ⟨k, rfl, po⟩
  | no =>
    rw [e] at po
    exact po.elim
  | ex c =>
    have eqn : ∀ k', eqD x y ≠ .ex k' := fun k' z => by
      unfold eqD at z
      split at z <;> cases z
    have inn : ∀ k', inD x y ≠ .ex k' := fun k' z => by
      unfold inD at z
      split at z
      · split at z <;> cases z
      · split at z <;> cases z
      · split at z <;> cases z
      · cases z
    exfalso
    cases op with
    | eq => exact eqn _ e
    | ne =>
      have e : (eqD x y).bind _ = _ := e
      cases q : eqD x y with
      | ex _ => exact eqn _ q
      | _ => rw [q] at e; cases e
    | lt =>
      have e : (if shp x && shp y && notN x && PySem.W.alike x y then R.ok (ltB x y) else R.no) = _ := e
      split at e <;> cases e
    | isin => exact inn _ e
    | notin =>
      have e : (inD x y).bind _ = _ := e
      cases q : inD x y with
      | ex _ => exact inn _ q
      | _ => rw [q] at e; cases e
    | _ => cases x <;> cases y <;> cases e
variable {a b e : Expr} {ma mb me : ME} {pos : Pos}
theorem sCmp {op : COp} {o : CmpOp} (O : Ok c Γ hx X W) (ha : PE X a (tM c hx X.K W ma)) (hb : PE X b (tM c hx X.K W mb)) (h : opC op o = true) (hm : inMark o b = true) : PE X (.Compare a [o] [b] pos) (tM c hx X.K W (.cmp op ma mb)) := by
  have hm : behindInMarks o b = false := by simpa [inMark] using hm
  refine peImp (pe_cmpR (opCmp O.un h) ha hb hm) fun σ H Q ⟨ρ, F, rep, po⟩ => ?_
  have po : Po W X.K σ F H ((evE c ma ρ).bind fun x => (evE c mb ρ).bind fun y => (cmpD op x y).bind fun k => R.ok (PyData.bool k)) _ := po
  refine ⟨ρ, F, rep, po.bind.imp fun x F1 H1 _ g1 po v rv => ⟨ρ, F1, rep.gr g1, po.bind.imp fun y F2 H2 _ g2 po w rw => ?_⟩⟩
  obtain ⟨k, e, po⟩ := cmp_imp po
  exact ⟨F2, x, y, k, g2.s, rv.rs.gr g2, rw.rs, e, po.ok g2.s _ (Rm.of (.bl k))⟩
theorem tCmpT {op : COp} {o : CmpOp} (O : Ok c Γ hx X W) (ha : PE X a (tM c hx X.K W ma)) (hb : PE X b (tM c hx X.K W mb)) (h : opC op o = true) (hm : inMark o b = true) : PT X (.Compare a [o] [b] pos) (tT c hx X.K W (.cmp op ma mb)) := by
  have hm : behindInMarks o b = false := by simpa [inMark] using hm
  refine ptImp (pt_cmpR (opCmp O.un h) ha hb hm) fun σ H Q ⟨ρ, F, rep, po⟩ => ?_
  have po : Po W X.K σ F H (((evE c ma ρ).bind fun x => (evE c mb ρ).bind fun y => (cmpD op x y).bind fun k => R.ok (PyData.bool k)).bind tru) _ := po
  refine ⟨ρ, F, rep, po.bind.bind.imp fun x F1 H1 _ g1 po v rv => ⟨ρ, F1, rep.gr g1, po.bind.imp fun y F2 H2 _ g2 po w rw => ?_⟩⟩
  obtain ⟨k, e, po⟩ := cmp_imp po
  exact ⟨F2, x, y, k, g2.s, rv.rs.gr g2, rw.rs, e, k, rfl, (po.ok g2.s).ok g2.s⟩
theorem sChain {o1 o2 : COp} {p1 p2 : CmpOp} (O : Ok c Γ hx X W) (ha : PE X a (tM c hx X.K W ma)) (hb : PE X b (tM c hx X.K W mb)) (he : PE X e (tM c hx X.K W me)) (h1 : opC o1 p1 = true) (h2 : opC o2 p2 = true) (hm : lastMarks [p1, p2] [b, e] = false) :
    PE X (.Compare a [p1, p2] [b, e] pos) (tM c hx X.K W (.chain o1 o2 ma mb me)) := by
  refine peImp (pe_chain (opCmp O.un h1) (opCmp O.un h2) ha hb he hm) fun σ H Q ⟨ρ, F, rep, po⟩ => ?_
  have po : Po W X.K σ F H ((evE c ma ρ).bind fun x => (evE c mb ρ).bind fun y => (cmpD o1 x y).bind fun k => if k then (evE c me ρ).bind fun z => (cmpD o2 y z).bind fun k2 => R.ok (PyData.bool k2) else R.ok (PyData.bool false)) _ := po
  refine ⟨ρ, F, rep, po.bind.imp fun x F1 H1 _ g1 po v rv => ⟨ρ, F1, rep.gr g1, po.bind.imp fun y F2 H2 _ g2 po w rw => ?_⟩⟩
  obtain ⟨k, e, po⟩ := cmp_imp po
  refine ⟨F2, x, y, k, g2.s, rv.rs.gr g2, rw.rs, e, k, rfl, ?_⟩
  cases k with
  | false => exact po.ok g2.s _ (Rm.of (.bl false))
  | true =>
    refine ⟨ρ, F2, (rep.gr g1).gr g2, po.bind.imp fun z F3 H3 _ g3 po u ru => ?_⟩
    obtain ⟨k, e, po⟩ := cmp_imp po
    exact ⟨F3, y, z, k, g3.s, rw.rs.gr g3, ru.rs, e, po.ok g3.s _ (Rm.of (.bl k))⟩
theorem tChainT {o1 o2 : COp} {p1 p2 : CmpOp} (O : Ok c Γ hx X W) (ha : PE X a (tM c hx X.K W ma)) (hb : PE X b (tM c hx X.K W mb)) (he : PE X e (tM c hx X.K W me)) (h1 : opC o1 p1 = true) (h2 : opC o2 p2 = true) (hm : lastMarks [p1, p2] [b, e] = false) :
    PT X (.Compare a [p1, p2] [b, e] pos) (tT c hx X.K W (.chain o1 o2 ma mb me)) := by
  refine ptImp (pt_chain (opCmp O.un h1) (opCmp O.un h2) ha hb he hm) fun σ H Q ⟨ρ, F, rep, po⟩ => ?_
  have po : Po W X.K σ F H (((evE c ma ρ).bind fun x => (evE c mb ρ).bind fun y => (cmpD o1 x y).bind fun k => if k then (evE c me ρ).bind fun z => (cmpD o2 y z).bind fun k2 => R.ok (PyData.bool k2) else R.ok (PyData.bool false)).bind tru) _ := po
  refine ⟨ρ, F, rep, po.bind.bind.imp fun x F1 H1 _ g1 po v rv => ⟨ρ, F1, rep.gr g1, po.bind.imp fun y F2 H2 _ g2 po w rw => ?_⟩⟩
  obtain ⟨k, e, po⟩ := cmp_imp po
  refine ⟨F2, x, y, k, g2.s, rv.rs.gr g2, rw.rs, e, k, rfl, ?_⟩
  cases k with
  | false => exact ⟨false, rfl, (po.ok g2.s).ok g2.s⟩
  | true =>
    refine ⟨ρ, F2, (rep.gr g1).gr g2, po.bind.imp fun z F3 H3 _ g3 po u ru => ?_⟩
    obtain ⟨k, e, po⟩ := cmp_imp po
    exact ⟨F3, y, z, k, g3.s, rw.rs.gr g3, ru.rs, e, k, rfl, (po.ok g3.s).ok g3.s⟩
/-! ### as tests -/
theorem tVal (h : PE X e (tM c hx X.K W me)) (he : ∀ whole, PySem.isTrue e X.env whole = (do let v ← whole; standAt e.pos; holding [v] (truthy v))) : PT X e (tT c hx X.K W me) := by
  refine ptImp (pt_val h he) fun σ H Q ⟨ρ, F, rep, po⟩ => ⟨ρ, F, rep, po.bind.imp fun d F1 H1 _ g1 po v rv => ?_⟩
  unfold tru at po
  split at po
  · exact ⟨_, rv.rs.bool, po.ok g1.s⟩
  · exact po.elim
theorem tru_bind {α : Type} {K : Fg} {σ : St} {F H : Hp} {d : D} {f : Bool → R α} {T : α → Hp → Hp → Prop} (po : Po W K σ F H ((tru d).bind f) T) : ∃ k, d = .bool k ∧ Po W K σ F H (f k) T := by
  cases d with
  | bool k => exact ⟨k, rfl, po⟩
  | _ => exact po.elim
/-! ### and, or, not -/
theorem sNot (ha : PE X a (tM c hx X.K W ma)) : PE X (.UnaryOp .Not a pos) (tM c hx X.K W (.not ma)) := by
  refine peImp (pe_not ha) fun σ H Q ⟨ρ, F, rep, po⟩ => ?_
  have po : Po W X.K σ F H ((evE c ma ρ).bind fun x => (tru x).bind fun k => R.ok (PyData.bool (!k))) _ := po
  refine ⟨ρ, F, rep, po.bind.imp fun d F1 H1 _ g1 po v rv => ?_⟩
  obtain ⟨k, rfl, po⟩ := tru_bind po
  exact ⟨k, rv.rs.bool, po.ok g1.s _ (Rm.of (.bl _))⟩
theorem tNotT (ha : PT X a (tT c hx X.K W ma)) : PT X (.UnaryOp .Not a pos) (tT c hx X.K W (.not ma)) := by
  refine ptImp (pt_not ha) fun σ H Q ⟨ρ, F, rep, po⟩ => ?_
  have po : Po W X.K σ F H (((evE c ma ρ).bind fun x => (tru x).bind fun k => R.ok (PyData.bool (!k))).bind tru) _ := po
  refine ⟨ρ, F, rep, ?_⟩
  have e : ((evE c ma ρ).bind fun x => (tru x).bind fun k => R.ok (PyData.bool (!k))).bind tru = ((evE c ma ρ).bind tru).bind fun k => .ok (!k) := by
    cases evE c ma ρ with
    | ok d => cases d <;> rfl
    | _ => rfl
  rw [e] at po
  exact po.bind.imp fun k F1 H1 _ g1 po => po.ok g1.s
theorem sAnd1 (ha : PE X a (tM c hx X.K W ma)) : PE X (.BoolOp .And [a] pos) (tM c hx X.K W (.and (.cons ma .nil))) := by
  refine peImp (pe_one ha) fun σ H Q ⟨ρ, F, rep, po⟩ => ?_
  have po : Po W X.K σ F H ((evE c ma ρ).bind fun x => (tru x).bind fun k => R.ok (PyData.bool k)) _ := po
  refine ⟨ρ, F, rep, po.bind.imp fun d F1 H1 _ g1 po v rv => ?_⟩
  obtain ⟨k, rfl, po⟩ := tru_bind po
  exact po.ok g1.s _ (Rm.of (by rw [rv.rs.bool]; exact .bl k))
theorem sOr1 (ha : PE X a (tM c hx X.K W ma)) : PE X (.BoolOp .Or [a] pos) (tM c hx X.K W (.or (.cons ma .nil))) := by
  refine peImp (pe_one ha) fun σ H Q ⟨ρ, F, rep, po⟩ => ?_
  have po : Po W X.K σ F H ((evE c ma ρ).bind fun x => (tru x).bind fun k => R.ok (PyData.bool k)) _ := po
  refine ⟨ρ, F, rep, po.bind.imp fun d F1 H1 _ g1 po v rv => ?_⟩
  obtain ⟨k, rfl, po⟩ := tru_bind po
  exact po.ok g1.s _ (Rm.of (by rw [rv.rs.bool]; exact .bl k))
theorem sAnd {r : List Expr} {ms : MEs} (ha : PE X a (tM c hx X.K W ma)) (hb : PE X (.BoolOp .And (b :: r) pos) (tM c hx X.K W (.and (.cons mb ms)))) : PE X (.BoolOp .And (a :: b :: r) pos) (tM c hx X.K W (.and (.cons ma (.cons mb ms)))) := by
  refine peImp (pe_and ha hb) fun σ H Q ⟨ρ, F, rep, po⟩ => ?_
  have po : Po W X.K σ F H ((evE c ma ρ).bind fun x => (tru x).bind fun k => if k then evAnd c (.cons mb ms) ρ else R.ok (PyData.bool false)) _ := po
  refine ⟨ρ, F, rep, po.bind.imp fun d F1 H1 _ g1 po v rv => ?_⟩
  obtain ⟨k, rfl, po⟩ := tru_bind po
  refine ⟨k, rv.rs.bool, ?_⟩
  cases k with
  | true => exact ⟨ρ, F1, rep.gr g1, po⟩
  | false => exact po.ok g1.s _ (Rm.of (.bl _))
theorem sOr {r : List Expr} {ms : MEs} (ha : PE X a (tM c hx X.K W ma)) (hb : PE X (.BoolOp .Or (b :: r) pos) (tM c hx X.K W (.or (.cons mb ms)))) : PE X (.BoolOp .Or (a :: b :: r) pos) (tM c hx X.K W (.or (.cons ma (.cons mb ms)))) := by
  refine peImp (pe_or ha hb) fun σ H Q ⟨ρ, F, rep, po⟩ => ?_
  have po : Po W X.K σ F H ((evE c ma ρ).bind fun x => (tru x).bind fun k => if k then R.ok (PyData.bool true) else evOr c (.cons mb ms) ρ) _ := po
  refine ⟨ρ, F, rep, po.bind.imp fun d F1 H1 _ g1 po v rv => ?_⟩
  obtain ⟨k, rfl, po⟩ := tru_bind po
  refine ⟨k, rv.rs.bool, ?_⟩
  cases k with
  | true => exact po.ok g1.s _ (Rm.of (.bl _))
  | false => exact ⟨ρ, F1, rep.gr g1, po⟩
theorem wAnd1 (ha : PT X a (tT c hx X.K W ma)) : PW X (.BoolOp .And [a] pos) (tT c hx X.K W (.and (.cons ma .nil))) := by
  refine pwImp (pw_and1 ha) fun σ H Q ⟨ρ, F, rep, po⟩ => ?_
  have po : Po W X.K σ F H (((evE c ma ρ).bind fun x => (tru x).bind fun k => R.ok (PyData.bool k)).bind tru) _ := po
  refine ⟨ρ, F, rep, ?_⟩
  have e : ((evE c ma ρ).bind fun x => (tru x).bind fun k => R.ok (PyData.bool k)).bind tru = (evE c ma ρ).bind tru := by
    cases evE c ma ρ with
    | ok d => cases d <;> rfl
    | _ => rfl
  rwa [e] at po
theorem wOr1 (ha : PT X a (tT c hx X.K W ma)) : PW X (.BoolOp .Or [a] pos) (tT c hx X.K W (.or (.cons ma .nil))) := by
  refine pwImp (pw_or1 ha) fun σ H Q ⟨ρ, F, rep, po⟩ => ?_
  have po : Po W X.K σ F H (((evE c ma ρ).bind fun x => (tru x).bind fun k => R.ok (PyData.bool k)).bind tru) _ := po
  refine ⟨ρ, F, rep, ?_⟩
  have e : ((evE c ma ρ).bind fun x => (tru x).bind fun k => R.ok (PyData.bool k)).bind tru = (evE c ma ρ).bind tru := by
    cases evE c ma ρ with
    | ok d => cases d <;> rfl
    | _ => rfl
  rwa [e] at po
theorem wAnd {r : List Expr} {ms : MEs} (ha : PT X a (tT c hx X.K W ma)) (hb : PW X (.BoolOp .And (b :: r) pos) (tT c hx X.K W (.and (.cons mb ms)))) : PW X (.BoolOp .And (a :: b :: r) pos) (tT c hx X.K W (.and (.cons ma (.cons mb ms)))) := by
  refine pwImp (pw_and ha hb) fun σ H Q ⟨ρ, F, rep, po⟩ => ?_
  have po : Po W X.K σ F H (((evE c ma ρ).bind fun x => (tru x).bind fun k => if k then evAnd c (.cons mb ms) ρ else R.ok (PyData.bool false)).bind tru) _ := po
  have e : ((evE c ma ρ).bind fun x => (tru x).bind fun k => if k then evAnd c (.cons mb ms) ρ else R.ok (PyData.bool false)).bind tru = ((evE c ma ρ).bind tru).bind fun k => if k then (evAnd c (.cons mb ms) ρ).bind tru else .ok false := by
    cases evE c ma ρ with
    | ok d => cases d with
      | bool k => cases k <;> rfl
      | _ => rfl
    | _ => rfl
  rw [e] at po
  refine ⟨ρ, F, rep, po.bind.imp fun k F1 H1 _ g1 po => ?_⟩
  cases k with
  | true => exact ⟨ρ, F1, rep.gr g1, po⟩
  | false => exact po.ok g1.s
theorem wOr {r : List Expr} {ms : MEs} (ha : PT X a (tT c hx X.K W ma)) (hb : PW X (.BoolOp .Or (b :: r) pos) (tT c hx X.K W (.or (.cons mb ms)))) : PW X (.BoolOp .Or (a :: b :: r) pos) (tT c hx X.K W (.or (.cons ma (.cons mb ms)))) := by
  refine pwImp (pw_or ha hb) fun σ H Q ⟨ρ, F, rep, po⟩ => ?_
  have po : Po W X.K σ F H (((evE c ma ρ).bind fun x => (tru x).bind fun k => if k then R.ok (PyData.bool true) else evOr c (.cons mb ms) ρ).bind tru) _ := po
  have e : ((evE c ma ρ).bind fun x => (tru x).bind fun k => if k then R.ok (PyData.bool true) else evOr c (.cons mb ms) ρ).bind tru = ((evE c ma ρ).bind tru).bind fun k => if k then .ok true else (evOr c (.cons mb ms) ρ).bind tru := by
    cases evE c ma ρ with
    | ok d => cases d with
      | bool k => cases k <;> rfl
      | _ => rfl
    | _ => rfl
  rw [e] at po
  refine ⟨ρ, F, rep, po.bind.imp fun k F1 H1 _ g1 po => ?_⟩
  cases k with
  | true => exact po.ok g1.s
  | false => exact ⟨ρ, F1, rep.gr g1, po⟩
/-! ### a if t else b -/
theorem sIfe {t : Expr} {mt : ME} (ht : PT X t (tT c hx X.K W mt)) (ha : PE X a (tM c hx X.K W ma)) (hb : PE X b (tM c hx X.K W mb)) (sa : sf ma = true) (sb : sf mb = true) : PE X (.IfExp t a b pos) (tM c hx X.K W (.ife mt ma mb)) := by
  refine peImp (pe_ifExp ht ha hb) fun σ H Q ⟨ρ, F, rep, po⟩ => ?_
  have po : Po W X.K σ F H ((evE c mt ρ).bind fun x => (tru x).bind fun k => if k then evE c ma ρ else evE c mb ρ) _ := po
  have e : ((evE c mt ρ).bind fun x => (tru x).bind fun k => if k then evE c ma ρ else evE c mb ρ) = ((evE c mt ρ).bind tru).bind fun k => if k then evE c ma ρ else evE c mb ρ := by
    cases evE c mt ρ <;> rfl
  rw [e] at po
  refine ⟨ρ, F, rep, po.bind.imp fun k F1 H1 _ g1 po => ?_⟩
  cases k with
  | true => exact ⟨ρ, F1, rep.gr g1, po.imp fun d F2 H2 _ _ q v rv => q v (Rm.of (rv.dv sa))⟩
  | false => exact ⟨ρ, F1, rep.gr g1, po.imp fun d F2 H2 _ _ q v rv => q v (Rm.of (rv.dv sb))⟩
theorem tIfeT {t : Expr} {mt : ME} (ht : PT X t (tT c hx X.K W mt)) (ha : PT X a (tT c hx X.K W ma)) (hb : PT X b (tT c hx X.K W mb)) : PT X (.IfExp t a b pos) (tT c hx X.K W (.ife mt ma mb)) := by
  refine ⟨fun pins s σ H Q I ⟨ρ, F, rep, po⟩ => ?_⟩
  have po : Po W X.K σ F H (((evE c mt ρ).bind fun x => (tru x).bind fun k => if k then evE c ma ρ else evE c mb ρ).bind tru) _ := po
  have e : ((evE c mt ρ).bind fun x => (tru x).bind fun k => if k then evE c ma ρ else evE c mb ρ).bind tru = ((evE c mt ρ).bind tru).bind fun k => if k then (evE c ma ρ).bind tru else (evE c mb ρ).bind tru := by
    cases evE c mt ρ with
    | ok d => cases d with
      | bool k => cases k <;> rfl
      | _ => rfl
    | _ => rfl
  rw [e] at po
  rw [PySem.isTrue]
  refine wpAny_bind (thn (ht.run pins s σ H (fun k H1 => if k then tT c hx X.K W ma σ H1 Q else tT c hx X.K W mb σ H1 Q) I ⟨ρ, F, rep, po.bind.imp fun k F1 H1 _ g1 po => ?_⟩) fun d s1 ⟨H1, I1, q1⟩ => ?_)
  · cases k with
    | true => exact ⟨ρ, F1, rep.gr g1, po⟩
    | false => exact ⟨ρ, F1, rep.gr g1, po⟩
  · cases d with
    | true => exact ha.run pins s1 σ H1 Q I1 q1
    | false => exact hb.run pins s1 σ H1 Q I1 q1
/-! ### is None, is True -/
theorem dv_non {K : Fg} {F H : Hp} {v : V} {d : D} (h : Rs K F H v d) : decide (v = .non) = !notN d := by
  cases h with
  | dv h => cases h <;> rfl
  | own _ _ => rfl
theorem sIsN {k : Nat} {p2 : Pos} (ha : PE X a (tM c hx X.K W ma)) : PE X (.Compare a [.Is] [.Constant .none k p2] pos) (tM c hx X.K W (.isN ma false)) := by
  refine peImp (pe_cmp (pc_isN ha)) fun σ H Q ⟨ρ, F, rep, po⟩ => ?_
  have po : Po W X.K σ F H ((evE c ma ρ).bind fun x => R.ok (PyData.bool (false == notN x))) _ := po
  refine ⟨ρ, F, rep, po.bind.imp fun d F1 H1 _ g1 po v rv => ?_⟩
  dsimp only
  rw [dv_non rv.rs]
  exact po.ok g1.s _ (Rm.of (by cases notN d <;> exact .bl _))
theorem sNotN {k : Nat} {p2 : Pos} (ha : PE X a (tM c hx X.K W ma)) : PE X (.Compare a [.IsNot] [.Constant .none k p2] pos) (tM c hx X.K W (.isN ma true)) := by
  refine peImp (pe_cmp (pc_notN ha)) fun σ H Q ⟨ρ, F, rep, po⟩ => ?_
  have po : Po W X.K σ F H ((evE c ma ρ).bind fun x => R.ok (PyData.bool (true == notN x))) _ := po
  refine ⟨ρ, F, rep, po.bind.imp fun d F1 H1 _ g1 po v rv => ?_⟩
  dsimp only
  rw [dv_non rv.rs]
  exact po.ok g1.s _ (Rm.of (by cases notN d <;> exact .bl _))
theorem tIsN' {k : Nat} {p2 : Pos} (ha : PE X a (tM c hx X.K W ma)) : PT X (.Compare a [.Is] [.Constant .none k p2] pos) (tT c hx X.K W (.isN ma false)) := by
  refine ptImp (pt_cmp (pc_isN ha)) fun σ H Q ⟨ρ, F, rep, po⟩ => ?_
  have po : Po W X.K σ F H (((evE c ma ρ).bind fun x => R.ok (PyData.bool (false == notN x))).bind tru) _ := po
  refine ⟨ρ, F, rep, po.bind.bind.imp fun d F1 H1 _ g1 po v rv => ?_⟩
  dsimp only
  rw [dv_non rv.rs]
  exact ⟨_, rfl, by have q := (po.ok g1.s).ok g1.s; revert q; cases notN d <;> exact id⟩
theorem tNotN' {k : Nat} {p2 : Pos} (ha : PE X a (tM c hx X.K W ma)) : PT X (.Compare a [.IsNot] [.Constant .none k p2] pos) (tT c hx X.K W (.isN ma true)) := by
  refine ptImp (pt_cmp (pc_notN ha)) fun σ H Q ⟨ρ, F, rep, po⟩ => ?_
  have po : Po W X.K σ F H (((evE c ma ρ).bind fun x => R.ok (PyData.bool (true == notN x))).bind tru) _ := po
  refine ⟨ρ, F, rep, po.bind.bind.imp fun d F1 H1 _ g1 po v rv => ?_⟩
  dsimp only
  rw [dv_non rv.rs]
  exact ⟨_, rfl, by have q := (po.ok g1.s).ok g1.s; revert q; cases notN d <;> exact id⟩
/-- is, is not of a bool or a whole number with a bool -/
theorem opIsB {b n : Bool} {o : CmpOp} (ho : (n = false ∧ o = .Is) ∨ (n = true ∧ o = .IsNot)) : OpR X (compareOp o) (fun x y H Q => ∃ F d e, Rs X.K F H x d ∧ y = .bl b ∧ isbD b n d = .ok e ∧ ∀ v, Dv X.K F v e → Q v H) := by
  rintro pins s σ H x y v u Q I rx ry ⟨F, d, e, hd, rfl, hk, q⟩
  cases (show u = Value.bool b from ry)
  cases d with
  | bool k =>
    have hx' := hd.bool
    subst hx'
    cases (show v = Value.bool k from rx)
    cases hk
    have q := q _ (.bl _)
    by_cases e : k = b
    · subst e
      rcases ho with ⟨rfl, rfl⟩ | ⟨rfl, rfl⟩
      · exact wpAny_is_self rfl ⟨.bl true, H, I, rfl, by simpa using q⟩
      · exact wpAny_isNot_self rfl ⟨.bl false, H, I, rfl, by simpa using q⟩
    · rcases ho with ⟨rfl, rfl⟩ | ⟨rfl, rfl⟩
      · exact wpAny_is_other rfl (fun z => e (Value.bool.inj z)) ⟨.bl false, H, I, rfl, by simpa [e] using q⟩
      · exact wpAny_isNot_other rfl (fun z => e (Value.bool.inj z)) ⟨.bl true, H, I, rfl, by simpa [e] using q⟩
  | int k =>
    have hx' := hd.int
    subst hx'
    obtain ⟨t, rfl⟩ := rx
    cases hk
    have q := q _ (.bl _)
    rcases ho with ⟨rfl, rfl⟩ | ⟨rfl, rfl⟩
    · exact wpAny_is_other rfl (fun z => by cases z) ⟨.bl false, H, I, rfl, q⟩
    · exact wpAny_isNot_other rfl (fun z => by cases z) ⟨.bl true, H, I, rfl, q⟩
  | _ => cases hk
theorem isb_po {α : Type} {K : Fg} {σ : St} {F H : Hp} {b n : Bool} {x : D} {f : D → R α} {T : α → Hp → Hp → Prop} (po : Po W K σ F H ((isbD b n x).bind f) T) : ∃ k, isbD b n x = .ok (.bool k) ∧ Po W K σ F H (f (.bool k)) T := by
  cases x with
  | bool k => exact ⟨_, rfl, po⟩
  | int k => exact ⟨_, rfl, po⟩
  | _ => exact po.elim
theorem sIsB {b n : Bool} {k : Nat} {p2 : Pos} {o : CmpOp} (ho : (n = false ∧ o = .Is) ∨ (n = true ∧ o = .IsNot)) (ha : PE X a (tM c hx X.K W ma)) : PE X (.Compare a [o] [.Constant (.bool b) k p2] pos) (tM c hx X.K W (.isB ma b n)) := by
  have hm : behindInMarks o (.Constant (.bool b) k p2) = false := by rcases ho with ⟨_, rfl⟩ | ⟨_, rfl⟩ <;> exact nomark _
  refine peImp (pe_cmpR (opIsB (b := b) ho) ha pe_bl hm) fun σ H Q ⟨ρ, F, rep, po⟩ => ?_
  have po : Po W X.K σ F H ((evE c ma ρ).bind fun x => isbD b n x) _ := po
  refine ⟨ρ, F, rep, po.bind.imp fun d F1 H1 _ g1 po v rv => ?_⟩
  obtain ⟨k, e, po⟩ := isb_po (f := fun x => .ok x) (by cases q : isbD b n d <;> rw [q] at po <;> exact po)
  exact ⟨F1, d, _, rv.rs, rfl, e, fun v dv => po.ok g1.s v (Rm.of dv)⟩
theorem tIsB' {b n : Bool} {k : Nat} {p2 : Pos} {o : CmpOp} (ho : (n = false ∧ o = .Is) ∨ (n = true ∧ o = .IsNot)) (ha : PE X a (tM c hx X.K W ma)) : PT X (.Compare a [o] [.Constant (.bool b) k p2] pos) (tT c hx X.K W (.isB ma b n)) := by
  have hm : behindInMarks o (.Constant (.bool b) k p2) = false := by rcases ho with ⟨_, rfl⟩ | ⟨_, rfl⟩ <;> exact nomark _
  refine ptImp (pt_cmpR (opIsB (b := b) ho) ha pe_bl hm) fun σ H Q ⟨ρ, F, rep, po⟩ => ?_
  have po : Po W X.K σ F H (((evE c ma ρ).bind fun x => isbD b n x).bind tru) _ := po
  refine ⟨ρ, F, rep, po.bind.bind.imp fun d F1 H1 _ g1 po v rv => ?_⟩
  obtain ⟨k, e, po⟩ := isb_po (f := fun x => .ok x) (by cases q : isbD b n d <;> rw [q] at po <;> exact po)
  exact ⟨F1, d, _, rv.rs, rfl, e, fun v dv => by cases dv; exact ⟨k, rfl, (po.ok g1.s).ok g1.s⟩⟩
end
end Wq

end
section
set_option Elab.async false
set_option linter.all false
set_option autoImplicit false
set_option maxRecDepth 100000
/-! Indexes and slices. -/
namespace Wq
open PySem PySem.Spec PyProof.Rows L2
section
variable {c : Cv} {Γ : Cfg} {hx : HX} {X : Cx} {W : WX} {σ₀ : St}
variable {a b e : Expr} {ma mb me : ME} {pos : Pos}
theorem plainIx_ok (h : plainIx b = true) : PlainIx b := by
  intro o i
  cases b <;> first | rfl | cases h
theorem atI_dvs {K : Fg} {F : Hp} {vs : List V} {ds : List D} (h : Dvs K F vs ds) {i : Int} {d : D} (e : atI ds i = some d) : ∃ v, atI vs i = some v ∧ Dv K F v d := by
  unfold atI at e ⊢
  rw [h.length]
  cases q : ixN ds.length i with
  | none => rw [q] at e; cases e
  | some j =>
    rw [q] at e
    exact h.get e
theorem ofO_po {α : Type} {K : Fg} {σ : St} {F H : Hp} {o : Option α} {T : α → Hp → Hp → Prop} (po : Po W K σ F H (ofO o) T) : ∃ a, o = some a ∧ Po W K σ F H (.ok a) T := by
  cases o with
  | some a => exact ⟨a, rfl, po⟩
  | none => exact po.elim
theorem ofO_bind {α β : Type} {K : Fg} {σ : St} {F H : Hp} {o : Option α} {f : α → R β} {T : β → Hp → Hp → Prop} (po : Po W K σ F H ((ofO o).bind f) T) : ∃ a, o = some a ∧ Po W K σ F H (f a) T := by
  cases o with
  | some a => exact ⟨a, rfl, po⟩
  | none => exact po.elim
def rIdx (W : WX) (K : Fg) (σ₀ : St) : R2 := fun x y H Q => ∃ F d e, Same F H ∧ Rs K F H x d ∧ Rs K F H y e ∧ Po W K σ₀ F H (idxD d e) fun r F' H' => ∀ v, Dv K F' v r → Q v H'
theorem ixD_seq : IxR X (rIdx W X.K σ₀) := by
  rintro value slice pins s σ H x y v u Q I rx ry ⟨F, d, e, sm, hd, he, po⟩ hs
  refine ix_seq value slice pins s σ H x y v u Q I rx ry ?_ hs
  unfold idxD at po
  split at po
  · obtain ⟨z, e1, po⟩ := ofO_po po
    obtain ⟨l, xs, e2, r1, d1⟩ := hd.list sm
    obtain ⟨w, e3, dw⟩ := atI_dvs d1 e1
    exact .inl ⟨l, xs, _, w, e2, he.int, .inl r1, e3, po.ok sm _ dw⟩
  · obtain ⟨z, e1, po⟩ := ofO_po po
    obtain ⟨l, xs, e2, r1, d1⟩ := hd.tuple sm
    obtain ⟨w, e3, dw⟩ := atI_dvs d1 e1
    exact .inr (.inl ⟨l, xs, _, w, e2, he.int, r1, e3, po.ok sm _ dw⟩)
  · split at po
    · rename_i hz
      split at po
      · rename_i _ e1
        exact .inr (.inr ⟨_, _, _, hd.str, he.int, by rw [sizeLine_eq]; exact hz, e1, po.ok sm _ (.str _)⟩)
      · exact po.elim
    · exact po.elim
  · exact po.elim
theorem sIdx (ha : PE X a (tM c hx X.K W ma)) (hb : PE X b (tM c hx X.K W mb)) (h : plainIx b = true) : PE X (.Subscript a b pos) (tM c hx X.K W (.idx ma mb)) := by
  refine ⟨fun pins s σ H Q I ⟨ρ, F, rep, po⟩ => ?_⟩
  have po : Po W X.K σ F H ((evE c ma ρ).bind fun x => (evE c mb ρ).bind fun y => idxD x y) _ := po
  refine (pe_ix (ixD_seq (W := W) (σ₀ := σ)) ha hb (plainIx_ok h)).run pins s σ H Q I ⟨ρ, F, rep, po.bind.imp fun x F1 H1 _ g1 po v rv => ⟨ρ, F1, rep.gr g1, po.bind.imp fun y F2 H2 _ g2 po w rw => ?_⟩⟩
  exact ⟨F2, x, y, g2.s, rv.rs.gr g2, rw.rs, po.imp fun r F3 H3 _ _ q v dv => q v (Rm.of dv)⟩
/-! ### slices -/
theorem poImp {o : Option Expr} {t t' : TO} (h : PO X o t) (i : ∀ σ H Q, t' σ H Q → t σ H Q) : PO X o t' := ⟨fun pins s σ H Q I q => h.run pins s σ H Q I (i σ H Q q)⟩
theorem sNoO : PO X none (tO c hx X.K W .none) := poImp po_none fun σ H Q ⟨ρ, F, rep, po⟩ => by
  have po : Po W X.K σ F H (R.ok none) _ := po
  exact po.ok rep.s
theorem toI_bind {α : Type} {K : Fg} {σ : St} {F H : Hp} {d : D} {f : Int → R α} {T : α → Hp → Hp → Prop} (po : Po W K σ F H ((toI d).bind f) T) : ∃ k, d = .int k ∧ Po W K σ F H (f k) T := by
  cases d with
  | int k => exact ⟨k, rfl, po⟩
  | _ => exact po.elim
theorem sSomeO (he : PE X e (tM c hx X.K W me)) : PO X (some e) (tO c hx X.K W (.some me)) := poImp (po_some he) fun σ H Q ⟨ρ, F, rep, po⟩ => by
  have po : Po W X.K σ F H ((evE c me ρ).bind fun x => (toI x).bind fun n => R.ok (some n)) _ := po
  refine ⟨ρ, F, rep, po.bind.imp fun d F1 H1 _ g1 po v rv => ?_⟩
  obtain ⟨k, rfl, po⟩ := toI_bind po
  exact ⟨k, rv.rs.int, po.ok g1.s⟩
theorem cutS_cut (z : Str) (lo hi : Option Int) : cutS z lo hi = ⟨(cut z.cps.toList lo hi).toArray⟩ := by
  unfold cutS cut
  simp only [Array.length_toList]
  rfl
theorem slD_ok : SlR X (fun x lo hi H Q => ∃ F d, Same F H ∧ Rs X.K F H x d ∧ Po W X.K σ₀ F H (slD lo hi d) fun r F' H' => ∀ v, Dv X.K F' v r → Q v H') := by
  rintro pins s σ H x v vl vu lo hi sl Q I rx hs pl pu ⟨F, d, sm, hd, po⟩
  unfold slD at po
  split at po
  · obtain ⟨l, xs, e2, r1, d1⟩ := hd.list sm
    refine sl_list pins s σ H x v vl vu lo hi sl Q I rx hs pl pu ⟨l, xs, e2, .inl r1, fun p hp => ?_⟩
    exact po _ _ (Gr.new sm hp) _ (.lst (.inl upd_same) ((d1.cut _ _).mono (Gr.new sm hp).f))
  · cases hd with
    | dv hd =>
    obtain ⟨l, xs, e2, r1, d1⟩ := hd.tupF
    refine sl_tupA pins s σ H x v vl vu lo hi sl Q I rx hs pl pu ⟨l, xs, e2, sqtMono sm r1, fun hw => ?_, fun _ p hp => ?_⟩
    · refine po.ok sm _ ?_
      rw [← e2]
      have e : cut _ lo hi = _ := cut_whole (by rw [← d1.length]; exact hw)
      rw [e]
      exact hd
    · exact po _ _ (Gr.new sm hp) _ (.tup (.inl (.inl upd_same)) ((d1.cut _ _).mono (Gr.new sm hp).f))
  · split at po
    · rename_i hz
      refine sl_str pins s σ H x v vl vu lo hi sl Q I rx hs pl pu ⟨_, hd.str, by rw [sizeLine_eq]; exact hz, ?_⟩
      rw [cutS_cut]
      exact po.ok sm _ (.str _)
    · exact po.elim
  · exact po.elim
where
  cut_whole {α : Type} {xs : List α} {lo hi : Option Int} (h : HT.sIx xs.length 0 lo = 0 ∧ HT.sIx xs.length xs.length hi = xs.length) : cut xs lo hi = xs := by
    unfold cut
    rw [h.1, h.2]
    simp
theorem sSl {lo hi : Option Expr} {mlo mhi : MO} {p2 : Pos} (ha : PE X a (tM c hx X.K W ma)) (hl : PO X lo (tO c hx X.K W mlo)) (hh : PO X hi (tO c hx X.K W mhi)) : PE X (.Subscript a (.Slice lo hi none p2) pos) (tM c hx X.K W (.sl ma mlo mhi)) := by
  refine ⟨fun pins s σ H Q I ⟨ρ, F, rep, po⟩ => ?_⟩
  have po : Po W X.K σ F H ((evE c ma ρ).bind fun x => (evO c mlo ρ).bind fun l => (evO c mhi ρ).bind fun h => slD l h x) _ := po
  refine (pe_slice (slD_ok (W := W) (σ₀ := σ)) ha hl hh).run pins s σ H Q I ⟨ρ, F, rep, po.bind.imp fun x F1 H1 _ g1 po v rv => ⟨ρ, F1, rep.gr g1, po.bind.imp fun l F2 H2 _ g2 po => ⟨ρ, F2, (rep.gr g1).gr g2, po.bind.imp fun h F3 H3 _ g3 po => ?_⟩⟩⟩
  exact ⟨F3, x, g3.s, (rv.rs.gr g2).gr g3, po.imp fun r F3 H3 _ _ q v dv => q v (Rm.of dv)⟩
/-! ### x[::-1], x[1::2] -/
section
variable {prog : Program} {w : World} {A : Around} {E : Value → Shared → Prop} {s : Shared}
theorem slApplied {sl : Addr} {vl vu vs : Value} {lo hi : Option Int} {st : Int} {n : Nat} {Q : Int × Int × Nat → Shared → Prop} (hs : s.heap.IsSliceOf sl vl vu vs) (pl : IsPart vl lo) (pu : IsPart vu hi) (ps : IsPart vs (some st)) (h0 : (st == 0) = false)
    (h : Q ((Builtin.Slice.sliceAdjust lo hi st (n : Int)).1, st, Builtin.Slice.slicePlaces (Builtin.Slice.sliceAdjust lo hi st (n : Int)).1 (Builtin.Slice.sliceAdjust lo hi st (n : Int)).2 st) s) : wpAny (model prog w) A (Builtin.Slice.sliceApplied (.ref sl) (pure (n : Int))) Q E s := by
  obtain ⟨os, hos, hcs, hds⟩ := id hs
  unfold Builtin.Slice.sliceApplied Builtin.Slice.sliceFields
  refine wpAny_bind (wpAny_bind (wpAny_field hos hds (x := vl) rfl (wpAny_bind (wpAny_field hos hds (x := vu) rfl (wpAny_bind (wpAny_field hos hds (x := vs) rfl (wpAny_pure ?_)))))))
  refine wpAny_bind (HT.slicePart_ ps ?_)
  show wpAny _ _ (if (st == 0) = true then _ else _) _ _ s
  rw [if_neg (by rw [h0]; exact Bool.false_ne_true)]
  exact wpAny_bind (HT.slicePart_ pl (wpAny_bind (HT.slicePart_ pu (wpAny_bind (wpAny_pure (wpAny_pure h))))))
def pickT (items : List Value) (lo hi : Option Int) (st : Int) : List Value := (List.range (Builtin.Slice.slicePlaces (Builtin.Slice.sliceAdjust lo hi st (items.length : Int)).1 (Builtin.Slice.sliceAdjust lo hi st (items.length : Int)).2 st)).filterMap fun (k : Nat) => items[((Builtin.Slice.sliceAdjust lo hi st (items.length : Int)).1 + (k : Int) * st).toNat]?
theorem getItem_tupS {t sl : Addr} {items : List Value} {vl vu vs : Value} {lo hi : Option Int} {st : Int} {Q : Value → Shared → Prop} (ht : IsTup s.heap t items.toArray) (hs : s.heap.IsSliceOf sl vl vu vs) (pl : IsPart vl lo) (pu : IsPart vu hi) (ps : IsPart vs (some st)) (h0 : (st == 0) = false) (h1 : (st == 1) = false)
    (hsz : (pickT items lo hi st).length ≤ sizeLine) (h : Q (.ref s.heap.objs.size) { s with heap := s.heap.push { cls := .type "tuple", data := .seq (pickT items lo hi st).toArray } }) : wpAny (model prog w) A (getItem (.ref t) (.ref sl)) Q E s := by
  have htake : sizeOk (.seq (pickT items lo hi st).toArray) := by
    show (pickT items lo hi st).toArray.size ≤ sizeLine
    rw [List.size_toArray]
    exact hsz
  obtain ⟨os, hos, hcs, hds⟩ := id hs
  have hTs : s.TypeIs (.ref sl) "slice" := ⟨os, hos, hcs⟩
  unfold getItem
  try with_reducible refine wpAny_holding ?_
  first | refine wpAny_bind (wpAny_pure ?_) | skip
  refine wpAny_bind (wpAny_sequenceKey ht.typeIs (by decide) ?_)
  refine wpAny_bind (wpAny_callSpecial?_slot (name := Str.ofString "__getitem__") ht.typeIs PyProof.Rows.slot_tuple_getitem
    (wpAny_call_entry PyProof.Rows.slot_tuple_getitem ht.typeIs entry_tuple_getitem ?_ (args_tuple_getitem _ _)))
  show wpAny _ _ (Builtin.Tuple.tupleItemsOf (.ref t) >>= _) _ _ s
  refine wpAny_bind (tupleItemsOf_ ht ?_)
  refine wpAny_bind (wpAny_typeOf hTs ?_)
  rw [if_pos (by decide)]
  rw [List.size_toArray]
  refine wpAny_bind (slApplied hs pl pu ps h0 ?_)
  dsimp only
  rw [if_neg (by rw [h1]; simp)]
  have e : (List.filterMap (fun (k : Nat) => items.toArray[((Builtin.Slice.sliceAdjust lo hi st (items.length : Int)).1 + (k : Int) * st).toNat]?) (List.range (Builtin.Slice.slicePlaces (Builtin.Slice.sliceAdjust lo hi st (items.length : Int)).1 (Builtin.Slice.sliceAdjust lo hi st (items.length : Int)).2 st))) = pickT items lo hi st := by
    unfold pickT
    simp
  rw [e]
  first
    | exact wpAny_bind (m := Builtin.Tuple.tupleExact _) (wpAny_newObj_type (wpAny_pure ⟨_, rfl, wpAny_pure h⟩) htake)
    | exact wpAny_bind (m := Builtin.Tuple.tupleExact _) (wpAny_newObj_type (wpAny_bind (wpAny_pure (wpAny_pure ⟨_, rfl, wpAny_pure h⟩))) htake)
    | exact wpAny_bind (wpAny_bind (m := Builtin.Tuple.tupleExact _) (wpAny_newObj_type (wpAny_pure (wpAny_pure ⟨_, rfl, wpAny_pure h⟩)) htake))
    | exact wpAny_bind (wpAny_bind (m := Builtin.Tuple.tupleExact _) (wpAny_newObj_type (wpAny_pure ⟨_, rfl, wpAny_pure h⟩) htake))
end
theorem pick_rev (items : List Value) : pickT items none none (-1) = items.reverse := by
  unfold pickT
  have e1 : Builtin.Slice.sliceAdjust none none (-1) (items.length : Int) = ((items.length : Int) - 1, -1) := rfl
  rw [e1]
  have e2 : Builtin.Slice.slicePlaces ((items.length : Int) - 1) (-1) (-1) = items.length := by
    unfold Builtin.Slice.slicePlaces
    simp only [show ¬ ((-1 : Int) > 0) by decide, if_false]
    split
    · rw [show (- -1 : Int) = 1 by decide, Int.ediv_one]
      omega
    · omega
  show List.filterMap (fun (k : Nat) => items[((items.length : Int) - 1 + (k : Int) * (-1)).toNat]?) (List.range (Builtin.Slice.slicePlaces ((items.length : Int) - 1) (-1) (-1))) = _
  rw [e2]
  apply List.ext_getElem?
  intro i
  have key : ∀ n : Nat, n ≤ items.length → List.filterMap (fun (k : Nat) => items[((items.length : Int) - 1 + (k : Int) * (-1)).toNat]?) (List.range n) = (items.reverse).take n := fun n => by
    induction n with
    | zero => intro _; simp
    | succ n ih =>
      intro hn
      rw [List.range_succ, List.filterMap_append, ih (by omega), List.take_add_one]
      congr 1
      have h1 : ((items.length : Int) - 1 + (n : Int) * (-1)).toNat = items.length - 1 - n := by omega
      simp only [List.filterMap_cons, List.filterMap_nil, h1]
      rw [List.getElem?_reverse (by omega)]
      cases items[items.length - 1 - n]? <;> rfl
  rw [key _ (Nat.le_refl _), List.take_of_length_le (by simp)]
theorem oddL_get {α : Type} : ∀ (xs : List α) (k : Nat), (oddL xs)[k]? = xs[2 * k + 1]?
  | [], k => by simp [oddL]
  | [_], k => by simp [oddL]
  | _ :: y :: r, 0 => by simp [oddL]
  | _ :: y :: r, k + 1 => by
    have := oddL_get r k
    rw [show 2 * (k + 1) + 1 = (2 * k + 1) + 1 + 1 by omega, List.getElem?_cons_succ, List.getElem?_cons_succ, ← this]
    rfl
theorem oddL_len {α : Type} : ∀ xs : List α, (oddL xs).length = xs.length / 2
  | [] => by simp [oddL]
  | [_] => by simp [oddL]
  | _ :: _ :: r => by
    simp only [oddL, List.length_cons, oddL_len r]
    omega
theorem pick_odd (items : List Value) : pickT items (some 1) none 2 = oddL items := by
  unfold pickT
  have e1 : Builtin.Slice.sliceAdjust (some 1) none 2 (items.length : Int) = (min 1 (items.length : Int), (items.length : Int)) := rfl
  rw [e1]
  have e2 : Builtin.Slice.slicePlaces (min 1 (items.length : Int)) (items.length : Int) 2 = items.length / 2 := by
    unfold Builtin.Slice.slicePlaces
    simp only [show ((2 : Int) > 0) by decide, if_true]
    split <;> omega
  show List.filterMap (fun (k : Nat) => items[(min 1 (items.length : Int) + (k : Int) * 2).toNat]?) (List.range (Builtin.Slice.slicePlaces (min 1 (items.length : Int)) (items.length : Int) 2)) = _
  rw [e2]
  have key : ∀ n : Nat, n ≤ items.length / 2 → List.filterMap (fun (k : Nat) => items[(min 1 (items.length : Int) + (k : Int) * 2).toNat]?) (List.range n) = (oddL items).take n := fun n => by
    induction n with
    | zero => intro _; simp
    | succ n ih =>
      intro hn
      rw [List.range_succ, List.filterMap_append, ih (by omega), List.take_add_one]
      congr 1
      have h1 : (min 1 (items.length : Int) + (n : Int) * 2).toNat = 2 * n + 1 := by omega
      simp only [List.filterMap_cons, List.filterMap_nil, h1, oddL_get]
      cases items[2 * n + 1]? <;> rfl
  rw [key _ (Nat.le_refl _), List.take_of_length_le (by rw [oddL_len]; exact Nat.le_refl _)]
theorem Dvs.odd {K : Fg} {F : Hp} : ∀ {vs : List V} {ds : List D}, Dvs K F vs ds → Dvs K F (oddL vs) (oddL ds)
  | _, _, .nil => .nil
  | _, _, .cons _ .nil => .nil
  | _, _, .cons _ (.cons b r) => .cons b r.odd
theorem valsOdd : ∀ {vs : List V} {us : List Value}, Vals vs us → Vals (oddL vs) (oddL us)
  | _, _, .nil => .nil
  | _, _, .cons _ .nil => .nil
  | _, _, .cons _ (.cons b r) => .cons b (valsOdd r)
/-- a tuple's slice with a step -/
theorem tupStep {e : Expr} {te : TE} {lo : Option Expr} {elo : Option Int} {st : Expr} {i : Int} {p3 : Pos} (f : ∀ {α : Type}, List α → List α) (he : PE X e te) (hlo : PO X lo (fun _ H Q => Q elo H)) (hst : PO X (some st) (fun _ H Q => Q (some i) H)) (h0 : (i == 0) = false) (h1 : (i == 1) = false)
    (hp : ∀ l : List Value, pickT l elo none i = f l) (hv : ∀ {vs : List V} {us : List Value}, Vals vs us → Vals (f vs) (f us)) (hl : ∀ l : List V, (f l).length ≤ l.length) :
    PE X (.Subscript e (.Slice lo none (some st) p3) pos) (fun σ H Q => te σ H fun x H1 => ∃ a xs, x = .ref a ∧ SqT X.K H1 a xs ∧ ∀ p, H1 p = none → Q (.ref p) (upd H1 p (.tup (f xs)))) := by
  refine ⟨fun pins s σ H Q I h => ?_⟩
  refine Subscript_ (thn (he.run pins s σ H _ I h) fun v s1 ⟨x, H1, I1, r1, q1⟩ => ?_)
  obtain ⟨a, xs, ex, hx, q⟩ := q1
  subst ex
  cases r1
  refine wpAny_Slice (thn (hlo.run pins s1 σ H1 (fun o H2 => o = elo ∧ H2 = H1) I1 ⟨rfl, rfl⟩) fun vl s2 ⟨l, H2, I2, pl, el, e2⟩ => ?_)
  subst el e2
  refine thn (po_none.run pins s2 σ H2 (fun o H3 => o = none ∧ H3 = H2) I2 ⟨rfl, rfl⟩) fun vu s3 ⟨u, H3, I3, pu, eu, e3⟩ => ?_
  subst eu e3
  refine thn (hst.run pins s3 σ H3 (fun o H4 => o = some i ∧ H4 = H3) I3 ⟨rfl, rfl⟩) fun vs s4 ⟨o, H4, I4, ps, eo, e4⟩ => ?_
  subst eo e4
  have I5 : Inv X pins σ H4 { s4 with heap := s4.heap.push { cls := .type "slice", data := .fields #[vl, vu, vs] } } := I4.kept (t' := s4.toks) fun b ob q => Heap.get?_push_of_some _ q
  obtain ⟨its, r, ht, hz⟩ := I5.tuple hx
  show wpAny (model X.prog X.w) X.A (subscriptTail e (.Slice lo none (some st) p3) (.ref a) (.ref s4.heap.objs.size)) (EP X pins σ Q) X.xe { s4 with heap := s4.heap.push { cls := .type "slice", data := .fields #[vl, vu, vs] } }
  have hv' := hv r
  have hll := hl xs
  have e5 := hv'.length
  refine tail_any (ops := [.ref a, .ref s4.heap.objs.size]) ht.typeIs (PyProof.Rows.slot_tuple_getitem.lookup) ?_ (by with_unfolding_all rfl)
  refine getItem_tupS ht (Heap.IsSliceOf.new _ vl vu vs) pl pu ps h0 h1 (by rw [hp]; omega) ?_
  rw [hp]
  refine ⟨.ref _, _, I5.laid (t' := s4.toks) (o := .tup (f xs)) (fun b ob q => Heap.get?_push_of_some _ q) (Nat.le_refl _) ?_, rfl, q _ (I5.hok.fresh (Nat.le_refl _))⟩
  exact ⟨by omega, _, hv', IsTup.new _ _⟩
theorem poC {e : Expr} {i : Int} (h : PE X e (tC (.int i))) : PO X (some e) (fun _ H Q => Q (some i) H) := poImp (po_some h) fun σ H Q q => ⟨i, rfl, q⟩
theorem sRev {k : Nat} {p1 p2 p3 : Pos} (ha : PE X a (tM c hx X.K W ma)) : PE X (.Subscript a (.Slice none none (some (.UnaryOp .USub (.Constant (.int 1) k p1) p2)) p3) pos) (tM c hx X.K W (.rev ma)) := by
  refine ⟨fun pins s σ H Q I ⟨ρ, F, rep, po⟩ => ?_⟩
  have po : Po W X.K σ F H ((evE c ma ρ).bind revD) _ := po
  have neg1 : PO X (some (.UnaryOp .USub (.Constant (.int 1) k p1) p2)) (fun _ H Q => Q (some (-1)) H) := poImp (po_some (pe_un un_neg pe_int)) fun σ H Q q => ⟨1, rfl, -1, rfl, q⟩
  cases qe : evE c ma ρ with
  | no => rw [qe] at po; exact po.elim
  | ex z =>
    rw [qe] at po
    refine (pe_revL ha).run pins s σ H Q I ⟨ρ, F, rep, ?_⟩
    rw [qe]
    exact po
  | ok d =>
    rw [qe] at po
    cases d with
    | list ds =>
      refine (pe_revL ha).run pins s σ H Q I ⟨ρ, F, rep, ?_⟩
      rw [qe]
      intro F1 H1 g1 v rv
      obtain ⟨l, xs, e2, r1, d1⟩ := rv.rs.list g1.s
      refine ⟨l, xs, e2, .inl r1, fun p hp => ?_⟩
      exact po _ _ (g1.trans (Gr.new g1.s hp)) _ (Rm.of (.lst (.inl upd_same) (d1.reverse.mono (Gr.new g1.s hp).f)))
    | tuple ds =>
      refine (tupStep (pos := pos) (fun l => l.reverse) ha po_none neg1 rfl rfl pick_rev (fun h => h.reverse) (fun l => by simp)).run pins s σ H Q I ⟨ρ, F, rep, ?_⟩
      rw [qe]
      intro F1 H1 g1 v rv
      obtain ⟨l, xs, e2, r1, d1⟩ := rv.rs.tuple g1.s
      refine ⟨l, xs, e2, r1, fun p hp => ?_⟩
      exact po _ _ (g1.trans (Gr.new g1.s hp)) _ (Rm.of (.tup (.inl (.inl upd_same)) (d1.reverse.mono (Gr.new g1.s hp).f)))
    | _ => exact po.elim
theorem sOdd {k k2 : Nat} {p1 p2 p3 : Pos} (ha : PE X a (tM c hx X.K W ma)) : PE X (.Subscript a (.Slice (some (.Constant (.int 1) k p1)) none (some (.Constant (.int 2) k2 p2)) p3) pos) (tM c hx X.K W (.odds ma)) := by
  refine peImp (tupStep (pos := pos) (fun l => oddL l) ha (poC pe_int) (poC pe_int) rfl rfl pick_odd valsOdd (fun l => by rw [oddL_len]; omega)) fun σ H Q ⟨ρ, F, rep, po⟩ => ?_
  have po : Po W X.K σ F H ((evE c ma ρ).bind oddD) _ := po
  refine ⟨ρ, F, rep, po.bind.imp fun d F1 H1 _ g1 po v rv => ?_⟩
  unfold oddD at po
  split at po
  · obtain ⟨l, xs, e2, r1, d1⟩ := rv.rs.tuple g1.s
    refine ⟨l, xs, e2, r1, fun p hp => ?_⟩
    exact po _ _ (Gr.new g1.s hp) _ (Rm.of (.tup (.inl (.inl upd_same)) (d1.odd.mono (Gr.new g1.s hp).f)))
  · exact po.elim
end
end Wq

end
section
set_option Elab.async false
set_option linter.all false
set_option autoImplicit false
set_option maxRecDepth 100000
/-! Sorting by insertion is the machine's sorting. -/
namespace Wq
open PySem PySem.Spec PyProof.Rows L2 PySem.W
section
variable {α : Type} {le le' : α → α → Bool}
def insG (le : α → α → Bool) (x : α) : List α → List α
  | [] => [x]
  | y :: ys => if le x y then x :: y :: ys else y :: insG le x ys
def isortG (le : α → α → Bool) : List α → List α
  | [] => []
  | x :: xs => insG le x (isortG le xs)
theorem insG_mem {x a : α} : ∀ {l : List α}, a ∈ insG le x l → a = x ∨ a ∈ l
  | [], h => by simpa [insG] using h
  | y :: ys, h => by
    unfold insG at h
    split at h
    · simpa using h
    · rcases List.mem_cons.mp h with h | h
      · exact .inr (by simp [h])
      · rcases insG_mem h with h | h
        · exact .inl h
        · exact .inr (by simp [h])
theorem isortG_mem {a : α} : ∀ {l : List α}, a ∈ isortG le l → a ∈ l
  | [], h => by simp [isortG] at h
  | x :: xs, h => by
    rcases insG_mem (show a ∈ insG le x (isortG le xs) from h) with h | h
    · simp [h]
    · simp [isortG_mem h]
theorem insG_perm (x : α) : ∀ l : List α, (insG le x l).Perm (x :: l)
  | [] => .refl _
  | y :: ys => by
    unfold insG
    split
    · exact .refl _
    · exact ((insG_perm x ys).cons y).trans (.swap x y ys)
theorem isortG_perm : ∀ l : List α, (isortG le l).Perm l
  | [] => .refl _
  | x :: xs => (insG_perm x _).trans ((isortG_perm xs).cons x)
theorem insG_congr {x : α} : ∀ {l : List α}, (∀ a ∈ l, le x a = le' x a) → insG le x l = insG le' x l
  | [], _ => rfl
  | y :: ys, h => by
    unfold insG
    rw [h y (by simp), insG_congr fun a ha => h a (by simp [ha])]
theorem isortG_congr : ∀ {l : List α}, (∀ a ∈ l, ∀ b ∈ l, le a b = le' a b) → isortG le l = isortG le' l
  | [], _ => rfl
  | x :: xs, h => by
    show insG le x (isortG le xs) = insG le' x (isortG le' xs)
    rw [isortG_congr fun a ha b hb => h a (by simp [ha]) b (by simp [hb])]
    exact insG_congr fun a ha => h x (by simp) a (by simp [isortG_mem ha])
theorem insG_sorted (T : TotalLe le) (x : α) : ∀ {l : List α}, l.Pairwise (fun a b => le a b = true) → (insG le x l).Pairwise (fun a b => le a b = true)
  | [], _ => by simp [insG]
  | y :: ys, h => by
    unfold insG
    obtain ⟨h1, h2⟩ := List.pairwise_cons.mp h
    split
    · rename_i hl
      refine List.pairwise_cons.mpr ⟨fun a ha => ?_, h⟩
      rcases List.mem_cons.mp ha with rfl | ha
      · exact hl
      · exact T.trans _ _ _ hl (h1 a ha)
    · rename_i hl
      refine List.pairwise_cons.mpr ⟨fun a ha => ?_, insG_sorted T x h2⟩
      rcases insG_mem ha with rfl | ha
      · rcases T.total y a with z | z
        · exact z
        · exact absurd z hl
      · exact h1 a ha
theorem isortG_sorted (T : TotalLe le) : ∀ l : List α, (isortG le l).Pairwise (fun a b => le a b = true)
  | [] => .nil
  | x :: xs => insG_sorted T x (isortG_sorted T xs)
theorem insG_stable (T : TotalLe le) (c x : α) : ∀ l : List α, (insG le x l).filter (sameRank le c) = (x :: l).filter (sameRank le c)
  | [] => rfl
  | y :: ys => by
    unfold insG
    split
    · rfl
    · rename_i hl
      have ih := insG_stable T c x ys
      cases hx : sameRank le c x with
      | true =>
        cases hy : sameRank le c y with
        | true =>
          exfalso
          unfold sameRank at hx hy
          obtain ⟨a1, a2⟩ := Bool.and_eq_true_iff.mp hx
          obtain ⟨b1, b2⟩ := Bool.and_eq_true_iff.mp hy
          exact hl (T.trans _ _ _ a2 b1)
        | false =>
          simp only [List.filter_cons, hx, hy, ih]
          simp
      | false =>
        simp only [List.filter_cons, hx, ih]
        simp
theorem isortG_stable (T : TotalLe le) (c : α) : ∀ l : List α, (isortG le l).filter (sameRank le c) = l.filter (sameRank le c)
  | [] => rfl
  | x :: xs => by
    show (insG le x (isortG le xs)).filter _ = _
    rw [insG_stable T]
    simp only [List.filter_cons, isortG_stable T c xs]
theorem isortG_merge (T : TotalLe le) (l : List α) : isortG le l = l.mergeSort le := sort_unique T (isortG_sorted T l) fun c => isortG_stable T c l
end
theorem ins_G (x : D) : ∀ l : List D, ins x l = insG (fun a b => !ltB b a) x l
  | [] => rfl
  | y :: ys => by
    unfold ins insG
    rw [ins_G x ys]
    cases ltB y x <;> rfl
theorem isort_G : ∀ l : List D, isort l = isortG (fun a b => !ltB b a) l
  | [] => rfl
  | x :: xs => by
    show ins x (isort xs) = insG _ x (isortG _ xs)
    rw [isort_G xs, ins_G]
theorem isort_merge {l : List D} (h : ∀ a ∈ l, ∀ b ∈ l, alike a b = true) : isort l = l.mergeSort (dataLe false id) := by
  rw [isort_G, ← isortG_merge (le := dataLe false id) (sortLe_total _ _ _)]
  exact isortG_congr fun a ha b hb => by
    show (!ltB b a) = !dataLt b a
    rw [ltB_data b a (h b hb a ha)]
theorem cmpl_iff {xs : List D} (h : cmpl xs = true) : (∀ a ∈ xs, shp a = true ∧ notN a = true) ∧ ∀ a ∈ xs, ∀ b ∈ xs, alike a b = true := by
  unfold cmpl at h
  rw [List.all_eq_true] at h
  refine ⟨fun a ha => ?_, fun a ha b hb => ?_⟩
  · have := h a ha
    simp only [Bool.and_eq_true] at this
    exact this.1
  · have := h a ha
    simp only [Bool.and_eq_true] at this
    exact List.all_eq_true.mp this.2 b hb
end Wq

end
section
set_option Elab.async false
set_option linter.all false
set_option autoImplicit false
set_option maxRecDepth 100000
/-! Sorting tuples, empty ones among them. -/
namespace Wq
open PySem PySem.Spec PyProof.Rows L2 PySem.W PySem.SeqAt
section
variable {prog : Program} {w : World} {A : Around} {E : Value → Shared → Prop} {s : Shared}
theorem call_tuple_ltE {Q : Value → Shared → Prop} {l b : Addr} {items items2 : Array Value} {e r : Nat → Bool} (hl : s.heap.IsTuple l items) (hb : s.heap.IsTuple b items2)
    (he : ∀ j (h1 : j < items.size) (h2 : j < items2.size), EqAt A.in1 s items[j] items2[j] (e j)) (hr : ∀ j (h1 : j < items.size) (h2 : j < items2.size), e j = false → RcLt A.in1 s items[j] items2[j] (r j))
    (h : Q (.bool (firstLt e r (decide (items.size < items2.size)) (List.range (min items.size items2.size)))) s) : wpAny (model prog w) A (call (.builtin "tuple.__lt__") [.ref l, .ref b]) Q E s := by
  obtain ⟨⟨cls, dd, data, sl⟩, ho, hc, n, hd⟩ := id hl
  obtain ⟨⟨cls2, dd2, data2, sl2⟩, ho2, hc2, n2, hd2⟩ := id hb
  simp only at hc hd hc2 hd2
  subst hc hd hc2 hd2
  exact call_meets PySem.F.slot_tuple_lt ⟨_, ho, rfl⟩ PySem.F.entry_tuple_lt (PySem.F.args_tuple_lt_2 _ _) (PySem.SeqAt.tuple_ltAt l b items items2 n n2 dd dd2 sl sl2 e r) ⟨ho, ho2, he, hr, h⟩
theorem oneLt_tupE {xs ys : List D} {a b : Value} {as bs : List Addr} {Q : Bool → Shared → Prop} (ra : Reads s.heap a (.tuple xs) as) (rb : Reads s.heap b (.tuple ys) bs) (hal : alikeAll xs ys = true)
    (hu : A.units + min (PyData.tuple xs).depth (PyData.tuple ys).depth < cLine) (hq : Q (dataLt (.tuple xs) (.tuple ys)) s) : wpAny (model prog w) A (oneLt' true a b) Q E s := by
  cases ra with
  | @tuple l o vs n _ as₁ h1 h2 h3 h4 =>
    cases rb with
    | @tuple l' o' vs' n' _ bs₁ k1 k2 k3 k4 =>
      have n1 : vs.size = xs.length := by simpa using ReadsAll.length _ _ _ h4
      have n2 : vs'.size = ys.length := by simpa using ReadsAll.length _ _ _ k4
      rw [dataLt_tuple, ← firstLt_toks xs ys hal, ← n1, ← n2] at hq
      rw [oneLt'_eq]
      simp only [if_true]
      refine wpAny_bind (wpAny_cRoomFor (room_here hu) ?_)
      refine wpAny_bind (wpAny_callSpecialIfBound?_slot (T := "tuple") ⟨_, h1, h2⟩ PySem.F.slot_tuple_lt (call_tuple_ltE (e := pairEq xs ys) (r := fun j => dataLt (xs.getD j .none) (ys.getD j .none)) ⟨_, h1, h2, _, h3⟩ ⟨_, k1, k2, _, k3⟩ (fun j j1 j2 => ?_) (fun j j1 j2 hj => ?_) ?_))
      · have := eqAt_alikeAll xs ys A.in1 s vs.toList vs'.toList _ _ h4 k4 hal (room_in hu) j (by simpa using j1) (by simpa using j2)
        simpa using this
      · have := rcLt_alikeAll xs ys A.in1 s vs.toList vs'.toList _ _ h4 k4 hal (room_in hu) j (by simpa using j1) (by simpa using j2) hj
        simpa using this
      · exact wpAny_truthy_bool hq
/-- the first items, where there are any -/
theorem firsts_any {M : Model} : ∀ {vs : List Value} {ds : List D} {Q : List (Option Value) → Shared → Prop}, EachIs (fun v d => ∃ as, Reads s.heap v d as) vs ds → (∀ d ∈ ds, isTup d = true) → (∀ fs : List (Option Value), fs.map (·.isSome) = ds.map tupNe → Q fs s) → wpAny M A (vs.mapM firstOfTuple') Q E s
  | _, _, Q, .nil, _, h => by
    rw [List.mapM_nil]
    exact wpAny_pure (h [] rfl)
  | _, _, Q, .cons (b := d) ⟨as, r⟩ t, ht, h => by
    have hd := ht d (by simp)
    cases d with
    | tuple xs =>
      cases r with
      | @tuple a o vs n _ _ ho hc hd hr =>
        rw [List.mapM_cons]
        refine wpAny_bind ?_
        rw [kas_first_eq]
        refine wpAny_bind (Looks.here (show Looks M s.heap (typeOf (.ref a)) o.cls from (Looks.ld ho).andThen .now) ?_)
        rw [hc, if_neg (by first | decide | simp)]
        refine wpAny_bind (listItems_at ho hd (wpAny_pure ?_))
        refine wpAny_bind (firsts_any (Q := fun bs s' => wpAny M A (pure (vs[0]? :: bs)) Q E s') t (fun d hd => ht d (by simp [hd])) fun fs hfs => wpAny_pure (h _ ?_))
        rw [List.map_cons, List.map_cons, hfs]
        congr 1
        cases xs with
        | nil =>
          have : vs.toList = [] := by
            generalize vs.toList = l at hr
            cases hr
            rfl
          have : vs = #[] := by simpa using this
          subst this
          rfl
        | cons x xs =>
          have : ∃ y ys, vs.toList = y :: ys := by
            generalize vs.toList = l at hr
            cases hr
            exact ⟨_, _, rfl⟩
          obtain ⟨y, ys, e⟩ := this
          rw [← Array.getElem?_toList, e]
          rfl
    | _ => cases hd
theorem isTup_ex {d : D} (h : isTup d = true) : ∃ xs, d = .tuple xs := by
  cases d with
  | tuple xs => exact ⟨xs, rfl⟩
  | _ => cases h
theorem tupNe_ex {d : D} (h : tupNe d = true) : ∃ x r, d = .tuple (x :: r) := by
  unfold tupNe at h
  split at h
  · exact ⟨_, _, rfl⟩
  · cases h
theorem sortsTups {vs : List Value} {ds : List D} (e : EachIs (fun v d => ∃ as, Reads s.heap v d as) vs ds) (hal : AllAlike ds) (ht : ∀ d ∈ ds, isTup d = true) (hu : ∀ d, d ∈ ds → A.units + d.depth < cLine) : SortsAt prog w A s (dataKind s.heap ds) vs := by
  by_cases hne : ds.all tupNe = true
  · exact SortsAt.data e hal (.inl fun d hd => tupNe_ex (List.all_eq_true.mp hne d hd)) hu
  · have room : ∀ {d d' : D}, d ∈ ds → A.units + min d.depth d'.depth < cLine := fun {d d'} hd => Nat.lt_of_le_of_lt (Nat.add_le_add_left (Nat.min_le_left _ _) _) (hu d hd)
    refine ⟨fun v hv => ?_, if ((ds.map tupNe)[0]?).getD false = true then general' else oneType', ?_, fun h2 E' Q hq => ?_⟩
    · obtain ⟨d, hd, as, r⟩ := e.left v hv
      exact ⟨_, dataKind_some hal hd r⟩
    · intro E x y a b Q ha hb hq
      obtain ⟨d, as, hd, ra, rfl⟩ := dataKind_inv ha
      obtain ⟨d', as', hd', rb, rfl⟩ := dataKind_inv hb
      have hdd := hal d hd d' hd'
      have hroom := room (d' := d') hd
      obtain ⟨xs, rfl⟩ := isTup_ex (ht d hd)
      obtain ⟨ys, rfl⟩ := isTup_ex (ht d' hd')
      split
      · exact oneLt_alike (f := false) (fun z => by cases z) ra rb hdd (fun z => by cases z) hroom hq
      · rw [keyLt'_oneType]
        exact oneLt_tupE ra rb (by simpa [alike] using hdd) hroom hq
    · rw [kat_kind_eq, List.mapM_toArray, map_eq_pure_bind]
      refine wpAny_bind (wpAny_bind (firsts_any e ht fun fs hfs => wpAny_pure ?_))
      have hall : ¬ (fs.toArray.all fun x => x.isSome) = true := by
        intro z
        apply hne
        have z : (fs.map (·.isSome)).all id = true := by simpa [List.all_map, Function.comp] using z
        rw [hfs] at z
        simpa [List.all_map, Function.comp] using z
      rw [if_neg hall]
      have h0 : ((fs.toArray[0]?).bind id).isSome = ((ds.map tupNe)[0]?).getD false := by
        rw [← hfs]
        cases fs with
        | nil => rfl
        | cons f fs => cases f <;> simp
      rw [h0]
      by_cases hg : ((ds.map tupNe)[0]?).getD false = true
      · rw [if_pos hg] at hq ⊢
        exact wpAny_pure hq
      · rw [if_neg hg] at hq ⊢
        rw [oneTypeOnly'_eq, List.mapM_toArray, map_eq_pure_bind]
        refine wpAny_bind (wpAny_bind (wpAny_bind (kas_mapM (r := Value.type "tuple") _ (fun v hv Q' hq' => ?_) (wpAny_pure ?_))))
        · obtain ⟨d, hd, as, r⟩ := e.left v hv
          obtain ⟨xs, rfl⟩ := isTup_ex (ht d hd)
          exact (looks_reads r).here hq'
        · obtain ⟨v₁, rest, rfl⟩ : ∃ v₁ rest, vs = v₁ :: rest := by
            cases vs with
            | nil => simp at h2
            | cons v r => exact ⟨v, r, rfl⟩
          have hall : ((List.map (fun _ => Value.type "tuple") (v₁ :: rest)).toArray.all fun x => x == Value.type "tuple") = true := by
            simp only [List.all_toArray, List.all_map, List.all_eq_true]
            intro _ _
            exact beq_self_eq_true _
          have h0 : (List.map (fun _ => Value.type "tuple") (v₁ :: rest)).toArray[0]? = some (Value.type "tuple") := by simp
          rw [h0]
          simp only [hall, if_true]
          exact wpAny_pure (wpAny_pure hq)
/-- all that is alike can be sorted -/
theorem sortsAll {vs : List Value} {ds : List D} (e : EachIs (fun v d => ∃ as, Reads s.heap v d as) vs ds) (hal : AllAlike ds) (hn : ∀ d ∈ ds, notN d = true) (hu : ∀ d, d ∈ ds → A.units + d.depth < cLine) : SortsAt prog w A s (dataKind s.heap ds) vs := by
  by_cases ht : ∃ d ∈ ds, isTup d = true
  · obtain ⟨d0, h0, h1⟩ := ht
    refine sortsTups e hal (fun d hd => ?_) hu
    obtain ⟨xs, rfl⟩ := isTup_ex h1
    have := hal d hd _ h0
    cases d with
    | tuple _ => rfl
    | _ => simp [alike] at this
  · refine SortsAt.data e hal (.inr fun d hd => ⟨fun z => ?_, fun xs z => ht ⟨d, hd, by rw [z]; rfl⟩⟩) hu
    have := hn d hd
    rw [z] at this
    cases this
theorem collect_tupE {l : Addr} {vs : List Value} {Q : List Value → Shared → Prop} (hl : s.heap.IsTuple l vs.toArray)
    (h : Q vs { s with heap := (s.heap.push (seqObj "list" #[] 0)).update s.heap.objs.size (Obj.mapSeq (· ++ vs.toArray)) }) (hsz : vs.length ≤ sizeLine) :
    wpAny (model prog w) A (collect (.ref l)) Q E s := by
  obtain ⟨o, ho, hc, n, hd⟩ := id hl
  unfold collect
  refine wpAny_bind (wpAny_runValue (codeAny_builtin entry_proto_collect' ?_))
  show wpAny _ _ (do again (.builtin "list.__iadd__" ⟨[← newList [], .ref l], []⟩)) _ _ s
  refine wpAny_bind (wpAny_newList (wpAny_pure ⟨Code.quiet_builtin _ (by decide +kernel), codeAny_builtin entry_list_iadd' ?_⟩))
  show wpAny _ _ (Builtin.List.listExtendWith (.ref s.heap.objs.size) (.ref l) (.ref s.heap.objs.size)) _ _ { s with heap := s.heap.push (seqObj "list" #[] 0) }
  unfold Builtin.List.listExtendWith
  have ho' : (s.heap.push (seqObj "list" #[] 0)).get? l = some o := Heap.get?_push_of_some _ ho
  refine wpAny_bind (wpAny_typeOf (T := "tuple") ⟨o, ho', hc⟩ ?_)
  have ht : (Value.type "tuple" == Value.type "tuple") = true := by rfl
  rw [if_pos (by rw [ht]; simp)]
  refine wpAny_bind (listItems_at ho' hd ?_)
  refine wpAny_bind (listItems_at (xs := #[]) (n := 0) (Heap.get?_push_size _ rfl) rfl ?_)
  rw [if_neg (by simp)]
  refine wpAny_bind (listUpdate_at (xs := #[]) (n := 0) (Heap.get?_push_size _ rfl) rfl ?_ (Nat.zero_le _) (by show (#[] ++ vs.toArray).size ≤ sizeLine + 1; simp only [Array.size_append, List.size_toArray, List.length_nil]; omega))
  refine wpAny_pure ?_
  show wpAny (model prog w) A (do
      let o ← load s.heap.objs.size
      match o.data with
      | .seq xs _ => pure xs.toList
      | _ => unsupported "internal:collect") Q E { s with heap := (s.heap.push (seqObj "list" #[] 0)).update s.heap.objs.size (Obj.mapSeq (· ++ vs.toArray)) }
  refine wpAny_bind (wpAny_load (get?_update_seq (Heap.get?_push_size _ rfl) _) ?_)
  show wpAny _ _ (pure ((#[] : Array Value) ++ vs.toArray).toList) Q E _
  rw [show ((#[] : Array Value) ++ vs.toArray).toList = vs by simp]
  exact wpAny_pure h
theorem sorted_of_sortT {l : Addr} {vs : List Value} {kw : List (Str × Value)} {Q : Value → Shared → Prop} (hl : s.heap.IsTuple l vs.toArray) (hL : vs.length ≤ sizeLine) (ha1 : argsOk "sorted" ⟨[.ref l], kw⟩) (ha2 : ∀ x, argsOk "list.sort" ⟨[.ref x], kw⟩)
    (body : ∀ E' : Value → Shared → Prop, wpAny (model prog w) A.in1.in1 (Builtin.«list.sort» ⟨[.ref (s.heap.objs.size + 1)], kw⟩) (fun f s' => f = .done (.ret .none) ∧ Q (.ref (s.heap.objs.size + 1)) s') E' { s with heap := copyHeap s.heap vs }) :
    wpAny (model prog w) A (call (.builtin "sorted") [.ref l] kw) Q E s := by
  refine call_function_entry_kw kind_sorted plain_sorted entry_sorted ha1 ?_
  unfold Builtin.«sorted»
  refine wpAny_bind (m := checkCount "sorted" 1 1 _) (wpAny_pure ?_)
  refine wpAny_bind (collect_tupE hl ?_ hL)
  refine wpAny_bind (wpAny_newList ?_ hL)
  have hsz : ((s.heap.push (seqObj "list" #[] 0)).update s.heap.objs.size (Obj.mapSeq (· ++ vs.toArray))).objs.size = s.heap.objs.size + 1 := by
    rw [Heap.size_update, size_push']
  show wpAny _ _ _ _ _ { s with heap := copyHeap s.heap vs }
  rw [hsz]
  refine wpAny_bind (wpAny_holding (wpAny_call_entry_kw slot_list_sort ⟨_, copyHeap_at s.heap vs, rfl⟩ entry_list_sort ?body (ha2 _)))
  case body =>
    show wpAny (model prog w) A.in1.in1 (Builtin.«list.sort» ⟨[.ref (s.heap.objs.size + 1)], kw⟩) _ _ _
    refine wpAny_mono (body _) (fun f s' hf => ?_) fun _ _ e => e
    obtain ⟨rfl, hq⟩ := hf
    exact ⟨_, rfl, wpAny_pure ⟨_, rfl, hq⟩⟩
theorem sorted_dataE {β : Type} {vs : List Value} {bs : List β} {enc : β → D} {R : Value → β → Prop} {l : Addr} {Q : Value → Shared → Prop} (hl : s.heap.IsList l vs.toArray ∨ s.heap.IsTuple l vs.toArray) (e : EachIs R vs bs) (er : EachIs (fun v b => ∃ as, Reads s.heap v (enc b) as) vs bs) (hal : AllAlike (bs.map enc)) (hn : ∀ d ∈ bs.map enc, notN d = true) (hL : bs.length ≤ sizeLine)
    (hu : ∀ b, b ∈ bs → A.units + 2 + (enc b).depth < cLine) (h : ∀ out, out.length = bs.length → EachIs R out (bs.mergeSort (dataLe false enc)) → Q (.ref (s.heap.objs.size + 1)) { s with heap := sortedAll s.heap vs (List.toArray out) }) :
    wpAny (model prog w) A (call (.builtin "sorted") [.ref l]) Q E s := by
  have er' : EachIs (fun v b => ∃ as, Reads (sortingHeap (copyHeap s.heap vs) (s.heap.objs.size + 1) vs) v (enc b) as) vs bs := er.mono fun _ _ ⟨as, r⟩ => ⟨as, PyProof.Rows.Reads.keeps (fun _ _ => sorting_copy_old) r⟩
  have S := sortsAll (prog := prog) (w := w) (A := A.in1.in1) (s := { s with heap := sortingHeap (copyHeap s.heap vs) (s.heap.objs.size + 1) vs }) (each_map (R := fun v d => ∃ as, Reads (sortingHeap (copyHeap s.heap vs) (s.heap.objs.size + 1) vs) v d as) enc er') hal hn (bound_map hu)
  have hL' : vs.length ≤ sizeLine := by rw [e.length]; exact hL
  have hh := h _ (by rw [sortVals_length false rfl]; exact e.length) (sortVals_data false e er' hal)
  rcases hl with hl | hl
  · exact sorted_vals hl S hL' hh
  · exact sorted_of_sortT hl hL' (args_sorted1 _) (fun _ => args_list_sort _) fun _ => list_sort_vals (s := { s with heap := copyHeap s.heap vs }) (copyHeap_at s.heap vs) S hL' ⟨rfl, hh⟩
theorem list_sort_dataE {β : Type} {vs : List Value} {bs : List β} {enc : β → D} {R : Value → β → Prop} {a : Addr} {n : Nat} {Q : Value → Shared → Prop} (ho : s.heap.get? a = some (seqObj "list" vs.toArray n)) (e : EachIs R vs bs) (er : EachIs (fun v b => ∃ as, Reads s.heap v (enc b) as ∧ a ∉ as) vs bs) (hal : AllAlike (bs.map enc)) (hn : ∀ d ∈ bs.map enc, notN d = true) (hL : bs.length ≤ sizeLine)
    (hu : ∀ b, b ∈ bs → A.units + 1 + (enc b).depth < cLine) (h : ∀ out, out.length = bs.length → EachIs R out (bs.mergeSort (dataLe false enc)) → Q .none { s with heap := sortedHeap s.heap a vs (List.toArray out) }) :
    wpAny (model prog w) A (call (.builtin "list.sort") [.ref a]) Q E s := by
  have er' : EachIs (fun v b => ∃ as, Reads (sortingHeap s.heap a vs) v (enc b) as) vs bs := each_keepBut (h' := sortingHeap s.heap a vs) (fun _ _ hb q => sortingHeap_old hb q) (fun o q => by rw [ho] at q; rw [← Option.some.inj q]) hal er
  have S := sortsAll (prog := prog) (w := w) (A := A.in1) (s := { s with heap := sortingHeap s.heap a vs }) (each_map (R := fun v d => ∃ as, Reads (sortingHeap s.heap a vs) v d as) enc er') hal hn (bound_map hu)
  exact wpAny_call_entry slot_list_sort ⟨_, ho, rfl⟩ entry_list_sort (list_sort_vals (κ := dataKind (sortingHeap s.heap a vs) (bs.map enc)) ho S (by rw [e.length]; exact hL) ⟨.none, rfl, h _ (by rw [sortVals_length false rfl]; exact e.length) (sortVals_data false e er' hal)⟩) (args_list_sort _)
end
end Wq

end
section
set_option Elab.async false
set_option linter.all false
set_option autoImplicit false
set_option maxRecDepth 100000
/-! Calls: of defs, of what is built in. -/
namespace Wq
open PySem PySem.Spec PyProof.Rows L2
section
variable {c : Cv} {Γ : Cfg} {hx : HX} {X : Cx} {W : WX} {σ₀ : St}
variable {a b e : Expr} {ma mb me : ME} {pos : Pos}
theorem chkEs_any {env : Env} : ∀ {ms : MEs} {es : List Expr}, chkEs Γ ms es = true → (backTo pos (starEach es env)).any (·.1) = false
  | .nil, [], _ => rfl
  | .nil, _ :: _, h => by simp [chkEs] at h
  | .cons _ _, [], h => by simp [chkEs] at h
  | .cons m ms, e :: es, h => by
    simp only [chkEs, Bool.and_eq_true] at h
    rw [nst_star h.1.1]
    have ih := chkEs_any (env := env) h.2
    unfold backTo at ih ⊢
    rw [List.map_cons, List.any_cons, ih]
    rfl
theorem chkEs_star {env : Env} {ms : MEs} {es : List Expr} (h : chkEs Γ ms (e :: es) = true) : starEach (e :: es) env = (false, eval e env) :: starEach es env ∧ (backTo pos (starEach es env)).any (·.1) = false := by
  cases ms with
  | nil => simp [chkEs] at h
  | cons m ms =>
    simp only [chkEs, Bool.and_eq_true] at h
    exact ⟨nst_star h.1.1, chkEs_any h.2⟩
theorem sCall {f : Str} {es : List Expr} {ms : MEs} {p : Pos} (O : Ok c Γ hx X W) (hh : Γ.hot = false) (hf : okG Γ f Γ.fs = true) (hs : sfs ms = true) (hk : chkEs Γ ms (e :: es) = true) (ha : PA X (e :: es) (tMs c hx X.K W ms)) : PE X (.Call (.Name f p) (e :: es) [] pos) (tM c hx X.K W (.call f ms)) := by
  obtain ⟨h1, h2, h3, h4⟩ := okG_iff O hf
  obtain ⟨k, ad, fd, ps, room, hm, kp, bd, F⟩ := O.calls hh f h4
  obtain ⟨s1, s2⟩ := chkEs_star (env := X.env) (pos := pos) hk
  refine peImp (pe_callS F room h1 hm kp bd (fun σ => L2N.passAt O.tk σ) ha h2 s1 s2) fun σ H Q ⟨ρ, F, rep, po⟩ => ?_
  have po : Po W X.K σ F H ((evEs c ms ρ).bind fun ds => c.cal f ds) _ := po
  refine ⟨ρ, F, rep, po.bind.imp fun ds F1 H1 _ g1 po vs rvs => ?_⟩
  refine ⟨F1, ds, g1.s, rvs.dvs hs, ?_⟩
  cases q : c.cal f ds with
  | ok d =>
    rw [q] at po
    exact fun F2 H2 g v dv => po F2 H2 g v (Rm.of dv)
  | ex k =>
    rw [q] at po
    exact po
  | no =>
    rw [q] at po
    exact po.elim
/-! ### what is built in -/
def rBi (W : WX) (K : Fg) (σ₀ : St) (b : BI) : List V → Hp → VK → Prop := fun xs H Q => ∃ F ds, Same F H ∧ Paired (Rs K F H) xs ds ∧ Po W K σ₀ F H (biD b ds) fun r F' H' => ∀ v, Dv K F' v r → Q v H'
def biV : BI → Value
  | .len => .builtin "len" | .all => .builtin "all" | .sorted => .builtin "sorted" | .list => .type "list" | .tuple => .type "tuple" | .int => .type "int" | .str => .type "str"
  | .min1 => .builtin "min" | .max1 => .builtin "max" | .min2 => .builtin "min" | .max2 => .builtin "max"
theorem paired1 {α β : Type} {R : α → β → Prop} {xs : List α} {d : β} (h : Paired R xs [d]) : ∃ x, xs = [x] ∧ R x d := by
  cases h with
  | cons a r =>
    cases r
    exact ⟨_, rfl, a⟩
theorem paired2 {α β : Type} {R : α → β → Prop} {xs : List α} {d e : β} (h : Paired R xs [d, e]) : ∃ x y, xs = [x, y] ∧ R x d ∧ R y e := by
  cases h with
  | cons a r =>
    obtain ⟨y, rfl, r2⟩ := paired1 r
    exact ⟨_, _, rfl, a, r2⟩
theorem allB_vals {K : Fg} {F : Hp} : ∀ {vs : List V} {ds : List D} {b : Bool}, Dvs K F vs ds → allB ds = some b → ∃ bs : List Bool, vs = bs.map V.bl ∧ bs.all id = b
  | _, _, b, .nil, e => ⟨[], rfl, by simpa [allB] using e⟩
  | _, _, b, .cons (d := d) (ds := ds) a r, e => by
    cases d with
    | bool k =>
      cases a
      simp only [allB, Option.map_eq_some_iff] at e
      obtain ⟨b', e1, e2⟩ := e
      obtain ⟨bs, h1, h2⟩ := allB_vals r e1
      exact ⟨k :: bs, by rw [h1]; rfl, by rw [← e2, ← h2]; rfl⟩
    | _ => simp [allB] at e
theorem zip_dvs {K : Fg} {F : Hp} : ∀ {vs : List V} {ds : List D}, Dvs K F vs ds → (vs.zip ds).map (·.1) = vs ∧ (vs.zip ds).map (·.2) = ds ∧ ∀ p ∈ vs.zip ds, Dv K F p.1 p.2
  | _, _, .nil => ⟨rfl, rfl, fun _ h => by cases h⟩
  | _, _, .cons a r => by
    obtain ⟨h1, h2, h3⟩ := zip_dvs r
    refine ⟨by simp [h1], by simp [h2], fun p hp => ?_⟩
    rcases List.mem_cons.mp hp with rfl | hp
    · exact a
    · exact h3 p hp
theorem dvs_of {K : Fg} {F : Hp} : ∀ {l : List (V × D)}, (∀ p ∈ l, Dv K F p.1 p.2) → Dvs K F (l.map (·.1)) (l.map (·.2))
  | [], _ => .nil
  | p :: l, h => .cons (h p (by simp)) (dvs_of fun q hq => h q (by simp [hq]))
theorem each_zip {K : Fg} {F : Hp} {pins : List (Addr × Obj)} {σ : St} {H : Hp} {s : Shared} (sm : Same F H) (I : Inv X pins σ H s) : ∀ {vs : List V} {ds : List D} {us : List Value}, Dvs X.K F vs ds → Vals vs us →
    PySem.W.EachIs (fun (u : Value) (p : V × D) => RelV p.1 u) us (vs.zip ds) ∧ PySem.W.EachIs (fun (u : Value) (p : V × D) => ∃ as, Reads s.heap u p.2 as) us (vs.zip ds)
  | _, _, _, .nil, .nil => ⟨.nil, .nil⟩
  | _, _, _, .cons a r, .cons ru rr => by
    obtain ⟨h1, h2⟩ := each_zip (K := K) sm I r rr
    exact ⟨.cons ru h1, .cons (Dp.reads I _ _ _ ((a.mono sm).dp) ru) h2⟩
theorem each_vals : ∀ {us : List Value} {l : List (V × D)}, PySem.W.EachIs (fun (u : Value) (p : V × D) => RelV p.1 u) us l → Vals (l.map (·.1)) us
  | _, _, .nil => .nil
  | _, _, .cons a r => .cons a (each_vals r)
theorem sortedCall (hu : X.A.units + 70 < cLine) : CallR X (.builtin "sorted") (fun xs H Q => ∃ F l vs ds ys, xs = [.ref l] ∧ Same F H ∧ (Rd H l (.lst vs) ∨ SqT X.K H l vs) ∧ Dvs X.K F vs ds ∧ sortD ds = .ok ys ∧
    ∀ p ws, H p = none → Dvs X.K F ws ys → Q (.ref p) (upd H p (.lst ws))) := by
  intro pins s σ H xs us Q I r ⟨F, l, vs, ds, ys, e, sm, hl, d1, hs, q⟩
  subst e
  rw [Vals.ref1 r]
  have key : ∃ its : List Value, Vals vs its ∧ vs.length ≤ sizeLine ∧ (s.heap.IsList l its.toArray ∨ s.heap.IsTuple l its.toArray) := by
    rcases hl with hl | hl
    · obtain ⟨hz, its, n, rv, ho⟩ := lstRd I hl
      exact ⟨its, rv, hz, .inl ⟨_, ho, rfl, n, rfl⟩⟩
    · obtain ⟨its, rv, p, hz⟩ := I.tuple hl
      exact ⟨its, rv, hz, .inr p⟩
  obtain ⟨its, rv, hz, ho⟩ := key
  unfold sortD at hs
  split at hs
  · rename_i c1
    obtain ⟨k1, k2⟩ := cmpl_iff c1
    cases hs
    obtain ⟨z1, z2, z3⟩ := zip_dvs d1
    obtain ⟨e1, e2⟩ := each_zip (K := X.K) sm I d1 rv
    have lz : (vs.zip ds).length = ds.length := by rw [← List.length_map (f := (·.2)), z2]
    have c3 : ds.length ≤ sizeLine := by rw [← d1.length]; exact hz
    refine sorted_dataE (enc := fun p : V × D => p.2) (bs := vs.zip ds) (l := l) ho e1 e2 (by rw [z2]; exact k2) (by rw [z2]; exact fun a ha => (k1 a ha).2) (by rw [lz]; exact c3) (fun p hp => ?_) (fun out hlen heach => ?_)
    · have := SeqAt.depth_of_shaped (k1 p.2 (by rw [← z2]; exact List.mem_map_of_mem hp)).1
      omega
    · obtain ⟨ep, he'⟩ := PyProof.Rows.sortedAll_at s.heap its out.toArray
      have hv := each_vals heach
      have hd : Dvs X.K F (((vs.zip ds).mergeSort (PySem.W.dataLe false fun p => p.2)).map (·.1)) (((vs.zip ds).mergeSort (PySem.W.dataLe false fun p => p.2)).map (·.2)) :=
        dvs_of fun p hp => z3 p ((List.mergeSort_perm _ _).mem_iff.mp hp)
      have e3 : ((vs.zip ds).mergeSort (PySem.W.dataLe false fun p => p.2)).map (·.2) = isort ds := by
        have t := PySem.W.sort_maps (r := PySem.W.dataLe false fun p : V × D => p.2) (s := PySem.W.dataLe false id) (l := vs.zip ds) (fun p : V × D => p.2) (fun _ _ _ _ => rfl)
        rw [t, z2, isort_merge k2]
      rw [e3] at hd
      have hlen2 := hv.length
      refine ⟨.ref _, upd H (s.heap.objs.size + 1) (.lst _), I.laid (t' := s.toks) (fun _ _ => PyProof.Rows.sortedAll_old) (Nat.le_succ _) ⟨?_, out, ep, hv, by simpa using he'⟩, rfl, q _ _ (I.hok.fresh (Nat.le_succ _)) hd⟩
      rw [hlen2, hlen, lz]
      exact c3
  · cases hs
/-! ### the least, the greatest -/
theorem alikeAll_of {xs : List D} (h : cmpl xs = true) : PySem.W.AlikeAll xs := by
  obtain ⟨k1, k2⟩ := cmpl_iff h
  refine ⟨k2, fun x hx e => ?_⟩
  have := (k1 x hx).2
  rw [e] at this
  cases this
theorem depthAll_shp {xs : List D} (h : ∀ x ∈ xs, shp x = true) : PyData.depthAll xs ≤ 64 := by
  induction xs with
  | nil => simp [PyData.depthAll]
  | cons x xs ih =>
    have h1 := SeqAt.depth_of_shaped (h x (by simp))
    have h2 := ih fun y hy => h y (by simp [hy])
    simp only [PyData.depthAll]
    omega
theorem reads_all {pins : List (Addr × Obj)} {σ : St} {H : Hp} {s : Shared} (I : Inv X pins σ H s) : ∀ {ds : List D} {vs : List V} {us : List Value}, Dvs X.K H vs ds → Vals vs us → ∃ as, ReadsAll s.heap us ds as
  | _, _, _, .nil, .nil => ⟨_, .nil⟩
  | _, _, _, .cons x r, .cons ru rr => by
    obtain ⟨as, h1⟩ := reads_all I r rr
    obtain ⟨bs, h2⟩ := Dp.reads I _ _ _ x.dp ru
    exact ⟨_, .cons h2 h1⟩
theorem fold_lt {f g : D → D → Bool} (x : D) (xs : List D) (h : ∀ a ∈ x :: xs, ∀ b ∈ x :: xs, f a b = g a b) : ∀ (ys : List D) (z : D), (∀ y ∈ ys, y ∈ x :: xs) → z ∈ x :: xs → ys.foldl (fun a y => if f y a then y else a) z = ys.foldl (fun a y => if g y a then y else a) z ∧ ys.foldl (fun a y => if f y a then y else a) z ∈ x :: xs
  | [], z, _, hz => ⟨rfl, hz⟩
  | y :: ys, z, hy, hz => by
    have h1 := hy y (by simp)
    simp only [List.foldl_cons]
    rw [← h y h1 z hz]
    refine fold_lt x xs h ys _ (fun w hw => hy w (by simp [hw])) ?_
    split
    · exact h1
    · exact hz
theorem mm_at {pins : List (Addr × Obj)} {σ : St} {F H : Hp} {s : Shared} {vs : List V} {ds : List D} {its : List Value} {m : D} {i : Nat} {u : Value} {h' : Heap} {bs : List Addr} (I : Inv X pins σ H s) (sm : Same F H) (dv : Dvs X.K F vs ds) (rv : Vals vs its) (hal : ∀ a ∈ ds, ∀ b ∈ ds, PySem.W.alike a b = true) (hm : m ∈ ds)
    (hi : its.toArray[i]? = some u) (hr : Reads h' u m bs) (hk : ∀ b o, s.heap.get? b = some o → h'.get? b = some o) : ∃ v, RelV v u ∧ Dv X.K F v m := by
  have hi : its[i]? = some u := by simpa using hi
  obtain ⟨v, hv⟩ : ∃ v, vs[i]? = some v := by
    have h1 := (List.getElem?_eq_some_iff.mp hi).1
    rw [← rv.length] at h1
    exact ⟨vs[i], List.getElem?_eq_getElem h1⟩
  obtain ⟨u', hu', ru⟩ := rv.get hv
  rw [hi] at hu'
  cases hu'
  obtain ⟨d, hd, dvd⟩ := dv.getv hv
  obtain ⟨as, r1⟩ := Dp.reads I _ _ _ (dvd.mono sm).dp ru
  have r2 := PySem.W.reads_keeps hk r1
  have : d = m := PySem.W.alike_unique _ _ _ _ _ (hal d (List.mem_of_getElem? hd) m hm) r2 hr
  subst this
  exact ⟨v, ru, dvd⟩
theorem minD_ok {xs : List D} {m : D} (h : minD xs = .ok m) : ∃ x r, xs = x :: r ∧ cmpl (x :: r) = true ∧ m = PySem.W.minD x r ∧ m ∈ x :: r := by
  cases xs with
  | nil => cases h
  | cons x r =>
    simp only [minD] at h
    split at h
    · rename_i hc
      cases h
      obtain ⟨_, k2⟩ := cmpl_iff hc
      obtain ⟨e1, e2⟩ := fold_lt (f := ltB) (g := PySem.W.dataLt) x r (fun a ha b hb => (ltB_data a b (k2 a ha b hb)).symm) r x (fun y hy => by simp [hy]) (by simp)
      exact ⟨x, r, rfl, hc, e1, e2⟩
    · cases h
theorem maxD_ok {xs : List D} {m : D} (h : maxD xs = .ok m) : ∃ x r, xs = x :: r ∧ cmpl (x :: r) = true ∧ m = PySem.W.maxD x r ∧ m ∈ x :: r := by
  cases xs with
  | nil => cases h
  | cons x r =>
    simp only [maxD] at h
    split at h
    · rename_i hc
      cases h
      obtain ⟨_, k2⟩ := cmpl_iff hc
      obtain ⟨e1, e2⟩ := fold_lt (f := fun a b => ltB b a) (g := fun a b => PySem.W.dataLt b a) x r (fun a ha b hb => (ltB_data b a (k2 b hb a ha)).symm) r x (fun y hy => by simp [hy]) (by simp)
      exact ⟨x, r, rfl, hc, e1, e2⟩
    · cases h
def rMm (K : Fg) (f : List D → R D) (t : Bool) : List V → Hp → VK → Prop := fun xs H Q => ∃ F l vs ds m, xs = [.ref l] ∧ Same F H ∧ (Rd H l (.lst vs) ∨ (t = true ∧ SqT K H l vs)) ∧ Dvs K F vs ds ∧ f ds = .ok m ∧ ∀ v, Dv K F v m → Q v H
theorem minCall (hc : X.calm = true) (hu : X.A.units + 70 < cLine) : CallR X (.builtin "min") (rMm X.K minD false) := by
  intro pins s σ H xs us Q I r ⟨F, l, vs, ds, m, e, sm, hl, d1, hs, q⟩
  subst e
  rw [Vals.ref1 r]
  obtain ⟨x, rest, rfl, hcm, rfl, hm⟩ := minD_ok hs
  obtain ⟨k1, k2⟩ := cmpl_iff hcm
  have hd := depthAll_shp fun a ha => (k1 a ha).1
  rcases hl with hl | ⟨z, _⟩
  · obtain ⟨hz, its, n, rv, ho⟩ := lstRd I hl
    obtain ⟨as, ra⟩ := reads_all I (d1.mono sm) rv
    refine PySem.W.min_list_data (vs := its.toArray) (I.ok.hd hc) ⟨_, ho, rfl, n, rfl⟩ (by simpa using ra) (alikeAll_of hcm) (by omega) fun i v h' tk bs hi hr hk => ?_
    obtain ⟨w, ru, dw⟩ := mm_at I sm d1 rv k2 hm hi hr hk
    exact ⟨w, H, I.kept (t' := tk) hk, ru, q w dw⟩
  · cases z
theorem maxCall (hc : X.calm = true) (hu : X.A.units + 70 < cLine) : CallR X (.builtin "max") (rMm X.K maxD true) := by
  intro pins s σ H xs us Q I r ⟨F, l, vs, ds, m, e, sm, hl, d1, hs, q⟩
  subst e
  rw [Vals.ref1 r]
  obtain ⟨x, rest, rfl, hcm, rfl, hm⟩ := maxD_ok hs
  obtain ⟨k1, k2⟩ := cmpl_iff hcm
  have hd := depthAll_shp fun a ha => (k1 a ha).1
  rcases hl with hl | ⟨_, hl⟩
  · obtain ⟨hz, its, n, rv, ho⟩ := lstRd I hl
    obtain ⟨as, ra⟩ := reads_all I (d1.mono sm) rv
    refine PySem.W.max_list_data (vs := its.toArray) (I.ok.hd hc) ⟨_, ho, rfl, n, rfl⟩ (by simpa using ra) (alikeAll_of hcm) (by omega) fun i v h' tk bs hi hr hk => ?_
    obtain ⟨w, ru, dw⟩ := mm_at I sm d1 rv k2 hm hi hr hk
    exact ⟨w, H, I.kept (t' := tk) hk, ru, q w dw⟩
  · obtain ⟨its, rv, p, hz⟩ := I.tuple hl
    obtain ⟨as, ra⟩ := reads_all I (d1.mono sm) rv
    refine PySem.W.max_tuple_data (vs := its.toArray) (I.ok.hd hc) p (by simpa using ra) (alikeAll_of hcm) (by omega) fun i v h' tk bs hi hr hk => ?_
    obtain ⟨w, ru, dw⟩ := mm_at I sm d1 rv k2 hm hi hr hk
    exact ⟨w, H, I.kept (t' := tk) hk, ru, q w dw⟩
theorem mmD_ex {f : List D → R D} (hf : ∀ xs, f xs = .no ∨ ∃ m, f xs = .ok m) {xs : List D} {K : Fg} {σ : St} {F H : Hp} {T : D → Hp → Hp → Prop} (po : Po W K σ F H (f xs) T) : ∃ m, f xs = .ok m ∧ Po W K σ F H (.ok m) T := by
  rcases hf xs with h | ⟨m, h⟩
  · rw [h] at po; exact po.elim
  · rw [h] at po; exact ⟨m, h, po⟩
theorem minD_or (xs : List D) : minD xs = .no ∨ ∃ m, minD xs = .ok m := by
  cases xs with
  | nil => exact .inl rfl
  | cons x r =>
    simp only [minD]
    split
    · exact .inr ⟨_, rfl⟩
    · exact .inl rfl
theorem maxD_or (xs : List D) : maxD xs = .no ∨ ∃ m, maxD xs = .ok m := by
  cases xs with
  | nil => exact .inl rfl
  | cons x r =>
    simp only [maxD]
    split
    · exact .inr ⟨_, rfl⟩
    · exact .inl rfl
theorem biOk (hu : X.A.units + 70 < cLine) (b : BI) (hc : biH b = false → X.calm = true) : CallR X (biV b) (rBi W X.K σ₀ b) := by
  intro pins s σ H xs us Q I r ⟨F, ds, sm, pd, po⟩
  unfold biD at po
  split at po
  · obtain ⟨x, rfl, rx⟩ := paired1 pd
    split at po
    · rename_i hz
      exact call_len_str pins s σ H _ us Q I r ⟨_, by rw [rx.str], by rw [sizeLine_eq]; exact hz, po.ok sm _ (.int _)⟩
    · exact po.elim
  · obtain ⟨x, rfl, rx⟩ := paired1 pd
    obtain ⟨l, ys, e2, r1, d1⟩ := rx.list sm
    exact call_len_seq pins s σ H _ us Q I r ⟨l, ys, by rw [e2], .inl (.inl r1), by rw [d1.length]; exact po.ok sm _ (.int _)⟩
  · obtain ⟨x, rfl, rx⟩ := paired1 pd
    obtain ⟨l, ys, e2, r1, d1⟩ := rx.tuple sm
    exact call_len_seq pins s σ H _ us Q I r ⟨l, ys, by rw [e2], .inr r1, by rw [d1.length]; exact po.ok sm _ (.int _)⟩
  · obtain ⟨x, rfl, rx⟩ := paired1 pd
    obtain ⟨k, e1, po⟩ := ofO_bind po
    obtain ⟨l, ys, e2, r1, d1⟩ := rx.list sm
    obtain ⟨bs, h1, h2⟩ := allB_vals d1 e1
    subst h1
    exact cr_all (hc rfl) pins s σ H _ us Q I r ⟨l, bs, by rw [e2], .inl r1, by rw [h2]; exact po.ok sm _ (.bl _)⟩
  · obtain ⟨x, rfl, rx⟩ := paired1 pd
    obtain ⟨l, ys, e2, r1, d1⟩ := rx.list sm
    rename_i xs'
    cases e3 : sortD xs' with
    | ok zs =>
      rw [e3] at po
      refine sortedCall hu pins s σ H _ us Q I r ⟨F, l, ys, xs', zs, by rw [e2], sm, .inl r1, d1, e3, fun p ws hp dw => ?_⟩
      exact po _ _ (Gr.new sm hp) _ (.lst (.inl upd_same) (dw.mono (Gr.new sm hp).f))
    | ex _ => unfold sortD at e3; split at e3 <;> cases e3
    | no => rw [e3] at po; exact po.elim
  · obtain ⟨x, rfl, rx⟩ := paired1 pd
    obtain ⟨l, ys, e2, r1, d1⟩ := rx.tuple sm
    rename_i xs'
    cases e3 : sortD xs' with
    | ok zs =>
      rw [e3] at po
      refine sortedCall hu pins s σ H _ us Q I r ⟨F, l, ys, xs', zs, by rw [e2], sm, .inr r1, d1, e3, fun p ws hp dw => ?_⟩
      exact po _ _ (Gr.new sm hp) _ (.lst (.inl upd_same) (dw.mono (Gr.new sm hp).f))
    | ex _ => unfold sortD at e3; split at e3 <;> cases e3
    | no => rw [e3] at po; exact po.elim
  · obtain ⟨x, rfl, rx⟩ := paired1 pd
    obtain ⟨l, ys, e2, r1, d1⟩ := rx.list sm
    refine call_list_of pins s σ H _ us Q I r ⟨l, ys, by rw [e2], .inl (.inl r1), fun p hp => ?_⟩
    exact po _ _ (Gr.new sm hp) _ (.lst (.inl upd_same) (d1.mono (Gr.new sm hp).f))
  · obtain ⟨x, rfl, rx⟩ := paired1 pd
    obtain ⟨l, ys, e2, r1, d1⟩ := rx.tuple sm
    refine call_list_of pins s σ H _ us Q I r ⟨l, ys, by rw [e2], .inr r1, fun p hp => ?_⟩
    exact po _ _ (Gr.new sm hp) _ (.lst (.inl upd_same) (d1.mono (Gr.new sm hp).f))
  · obtain ⟨x, rfl, rx⟩ := paired1 pd
    obtain ⟨l, ys, e2, r1, d1⟩ := rx.list sm
    refine call_tuple_of pins s σ H _ us Q I r ⟨l, ys, by rw [e2], .inl ⟨.inl r1, fun p hp => ?_⟩⟩
    exact po _ _ (Gr.new sm hp) _ (.tup (.inl (.inl upd_same)) (d1.mono (Gr.new sm hp).f))
  · obtain ⟨x, rfl, rx⟩ := paired1 pd
    obtain ⟨l, ys, e2, r1, d1⟩ := rx.tuple sm
    refine call_tuple_of pins s σ H _ us Q I r ⟨l, ys, by rw [e2], .inr ⟨r1, ?_⟩⟩
    cases rx with
    | dv rx => exact po.ok sm _ (by rw [← e2]; exact rx)
  · obtain ⟨x, rfl, rx⟩ := paired1 pd
    exact call_int1 pins s σ H _ us Q I r (.inr ⟨_, by rw [rx.bool], po.ok sm _ (.int _)⟩)
  · obtain ⟨x, rfl, rx⟩ := paired1 pd
    split at po
    · rename_i hz
      obtain ⟨n, e1, po⟩ := ofO_bind po
      exact call_int_str pins s σ H _ us Q I r ⟨_, n, by rw [rx.str], e1, of_decide_eq_true hz, po.ok sm _ (.int _)⟩
    · exact po.elim
  · obtain ⟨x, rfl, rx⟩ := paired1 pd
    split at po
    · rename_i hz
      simp only [Bool.and_eq_true, decide_eq_true_eq] at hz
      refine call_str_int pins s σ H _ us Q I r ⟨_, by rw [rx.int], ?_, po.ok sm _ (.str _)⟩
      refine Nat.lt_of_le_of_lt ?_ (show 10 < 1920 by decide)
      rw [show (10 : Nat) = Nat.log2 1024 by decide +kernel]
      exact log2_mono (by omega)
    · exact po.elim
  · obtain ⟨x, rfl, rx⟩ := paired1 pd
    obtain ⟨l, ys, e2, r1, d1⟩ := rx.list sm
    obtain ⟨m, hm, po⟩ := mmD_ex minD_or po
    exact minCall (hc rfl) hu pins s σ H _ us Q I r ⟨F, l, ys, _, m, by rw [e2], sm, .inl r1, d1, hm, fun v dv => po.ok sm v dv⟩
  · obtain ⟨x, rfl, rx⟩ := paired1 pd
    obtain ⟨l, ys, e2, r1, d1⟩ := rx.list sm
    obtain ⟨m, hm, po⟩ := mmD_ex maxD_or po
    exact maxCall (hc rfl) hu pins s σ H _ us Q I r ⟨F, l, ys, _, m, by rw [e2], sm, .inl r1, d1, hm, fun v dv => po.ok sm v dv⟩
  · obtain ⟨x, rfl, rx⟩ := paired1 pd
    obtain ⟨l, ys, e2, r1, d1⟩ := rx.tuple sm
    obtain ⟨m, hm, po⟩ := mmD_ex maxD_or po
    exact maxCall (hc rfl) hu pins s σ H _ us Q I r ⟨F, l, ys, _, m, by rw [e2], sm, .inr ⟨rfl, r1⟩, d1, hm, fun v dv => po.ok sm v dv⟩
  · obtain ⟨x, y, rfl, rx, ry⟩ := paired2 pd
    exact call_min2 (hc rfl) pins s σ H _ us Q I r ⟨_, _, by rw [rx.int, ry.int], po.ok sm _ (.int _)⟩
  · obtain ⟨x, y, rfl, rx, ry⟩ := paired2 pd
    exact call_max2 (hc rfl) pins s σ H _ us Q I r ⟨_, _, by rw [rx.int, ry.int], po.ok sm _ (.int _)⟩
  · exact po.elim
where
  log2_mono {a b : Nat} (h : a ≤ b) : a.log2 ≤ b.log2 := by
    by_cases ha : a = 0
    · subst ha
      rw [show Nat.log2 0 = 0 by decide +kernel]
      exact Nat.zero_le _
    · exact (Nat.le_log2 (by omega)).mpr (Nat.le_trans (Nat.log2_self_le ha) h)
theorem sBi {b : BI} {es : List Expr} {ms : MEs} {p : Pos} (O : Ok c Γ hx X W) (hg : kGl Γ (biN b) = true) (hh : (!Γ.hot || biH b) = true) (hk : chkEs Γ ms (e :: es) = true) (ha : PA X (e :: es) (tMs c hx X.K W ms)) : PE X (.Call (.Name (biN b) p) (e :: es) [] pos) (tM c hx X.K W (.bi b ms)) := by
  obtain ⟨h1, h2, h3⟩ := kGl_iff O hg
  obtain ⟨s1, s2⟩ := chkEs_star (env := X.env) (pos := pos) hk
  refine ⟨fun pins s σ H Q I ⟨ρ, F, rep, po⟩ => ?_⟩
  have hc : biH b = false → X.calm = true := fun z => by
    rw [z, Bool.or_false] at hh
    exact O.calm (by simpa using hh)
  have po : Po W X.K σ F H ((evEs c ms ρ).bind fun ds => biD b ds) _ := po
  have t : tCB (rBi W X.K σ b) (tMs c hx X.K W ms) σ H Q := ⟨ρ, F, rep, po.bind.imp fun ds F1 H1 _ g1 po vs rvs => ⟨F1, ds, g1.s, rvs.rs, po.imp fun r F2 H2 _ _ q v dv => q v (Rm.of dv)⟩⟩
  have hb := biOk (W := W) (σ₀ := σ) O.un b hc
  have fr : X.mg (biN b) = none := O.free _ (by cases b <;> decide)
  cases b with
  | len => exact (pe_callB hb h1 fr rfl ha h3 h2 s1 s2).run pins s σ H Q I t
  | all => exact (pe_callB hb h1 fr rfl ha h3 h2 s1 s2).run pins s σ H Q I t
  | sorted => exact (pe_callB hb h1 fr rfl ha h3 h2 s1 s2).run pins s σ H Q I t
  | list => exact (pe_callTy hb h1 fr rfl ha h3 h2 s1 s2).run pins s σ H Q I t
  | tuple => exact (pe_callTy hb h1 fr rfl ha h3 h2 s1 s2).run pins s σ H Q I t
  | int => exact (pe_callTy hb h1 fr rfl ha h3 h2 s1 s2).run pins s σ H Q I t
  | str => exact (pe_callTy hb h1 fr rfl ha h3 h2 s1 s2).run pins s σ H Q I t
  | min1 => exact (pe_callB hb h1 fr rfl ha h3 h2 s1 s2).run pins s σ H Q I t
  | max1 => exact (pe_callB hb h1 fr rfl ha h3 h2 s1 s2).run pins s σ H Q I t
  | min2 => exact (pe_callB hb h1 fr rfl ha h3 h2 s1 s2).run pins s σ H Q I t
  | max2 => exact (pe_callB hb h1 fr rfl ha h3 h2 s1 s2).run pins s σ H Q I t
/-! ### isinstance -/
def tyOfD : D → String
  | .none => "NoneType" | .bool _ => "bool" | .int _ => "int" | .str _ => "str" | .list _ => "list" | .tuple _ => "tuple" | .dict _ => "dict"
def tyS : Ty → String
  | .int => "int" | .bool => "bool" | .tuple => "tuple" | .list => "list" | .str => "str"
def isiS : Ty → String → Bool
  | .int, s => s == "int" || s == "bool"
  | .bool, s => s == "bool"
  | .tuple, s => s == "tuple"
  | .list, s => s == "list"
  | .str, s => s == "str"
theorem kitTab (t : Ty) : kitB "NoneType" (tyS t) = some (isiS t "NoneType") ∧ kitB "bool" (tyS t) = some (isiS t "bool") ∧ kitB "int" (tyS t) = some (isiS t "int") ∧
    kitB "str" (tyS t) = some (isiS t "str") ∧ kitB "list" (tyS t) = some (isiS t "list") ∧ kitB "tuple" (tyS t) = some (isiS t "tuple") := by
  cases t <;> decide +kernel
theorem isiD_S {t : Ty} {d : D} (nd : ∀ kvs, d ≠ .dict kvs) : isiD t d = isiS t (tyOfD d) := by
  cases d with
  | dict kvs => exact absurd rfl (nd kvs)
  | none => cases t <;> decide
  | bool _ => cases t <;> (simp [isiD, isiS, tyOfD])
  | int _ => cases t <;> (simp [isiD, isiS, tyOfD])
  | str _ => cases t <;> (simp [isiD, isiS, tyOfD])
  | list _ => cases t <;> (simp [isiD, isiS, tyOfD])
  | tuple _ => cases t <;> (simp [isiD, isiS, tyOfD])
theorem kitTabD {t : Ty} {d : D} (nd : ∀ kvs, d ≠ .dict kvs) : kitB (tyOfD d) (tyS t) = some (isiD t d) := by
  rw [isiD_S nd]
  obtain ⟨h1, h2, h3, h4, h5, h6⟩ := kitTab t
  cases d with
  | dict kvs => exact absurd rfl (nd kvs)
  | none => exact h1
  | bool _ => exact h2
  | int _ => exact h3
  | str _ => exact h4
  | list _ => exact h5
  | tuple _ => exact h6
theorem rs_ty {K : Fg} {F H : Hp} {v : V} {d : D} (sm : Same F H) (h : Rs K F H v d) : TyX K H v (.type (tyOfD d)) := by
  have lt : ∀ {a : Addr} {xs : List V}, Rd H a (.lst xs) → TyX K H (.ref a) (.type "list") := fun {a xs} h => by
    rcases h with h | ⟨o, h⟩
    · exact .base (.lst h)
    · exact .base (.frz h)
  cases h with
  | dv h =>
    cases h with
    | non => exact .base .non
    | bl b => exact .base (.bl b)
    | int i => exact .base (.int i)
    | str x => exact .base (.str x)
    | lst h _ => exact lt (rdMono sm h)
    | tup h _ =>
      rcases sqtMono sm h with (h | ⟨o, h⟩) | ⟨o, its, n, h, hc, _⟩
      · exact .base (.tup h)
      · exact .fTuple h
      · exact .kTuple h hc
  | own h _ => exact lt (.inl h)
theorem sIsi {t : Ty} {p p2 : Pos} (O : Ok c Γ hx X W) (h1 : kGl Γ "isinstance" = true) (h2 : kGl Γ (tyN t) = true) (hn : nst a = true) (ha : PE X a (tM c hx X.K W ma)) : PE X (.Call (.Name "isinstance" p) [a, .Name (tyN t) p2] [] pos) (tM c hx X.K W (.isi ma t)) := by
  obtain ⟨g1, g2, g3⟩ := kGl_iff O h1
  obtain ⟨k1, k2, k3⟩ := kGl_iff O h2
  have ft : PE X (.Name (tyN t) p2) (tC (.ty (tyS t))) := by
    have fr : X.mg (tyN t) = none := O.free _ (by cases t <;> decide)
    cases t <;> exact pe_bltn k1 fr rfl rfl k3 k2
  have hA : PA X [a, .Name (tyN t) p2] _ := pa_cons ha (pa_cons ft pa_nil rfl) (nst_star hn)
  refine peImp (pe_callB call_isi g1 (O.free _ (by decide)) rfl hA g3 g2 (nst_star hn) rfl) fun σ H Q ⟨ρ, F, rep, po⟩ => ?_
  have po : Po W X.K σ F H ((evE c ma ρ).bind fun x => R.ok (PyData.bool (isiD t x))) _ := po
  refine ⟨ρ, F, rep, po.bind.imp fun d F1 H1 _ g1 po v rv => ?_⟩
  have ty := rs_ty g1.s rv.rs
  have q := po.ok g1.s _ (Rm.of (.bl _))
  refine ⟨v, _, _, _, _, rfl, .ty _, ty, ?_, q⟩
  exact kit_ty (kitTabD fun kvs z => by
    subst z
    cases rv.rs with
    | dv h => cases h)
end
end Wq

end
section
set_option Elab.async false
set_option linter.all false
set_option autoImplicit false
set_option maxRecDepth 100000
/-! Targets, what is walked, comprehensions. -/
namespace Wq
open PySem PySem.Spec PyProof.Rows L2
section
variable {c : Cv} {Γ : Cfg} {hx : HX} {X : Cx} {W : WX} {σ₀ : St}
variable {a b e tg : Expr} {ma mb me : ME} {pos : Pos}
/-! ### targets -/
theorem wipe_set (σ : St) (i : Nat) (x : Option V) : ∀ ws : List Nat, i ∈ ws → L2.wipe (σ.set i x) ws = L2.wipe σ ws
  | [], h => by cases h
  | w :: ws, h => by
    by_cases hi : i ∈ ws
    · show (L2.wipe (σ.set i x) ws).set w none = (L2.wipe σ ws).set w none
      rw [wipe_set σ i x ws hi]
    · have e : i = w := by
        rcases List.mem_cons.mp h with e | e
        · exact e
        · exact absurd e hi
      subst e
      have key : ∀ (vs : List Nat), i ∉ vs → L2.wipe (σ.set i x) vs = (L2.wipe σ vs).set i x := fun vs => by
        induction vs with
        | nil => intro _; rfl
        | cons v vs ih =>
          intro hn
          show (L2.wipe (σ.set i x) vs).set v none = ((L2.wipe σ vs).set v none).set i x
          rw [ih (fun z => hn (by simp [z]))]
          exact List.set_comm _ _ (fun z => hn (by simp [z]))
      show (L2.wipe (σ.set i x) ws).set i none = (L2.wipe σ ws).set i none
      rw [key ws hi, List.set_set]
theorem okS_iff {i : Nat} {x : Str} (O : Ok c Γ hx X W) (h : okS Γ i x = true) : X.N[i]? = some x ∧ Loc X.env.scope x ∧ (X.fn x = true ∨ X.env.scope.names.lookup x = some .local) := by
  unfold okS kLoc kCell kd at h
  simp only [Bool.and_eq_true, Bool.or_eq_true, decide_eq_true_eq] at h
  obtain ⟨h1, h2⟩ := h
  refine ⟨by rw [O.nN]; exact h1, ?_⟩
  rw [O.sc]
  rcases h2 with h | ⟨h, h'⟩
  · exact ⟨.inl h, .inr h⟩
  · refine ⟨.inr h, .inl (O.fl x ?_)⟩
    cases q : Γ.fl with
    | none => trivial
    | some l => rw [q] at h'; exact h'
def gM (hx : HX) (K : Fg) (t : Tg) : TG := fun v σ H Q => ∃ ρ F d ρ', Rep hx K F H σ ρ ∧ Dv K F v d ∧ bindT t d ρ = .ok ρ' ∧
  ∀ σ', Rep hx K F H σ' ρ' → (∀ ws, tgIn t ws = true → L2.wipe σ' ws = L2.wipe σ ws) → Q σ' H
def gMs (hx : HX) (K : Fg) (is : List Nat) : TGs := fun vs σ H Q => ∃ ρ F ds ρ', Rep hx K F H σ ρ ∧ Dvs K F vs ds ∧ setAll is ds ρ = .ok ρ' ∧
  ∀ σ', Rep hx K F H σ' ρ' → (∀ ws, (∀ i ∈ is, i ∈ ws) → L2.wipe σ' ws = L2.wipe σ ws) → Q σ' H
theorem pgImp {t t' : TG} (h : PG X e t) (i : ∀ v σ H Q, t' v σ H Q → t v σ H Q) : PG X e t' := ⟨fun pins s σ H v u Q I r q => h.run pins s σ H v u Q I r (i v σ H Q q)⟩
theorem pgsImp {es : List Expr} {t t' : TGs} (h : PGs X es t) (i : ∀ v σ H Q, t' v σ H Q → t v σ H Q) : PGs X es t' := ⟨fun pins s σ H v u Q I r q => h.run pins s σ H v u Q I r (i v σ H Q q)⟩
theorem tgs_ok (O : Ok c Γ hx X W) : ∀ {is : List Nat} {es : List Expr}, okTg.go Γ is es = true → PGs X es (gMs hx X.K is) ∧ (assignEach es X.env).length = is.length ∧ (assignEach es X.env).findIdx? (·.1) = none
  | [], [], _ => by
    refine ⟨pgsImp pgs_nil fun vs σ H Q ⟨ρ, F, ds, ρ', rep, d, e, q⟩ => ?_, rfl, rfl⟩
    cases ds with
    | nil =>
      cases d
      have e : R.ok ρ = R.ok ρ' := e
      cases e
      exact ⟨rfl, q σ rep fun _ _ => rfl⟩
    | cons _ _ => cases e
  | i :: is, e :: es, h => by
    cases e with
    | Name x p =>
      obtain ⟨h1, h2⟩ := Bool.and_eq_true_iff.mp (show (okS Γ i x && okTg.go Γ is es) = true from h)
      obtain ⟨k1, k2, k3⟩ := okS_iff O h1
      obtain ⟨r1, r2, r3⟩ := tgs_ok O h2
      refine ⟨pgsImp (pgs_cons (pg_name O.nd k1 k2 k3) r1 rfl) fun vs σ H Q ⟨ρ, F, ds, ρ', rep, d, e, q⟩ => ?_, ?_, ?_⟩
      · cases ds with
        | nil => cases e
        | cons d0 ds =>
          cases d with
          | cons dv dvs =>
            refine ⟨_, _, rfl, ?_⟩
            refine ⟨_, F, ds, ρ', rep.setVal dv, dvs, e, fun σ' rep' hw => q σ' rep' fun ws hws => ?_⟩
            rw [hw ws fun j hj => hws j (by simp [hj])]
            exact wipe_set σ i _ ws (hws i (by simp))
      · show (_ :: assignEach es X.env).length = _
        rw [List.length_cons, r2, List.length_cons]
      · show List.findIdx? (·.1) ((false, _) :: assignEach es X.env) = none
        rw [List.findIdx?_cons, r3]
        rfl
    | _ => cases h
  | [], _ :: _, h => by cases h
  | _ :: _, [], h => by cases h
theorem sTg {t : Tg} {tg : Expr} (O : Ok c Γ hx X W) (hh : Γ.hot = false) (h : okTg Γ t tg = true) : PG X tg (gM hx X.K t) := by
  cases t with
  | nm i =>
    cases tg with
    | Name x p =>
      obtain ⟨k1, k2, k3⟩ := okS_iff O h
      refine pgImp (pg_name O.nd k1 k2 k3) fun v σ H Q ⟨ρ, F, d, ρ', rep, dv, e, q⟩ => ?_
      have e : R.ok (ρ.set i (.val d)) = R.ok ρ' := e
      cases e
      exact q _ (rep.setVal dv) fun ws hws => wipe_set σ i _ ws (by simpa [tgIn] using hws)
    | _ => cases h
  | tp is =>
    cases tg with
    | Tuple es k p =>
      obtain ⟨r1, r2, r3⟩ := tgs_ok O h
      refine pgImp (pg_tup (O.calm hh) r1 r2 r3) fun v σ H Q ⟨ρ, F, d, ρ', rep, dv, e, q⟩ => ?_
      cases d with
      | tuple ds =>
        obtain ⟨ad, xs, rfl, sq, dvs⟩ := dv.tupF
        have hl : ∀ {is : List Nat} {ds : List D} {ρ ρ' : En}, setAll is ds ρ = .ok ρ' → ds.length = is.length := fun {is} => by
          induction is with
          | nil =>
            intro ds ρ ρ' e
            cases ds with
            | nil => rfl
            | cons _ _ => cases e
          | cons i is ih =>
            intro ds ρ ρ' e
            cases ds with
            | nil => cases e
            | cons d ds => simp [ih e]
        refine ⟨ad, xs, rfl, sqtMono rep.s sq, by rw [dvs.length]; exact hl e, ρ, F, ds, ρ', rep, dvs, e, fun σ' rep' hw => q σ' rep' fun ws hws => hw ws fun i hi => ?_⟩
        have := List.all_eq_true.mp (show (is.all fun i => ws.contains i) = true from hws) i hi
        simpa using this
      | _ => cases e
    | _ => cases h
/-! ### what is walked -/
/-- a walk over xs that stands while what is settled stands (or, for lists of one's own, while the heap grows) -/
structure Wk (K : Fg) (s : Bool) (F1 H1 : Hp) (xs : List D) (J : It) (G : Hp → Prop) (Y : Nat → Hp → V → Hp → Prop) : Prop where
  w : Walk J xs.length G Y
  st : s = true → ∀ F' H', Same F1 F' → Same F' H' → G H'
  gr : ∀ F' H', Same F1 F' → Same H1 H' → Same F' H' → G H'
  y : ∀ i F' H' x H'', i < xs.length → (s = true ∨ Same H1 H') → Same F1 F' → Same F' H' → Y i H' x H'' → ∃ F'' d, Gr F' H' F'' H'' ∧ xs[i]? = some d ∧ Dv K F'' x d
def tI (c : Cv) (hx : HX) (K : Fg) (W : WX) (it : MI) : TI := fun σ H R => ∃ ρ F, Rep hx K F H σ ρ ∧ Po W K σ F H (evI c it ρ) fun xs F1 H1 => ∀ J G Y, Wk K (sfI it) F1 H1 xs J G Y → xs.length ≤ LIM → R J H1
/-- what stands in the heap is not too long -/
def lenB : D → Prop
  | .list xs => xs.length ≤ LIM
  | .tuple xs => xs.length ≤ LIM
  | _ => True
def tMB (c : Cv) (hx : HX) (K : Fg) (W : WX) (m : ME) : TE := fun σ H Q =>
  ∃ ρ F, Rep hx K F H σ ρ ∧ Po W K σ F H (evE c m ρ) fun d F' H' => ∀ v, Rm K m F' H' v d → lenB d → Q v H'
theorem peLen (h : PE X e (tM c hx X.K W me)) : PE X e (tMB c hx X.K W me) := by
  refine ⟨fun pins s σ H Q I ⟨ρ, F, rep, po⟩ => ?_⟩
  refine thn (h.run pins s σ H (fun v H1 => ∃ d F', Same F' H1 ∧ Rm X.K me F' H1 v d ∧ (lenB d → Q v H1)) I ⟨ρ, F, rep, po.imp fun d F' H' _ g q v rv => ⟨d, F', g.s, rv, q v rv⟩⟩) fun u s1 ⟨v, H1, I1, ru, d, F', sm, rm, q⟩ => ⟨v, H1, I1, ru, q ?_⟩
  cases d with
  | list xs =>
    obtain ⟨l, vs, _, r1, d1⟩ := rm.rs.list sm
    have := (lstRd I1 r1).1
    rw [sizeLine_eq, d1.length] at this
    exact this
  | tuple xs =>
    obtain ⟨l, vs, _, r1, d1⟩ := rm.rs.tuple sm
    obtain ⟨_, _, _, this⟩ := I1.tuple r1
    rw [sizeLine_eq, d1.length] at this
    exact this
  | _ => trivial
theorem yat {K : Fg} {F1 : Hp} {vs : List V} {ds : List D} (h : Dvs K F1 vs ds) {i : Nat} {F' H' H'' : Hp} {x : V} (sm : Same F1 F') (sm' : Same F' H') (y : YAt vs i H' x H'') : ∃ F'' d, Gr F' H' F'' H'' ∧ ds[i]? = some d ∧ Dv K F'' x d := by
  obtain ⟨rfl, e⟩ := y
  obtain ⟨d, e1, e2⟩ := h.getv e
  exact ⟨F', d, Gr.refl sm', e1, e2.mono sm⟩
theorem piSeq (h : PE X e (tM c hx X.K W me)) : PI X tg e (tI c hx X.K W (.seq me)) := by
  refine ⟨fun pins s σ H R I ⟨ρ, F, rep, po⟩ => ?_⟩
  have po : Po W X.K σ F H ((evE c me ρ).bind fun x => ofO (itemsD x)) _ := po
  have h := peLen h
  have hl := (pi_list (tg := tg) h).run pins s σ H R I
  cases q : evE c me ρ with
  | no => rw [q] at po; exact po.elim
  | ex k =>
    rw [q] at po
    refine hl ⟨ρ, F, rep, ?_⟩
    rw [q]
    exact po
  | ok d =>
    rw [q] at po
    cases d with
    | list ds =>
      refine hl ⟨ρ, F, rep, ?_⟩
      rw [q]
      intro F1 H1 g1 v rv lb
      obtain ⟨l, vs, e2, r1, d1⟩ := rv.rs.list g1.s
      refine ⟨l, e2, ⟨vs, .inl r1⟩, po F1 H1 g1 _ (fun H => SqL X.K H l vs) (YAt vs) ⟨by rw [← d1.length]; exact walk_list, fun hs F' H' a b => ?_, fun F' H' a b' b => .inl (rdMono b' r1), fun i F' H' x H'' hi _ a b y => yat d1 a b y⟩ lb⟩
      have hs : sf me = true := hs
      obtain ⟨l', vs', e2', r1', d1'⟩ := (rv.dv hs).lstF
      have : l = l' := by rw [e2] at e2'; cases e2'; rfl
      subst this
      have : vs' = vs := by
        have t := rdMono g1.s r1'
        rcases t with t | ⟨o, t⟩ <;> rcases r1 with r | ⟨o', r⟩ <;> rw [t] at r <;> cases r <;> rfl
      subst this
      exact .inl (rdMono (a.trans b) r1')
    | tuple ds =>
      refine (pi_tup (tg := tg) h).run pins s σ H R I ⟨ρ, F, rep, ?_⟩
      rw [q]
      intro F1 H1 g1 v rv lb
      cases rv.rs with
      | dv dv =>
        obtain ⟨l, vs, e2, r1, d1⟩ := dv.tupF
        exact ⟨l, e2, ⟨vs, sqtMono g1.s r1⟩, po F1 H1 g1 _ (fun H => SqT X.K H l vs) (YAt vs) ⟨by rw [← d1.length]; exact walk_tup, fun _ F' H' a b => sqtMono (a.trans b) r1, fun F' H' a b' b => sqtMono (a.trans b) r1, fun i F' H' x H'' hi _ a b y => yat d1 a b y⟩ lb⟩
    | _ => exact po.elim
theorem rgOk_iff {a b : Int} (h : rgOk a b = true) : (-(2 ^ 62) ≤ a ∧ a < 2 ^ 62 ∧ -(2 ^ 62) ≤ b ∧ b < 2 ^ 62) ∧ (b - a).toNat ≤ LIM := by
  unfold rgOk at h
  simp only [Bool.and_eq_true, decide_eq_true_eq] at h
  obtain ⟨⟨⟨⟨a1, a2⟩, a3⟩, a4⟩, a5⟩ := h
  exact ⟨⟨a1, a2, a3, a4⟩, a5⟩
theorem rangeD_po {K : Fg} {σ : St} {F H : Hp} {a b : Int} {T : List D → Hp → Hp → Prop} (po : Po W K σ F H (rangeD a b) T) : rgOk a b = true ∧ Po W K σ F H (.ok (rangeL a b)) T := by
  unfold rangeD at po
  split at po
  · exact ⟨by assumption, po⟩
  · exact po.elim
theorem rangeL_len {a b : Int} : (rangeL a b).length = (b - a).toNat := by simp [rangeL]
theorem wkRange {K : Fg} {F1 H1 : Hp} {s : Bool} {a b : Int} : Wk K s F1 H1 (rangeL a b) (Itr a (b - a).toNat) (fun _ => True) (YFn fun i => .int (a + i)) := by
  refine ⟨by rw [rangeL_len]; exact walk_range, fun _ _ _ _ _ => trivial, fun _ _ _ _ _ => trivial, fun i F' H' x H'' hi _ a' b' y => ?_⟩
  obtain ⟨rfl, rfl⟩ := y
  refine ⟨F', .int (a + i), Gr.refl b', ?_, .int _⟩
  rw [rangeL_len] at hi
  simp [rangeL, hi]
theorem piRng {p : Pos} (O : Ok c Γ hx X W) (hg : kGl Γ "range" = true) (hn : nst e = true) (h : PE X e (tM c hx X.K W me)) : PI X tg (.Call (.Name "range" p) [e] [] pos) (tI c hx X.K W (.rng me)) := by
  obtain ⟨g1, g2, g3⟩ := kGl_iff O hg
  refine ⟨fun pins s σ H R I ⟨ρ, F, rep, po⟩ => ?_⟩
  have po : Po W X.K σ F H ((evE c me ρ).bind fun x => (toI x).bind fun n => rangeD 0 n) _ := po
  refine (pi_range1 g1 (O.free _ (by decide)) (pa_cons h pa_nil (nst_star hn)) (nst_star hn)).run pins s σ H R I ⟨ρ, F, rep, po.bind.imp fun d F1 H1 _ gg po v rv => ?_⟩
  obtain ⟨k, rfl, po2⟩ := toI_bind po
  obtain ⟨hr, po⟩ := rangeD_po po2
  obtain ⟨⟨a1, a2, a3, a4⟩, a5⟩ := rgOk_iff hr
  refine ⟨k, by rw [rv.rs.int], a3, a4, ?_⟩
  have := po.ok gg.s (Itr 0 (k - 0).toNat) _ _ wkRange (by rw [rangeL_len]; exact a5)
  rwa [Int.sub_zero] at this
theorem piRng2 {p : Pos} (O : Ok c Γ hx X W) (hg : kGl Γ "range" = true) (hn : nst a = true) (hn2 : nst b = true) (h : PE X a (tM c hx X.K W ma)) (h2 : PE X b (tM c hx X.K W mb)) : PI X tg (.Call (.Name "range" p) [a, b] [] pos) (tI c hx X.K W (.rng2 ma mb)) := by
  obtain ⟨g1, g2, g3⟩ := kGl_iff O hg
  refine ⟨fun pins s σ H R I ⟨ρ, F, rep, po⟩ => ?_⟩
  have po : Po W X.K σ F H ((evE c ma ρ).bind fun x => (evE c mb ρ).bind fun y => (toI x).bind fun n => (toI y).bind fun m => rangeD n m) _ := po
  refine (pi_range2 g1 (O.free _ (by decide)) (pa_cons h (pa_cons h2 pa_nil (nst_star hn2)) (nst_star hn)) (by rw [nst_star hn, nst_star hn2]; rfl) (nst_star hn2)).run pins s σ H R I
    ⟨ρ, F, rep, po.bind.imp fun d F1 H1 _ gg po v rv => ⟨ρ, F1, rep.gr gg, po.bind.imp fun d2 F2 H2 _ gg2 po v2 rv2 => ?_⟩⟩
  obtain ⟨k, rfl, po2⟩ := toI_bind po
  obtain ⟨k2, rfl, po3⟩ := toI_bind po2
  obtain ⟨hr, po⟩ := rangeD_po po3
  exact ⟨k, k2, by rw [rv.rs.int, rv2.rs.int], (rgOk_iff hr).1, po.ok gg2.s _ _ _ wkRange (by rw [rangeL_len]; exact (rgOk_iff hr).2)⟩
theorem zipD_len : ∀ xs ys : List D, (zipD xs ys).length = min xs.length ys.length
  | [], _ => by simp [zipD]
  | _ :: _, [] => by simp [zipD]
  | x :: xs, y :: ys => by
    simp only [zipD, List.length_cons, zipD_len xs ys]
    omega
theorem zipD_get : ∀ {xs ys : List D} {i : Nat} {x y : D}, xs[i]? = some x → ys[i]? = some y → (zipD xs ys)[i]? = some (.tuple [x, y])
  | [], _, _, _, _, h, _ => by simp at h
  | _ :: _, [], _, _, _, _, h => by simp at h
  | x :: xs, y :: ys, 0, _, _, h1, h2 => by
    simp only [List.getElem?_cons_zero, Option.some.injEq] at h1 h2
    subst h1 h2
    rfl
  | x :: xs, y :: ys, i + 1, _, _, h1, h2 => by
    simp only [List.getElem?_cons_succ] at h1 h2
    simp only [zipD, List.getElem?_cons_succ]
    exact zipD_get h1 h2
theorem ypair {K : Fg} {F1 : Hp} {vs ws : List V} {ds es : List D} (h1 : Dvs K F1 vs ds) (h2 : Dvs K F1 ws es) {i : Nat} {F' H' H'' : Hp} {x : V} (sm : Same F1 F') (sm' : Same F' H') (y : YPair (fun i => vs[i]?) (fun i => ws[i]?) i H' x H'') :
    ∃ F'' d, Gr F' H' F'' H'' ∧ (zipD ds es)[i]? = some d ∧ Dv K F'' x d := by
  obtain ⟨T, u, v, rfl, hT, rfl, e1, e2⟩ := y
  obtain ⟨d, a1, a2⟩ := h1.getv e1
  obtain ⟨e, b1, b2⟩ := h2.getv e2
  have g := Gr.new (o := .tup [u, v]) sm' hT
  exact ⟨_, _, g, zipD_get a1 b1, .tup (.inl (.inl upd_same)) (.cons ((a2.mono sm).mono g.f) (.cons ((b2.mono sm).mono g.f) .nil))⟩
/-- zip of two tuples, walked -/
theorem walk_zipT {K : Fg} {a b : Addr} {xs ys : List V} {n : Nat} (hn : n = min xs.length ys.length) : Walk (RZ.ItzT K a b) n (fun H => SqT K H a xs ∧ SqT K H b ys) (YPair (fun i => xs[i]?) (fun i => ys[i]?)) := by
  subst hn
  refine ⟨fun i _ hi q => ?_, fun _ q => ⟨xs, ys, q.1, q.2, by omega⟩, fun i H v H' _ q y => ?_⟩
  · have h1 : i < xs.length := by omega
    have h2 : i < ys.length := by omega
    exact ⟨xs, ys, xs[i], ys[i], q.1, q.2, by simp [h1], by simp [h2]⟩
  · obtain ⟨T, x, z, h1, h2, h3, h4, h5⟩ := y
    exact ⟨T, x, z, h1, h2, h3, h4 xs q.1, h5 ys q.2⟩
theorem piZip {p pt : Pos} {k : Nat} {elts : List Expr} (O : Ok c Γ hx X W) (hg : kGl Γ "zip" = true) (hn : nst a = true) (hn2 : nst b = true) (hs : sf ma = true) (hs2 : sf mb = true) (h : PE X a (tM c hx X.K W ma)) (h2 : PE X b (tM c hx X.K W mb)) :
    PI X (.Tuple elts k pt) (.Call (.Name "zip" p) [a, b] [] pos) (tI c hx X.K W (.zip ma mb)) := by
  obtain ⟨g1, g2, g3⟩ := kGl_iff O hg
  refine ⟨fun pins s σ H R I ⟨ρ, F, rep, po⟩ => ?_⟩
  have po : Po W X.K σ F H ((evE c ma ρ).bind fun x => (evE c mb ρ).bind fun y => zipA x y) _ := po
  refine (RZ.pi_zipA g1 (O.free _ (by decide)) (pa_cons (peLen h) (pa_cons h2 pa_nil (nst_star hn2)) (nst_star hn)) (nst_star hn) (by rw [nst_star hn2]; rfl)).run pins s σ H R I
    ⟨ρ, F, rep, po.bind.imp fun d F1 H1 _ gg po v rv lb => ⟨ρ, F1, rep.gr gg, po.bind.imp fun d2 F2 H2 _ gg2 po v2 rv2 => ?_⟩⟩
  have dv := (rv.dv hs).mono gg2.f
  have dv2 := rv2.dv hs2
  unfold zipA at po
  split at po
  · obtain ⟨l, vs, rfl, r1, d1⟩ := dv.tupF
    obtain ⟨l2, vs2, rfl, r2, d2⟩ := dv2.tupF
    refine ⟨l, l2, vs, vs2, rfl, .inr ⟨sqtMono gg2.s r1, sqtMono gg2.s r2, po.ok gg2.s _ _ _ ⟨walk_zipT (by rw [zipD_len, d1.length, d2.length]), fun _ F' H' a b => ⟨sqtMono (a.trans b) r1, sqtMono (a.trans b) r2⟩, fun F' H' a _ b => ⟨sqtMono (a.trans b) r1, sqtMono (a.trans b) r2⟩, fun i F' H' x H'' hi _ a b y => ypair d1 d2 a b y⟩ (by rw [zipD_len]; exact Nat.le_trans (Nat.min_le_left _ _) lb)⟩⟩
  · obtain ⟨l, vs, rfl, r1, d1⟩ := dv.lstF
    obtain ⟨l2, vs2, rfl, r2, d2⟩ := dv2.lstF
    refine ⟨l, l2, vs, vs2, rfl, .inl ⟨.inl (rdMono gg2.s r1), .inl (rdMono gg2.s r2), po.ok gg2.s _ _ _ ⟨walk_zip (by rw [zipD_len, d1.length, d2.length]), fun _ F' H' a b => ⟨.inl (rdMono (a.trans b) r1), .inl (rdMono (a.trans b) r2)⟩, fun F' H' a _ b => ⟨.inl (rdMono (a.trans b) r1), .inl (rdMono (a.trans b) r2)⟩, fun i F' H' x H'' hi _ a b y => ypair d1 d2 a b y⟩ (by rw [zipD_len]; exact Nat.le_trans (Nat.min_le_left _ _) lb)⟩⟩
  · exact po.elim
/-! ### comprehensions -/
/-- nothing is let out -/
def W0 : WX := fun _ _ _ _ => False
theorem Po.calm {α : Type} {K : Fg} {σ σ' : St} {F H : Hp} {r : R α} {T : α → Hp → Hp → Prop} (h : Po W K σ F H r.calm T) : Po W0 K σ' F H r T := by
  cases r with
  | ok a => exact h
  | ex k => exact h.elim
  | no => exact h
def tC' (c : Cv) (hx : HX) (K : Fg) (W : WX) (m : MO) : TT := fun σ H Q => ∃ ρ F, Rep hx K F H σ ρ ∧ Po W K σ F H (evC c m ρ) fun b _ H' => Q b H'
theorem sNoC : PTs X [] (tC' c hx X.K W .none) := by
  refine ⟨fun pins s σ H Q I ⟨ρ, F, rep, po⟩ => pts_nil.run pins s σ H Q I ?_⟩
  have po : Po W X.K σ F H (R.ok true) _ := po
  exact po.ok rep.s
theorem sSomeC (h : PT X e (tT c hx X.K W me)) : PTs X [e] (tC' c hx X.K W (.some me)) := ⟨fun pins s σ H Q I ⟨ρ, F, rep, po⟩ => (pts_one h).run pins s σ H Q I ⟨ρ, F, rep, po⟩⟩
theorem blkOk (O : Ok c Γ hx X W) (hh : Γ.hot = false) {scope : Scope} {s : Shared} {H : Hp} {C : Addr} {cl : List (Str × Addr)} {fp : List Addr} (hu : scope.names.all (fun y => decide (scope.names.lookup y.1 = some y.2)) = true) :
    Ok c (blkOf Γ scope) hx (X.blk s H scope (compEnvC scope cl C X.env) fp) W0 := by
  refine ⟨O.nN, O.nd, ?_, O.un, fun _ => O.calm hh, fun x hx' => ?_, fun _ => O.calls hh, fun _ => O.hxn hh, O.cx, O.ve, O.ek, fun z => ?_, O.callx, O.free, O.gs, O.xs, fun u s' ⟨a, B, sI, pins, σ, H, cls, d, e, I, nb, up, sky, na, os, ag, w⟩ => w, O.hp⟩
  · show relabel scope X.env = relS scope Γ.sc
    rw [← O.sc]
    rfl
  · have hx' : (((scope.names.filter fun p => p.2 == .cell).map (·.1)).contains x) = true := hx'
    show (scope.names.lookup x == some .cell) = true
    rw [List.contains_iff_mem] at hx'
    obtain ⟨p, hp, rfl⟩ := List.mem_map.mp hx'
    obtain ⟨hp1, hp2⟩ := List.mem_filter.mp hp
    have := of_decide_eq_true (List.all_eq_true.mp hu p hp1)
    rw [this]
    exact hp2
  · have z : Γ.hot = true := z
    rw [hh] at z
    cases z
/-- (F', H') is beyond (F, H), but for what lies at D -/
structure Bey (F H F' H' : Hp) (D : Addr) (acc : List V) : Prop where
  f : Same F F'
  h : Same H H'
  s : Same F' H'
  n : ∀ a o, F' a = some o → F a = some o ∨ H a = none
  fd : F' D = none
  hd : H' D = some (.lst acc)
theorem Bey.gr {F H F' H' F2 H2 : Hp} {D : Addr} {acc : List V} (b : Bey F H F' H' D acc) (g : Gr F' H' F2 H2) : Bey F H F2 H2 D acc := by
  refine ⟨b.f.trans g.f, b.h.trans g.h, g.s, fun a o e => ?_, ?_, g.h _ _ b.hd⟩
  · rcases g.n a o e with z | z
    · exact b.n a o z
    · exact .inr (b.h.free z)
  · cases q : F2 D with
    | none => rfl
    | some u =>
      rcases g.n D u q with z | z
      · rw [b.fd] at z; cases z
      · rw [b.hd] at z; cases z
theorem Bey.put {F H F' H' : Hp} {D : Addr} {acc acc' : List V} (hD : H D = none) (b : Bey F H F' H' D acc) : Bey F H F' (upd H' D (.lst acc')) D acc' := by
  refine ⟨b.f, fun a o e => ?_, fun a o e => ?_, b.n, b.fd, upd_same⟩
  · rw [upd_ne (fun z => by rw [z, hD] at e; cases e)]
    exact b.h a o e
  · rw [upd_ne (fun z => by rw [z, b.fd] at e; cases e)]
    exact b.s a o e
theorem Bey.new {F H : Hp} {D : Addr} (s : Same F H) (hD : H D = none) : Bey F H F (upd H D (.lst [])) D [] :=
  ⟨fun _ _ e => e, same_upd hD, fun a o e => same_upd hD a o (s a o e), fun _ _ e => .inl e, s.free hD, upd_same⟩
/-- at the end the new list is settled, too -/
theorem Bey.done {F H F' H' : Hp} {D : Addr} {acc : List V} (hD : H D = none) (b : Bey F H F' H' D acc) : Gr F H (upd F' D (.lst acc)) H' := by
  refine ⟨fun a o e => ?_, b.h, fun a o e => ?_, fun a o e => ?_⟩
  · rw [upd_ne (fun z => by rw [z] at e; have := b.f D o e; rw [b.fd] at this; cases this)]
    exact b.f a o e
  · by_cases z : a = D
    · subst z
      rw [upd_same] at e
      rw [← e]
      exact b.hd
    · rw [upd_ne z] at e
      exact b.s a o e
  · by_cases z : a = D
    · subst z
      exact .inr hD
    · rw [upd_ne z] at e
      exact b.n a o e
theorem Bey.rep {F H F' H' : Hp} {D : Addr} {acc : List V} {K : Fg} {σ : St} {ρ : En} (b : Bey F H F' H' D acc) (rep : Rep hx K F H σ ρ) : Rep hx K F' H' σ ρ :=
  rep.gr ⟨b.f, b.h, b.s, b.n⟩
theorem lcLoop_app {f : D → R (Option D)} : ∀ {xs : List D} {i : Nat} {x : D}, xs[i]? = some x → lcLoop f xs ≠ .no → (∀ y, f y = (f y).calm) →
    (∃ r, f x = .ok r)
  | [], _, _, h, _, _ => by simp at h
  | y :: ys, 0, x, h, hn, hc => by
    simp only [List.getElem?_cons_zero, Option.some.injEq] at h
    subst h
    cases q : f y with
    | ok r => exact ⟨r, rfl⟩
    | no => simp [lcLoop, q, R.bind] at hn
    | ex k =>
      have := hc y
      rw [q] at this
      cases this
  | y :: ys, i + 1, x, h, hn, hc => by
    simp only [List.getElem?_cons_succ] at h
    refine lcLoop_app h (fun z => hn ?_) hc
    simp only [lcLoop, z]
    cases q : f y with
    | ok r => rfl
    | no => rfl
    | ex k =>
      have := hc y
      rw [q] at this
      cases this
/-- the first i of them -/
theorem lcLoop_take {f : D → R (Option D)} : ∀ {xs : List D} {i : Nat} {x : D} {acc : List D} {r : Option D}, xs[i]? = some x → lcLoop f (xs.take i) = .ok acc → f x = .ok r → lcLoop f (xs.take (i + 1)) = .ok (match r with
    | some d => acc ++ [d]
    | none => acc)
  | [], _, _, _, _, h, _, _ => by simp at h
  | y :: ys, 0, x, acc, r, h, h1, h2 => by
    simp only [List.getElem?_cons_zero, Option.some.injEq] at h
    subst h
    simp only [List.take_zero, lcLoop] at h1
    cases h1
    simp only [List.take_succ_cons, List.take_zero, lcLoop, h2, R.bind]
    cases r <;> rfl
  | y :: ys, i + 1, x, acc, r, h, h1, h2 => by
    simp only [List.getElem?_cons_succ] at h
    simp only [List.take_succ_cons, lcLoop] at h1 ⊢
    cases q : f y with
    | ok r0 =>
      rw [q] at h1
      simp only [R.bind] at h1 ⊢
      cases q2 : lcLoop f (ys.take i) with
      | ok acc0 =>
        rw [q2] at h1
        rw [lcLoop_take h q2 h2]
        cases h1
        cases r0 <;> cases r <;> rfl
      | no => rw [q2] at h1; cases h1
      | ex _ => rw [q2] at h1; cases h1
    | no => rw [q] at h1; cases h1
    | ex _ => rw [q] at h1; cases h1
theorem lcLoop_ex {f : D → R (Option D)} (hc : ∀ y, f y = (f y).calm) : ∀ {xs : List D} {k : Str}, lcLoop f xs ≠ .ex k
  | [], _, h => by cases h
  | y :: ys, k, h => by
    simp only [lcLoop] at h
    cases q : f y with
    | ok r0 =>
      rw [q] at h
      simp only [R.bind] at h
      cases q2 : lcLoop f ys with
      | ok _ => rw [q2] at h; cases h
      | no => rw [q2] at h; cases h
      | ex k' => exact lcLoop_ex hc q2
    | no => rw [q] at h; cases h
    | ex _ =>
      have := hc y
      rw [q] at this
      cases this
theorem lcLoop_len {f : D → R (Option D)} : ∀ {xs ds : List D}, lcLoop f xs = .ok ds → ds.length ≤ xs.length
  | [], _, h => by cases h; simp
  | y :: ys, ds, h => by
    simp only [lcLoop] at h
    cases q : f y with
    | ok r0 =>
      rw [q] at h
      simp only [R.bind] at h
      cases q2 : lcLoop f ys with
      | ok zs =>
        rw [q2] at h
        have := lcLoop_len q2
        cases r0 <;> cases h <;> simp <;> omega
      | no => rw [q2] at h; cases h
      | ex k' => rw [q2] at h; cases h
    | no => rw [q] at h; cases h
    | ex _ => rw [q] at h; cases h
/-- what a comprehension does with one item -/
def lcF (c : Cv) (elt : ME) (t : Tg) (cond : MO) (ρ : En) (x : D) : R (Option D) := ((bindT t x ρ).bind fun ρ' =>
  (evC c cond ρ').bind fun k => if k then (evE c elt ρ').bind fun d => .ok (some d) else .ok none).calm
theorem lcF_calm (elt : ME) (t : Tg) (cond : MO) (ρ : En) (x : D) : lcF c elt t cond ρ x = (lcF c elt t cond ρ x).calm := by
  unfold lcF
  cases ((bindT t x ρ).bind fun ρ' => (evC c cond ρ').bind fun k => if k then (evE c elt ρ').bind fun d => R.ok (some d) else .ok none) <;> rfl
/-- the whole of it, where the rules of a list's block stand -/
theorem lcBody {elt : ME} {t : Tg} {it : MI} {cond : MO} {ws : List Nat} {σ : St} {H : Hp} {Q : VK} (hs : sf elt = true) (ht : tgIn t ws = true)
    (q : tM c hx X.K W (.lc elt t it cond ws) σ H Q) : tLc (tI c hx X.K W it) (gM hx X.K t) (tC' c hx X.K W0 cond) (tM c hx X.K W0 elt) ws σ H Q := by
  obtain ⟨ρ, F, rep, po⟩ := q
  have po : Po W X.K σ F H ((evI c it ρ).bind fun xs => (lcLoop (lcF c elt t cond (wipe ρ ws)) xs).bind fun ds => R.ok (PyData.list ds)) _ := po
  refine ⟨ρ, F, rep, po.bind.imp fun xs F1 H1 _ g1 po J G Y wk l4 D hD => ?_⟩
  cases q : lcLoop (lcF c elt t cond (wipe ρ ws)) xs with
  | no => rw [q] at po; exact po.elim
  | ex k => exact absurd q (lcLoop_ex (lcF_calm elt t cond _))
  | ok ds =>
    rw [q] at po
    have rep1 := (rep.gr g1).wipe ws
    refine lc_it wk.w (fun i Hc => ∃ Fc acc da, Bey F1 H1 Fc Hc D acc ∧ Dvs X.K Fc acc da ∧ lcLoop (lcF c elt t cond (wipe ρ ws)) (xs.take i) = .ok da) ⟨F1, [], [], Bey.new g1.s hD, .nil, rfl⟩ (fun i Hc _ ⟨Fc, acc, da, b, _, _⟩ => wk.gr Fc Hc b.f b.h b.s) ?_ ?_
    · rintro i x Hc Hd hi ⟨Fc, acc, da, b, dv, lo⟩ y
      obtain ⟨Fd, d, g2, e1, dx⟩ := wk.y i Fc Hc x Hd hi (.inr b.h) b.f b.s y
      have b2 := b.gr g2
      obtain ⟨r, er⟩ := lcLoop_app e1 (by rw [q]; exact fun z => by cases z) (lcF_calm elt t cond _)
      have lo2 := lcLoop_take e1 lo er
      unfold lcF at er
      cases qb : bindT t d (wipe ρ ws) with
      | ex _ => rw [qb] at er; cases er
      | no => rw [qb] at er; cases er
      | ok ρ' =>
        rw [qb] at er
        have er : ((evC c cond ρ').bind fun k => if k then (evE c elt ρ').bind fun d => R.ok (some d) else .ok none).calm = .ok r := er
        refine ⟨wipe ρ ws, Fd, d, ρ', b2.rep rep1, dx, qb, fun σ' rep' hw => ⟨?_, ?_⟩⟩
        · rw [hw ws ht]
          exact wipe_wipe σ ws
        · refine ⟨ρ', Fd, rep', ?_⟩
          cases qc : evC c cond ρ' with
          | ex _ => rw [qc] at er; cases er
          | no => rw [qc] at er; cases er
          | ok k =>
            rw [qc] at er
            intro F3 H3 g3
            have b3 := b2.gr g3
            have dv3 := (dv.mono g2.f).mono g3.f
            cases k with
            | false =>
              cases er
              exact ⟨F3, acc, da, b3, dv3, lo2⟩
            | true =>
              have er : ((evE c elt ρ').bind fun d => R.ok (some d)).calm = .ok r := er
              refine ⟨ρ', F3, rep'.gr g3, ?_⟩
              cases qe : evE c elt ρ' with
              | ex _ => rw [qe] at er; cases er
              | no => rw [qe] at er; cases er
              | ok z =>
                rw [qe] at er
                cases er
                intro F4 H4 g4 v rv
                have b4 := b3.gr g4
                refine ⟨acc, b4.hd, ?_, F4, acc ++ [v], da ++ [z], b4.put hD, (dv3.mono g4.f).append (.cons (rv.dv hs) .nil), lo2⟩
                have l1 := lcLoop_len lo
                have l2 := dv.length
                have l3 : (xs.take i).length ≤ i := by simp; omega
                have l5 : LIM = 16777216 := rfl
                rw [sizeLine_eq]
                omega
    · rintro Hc ⟨Fc, acc, da, b, dv, lo⟩
      rw [List.take_length, q] at lo
      cases lo
      exact po _ _ (b.done hD) _ (Rm.of (.lst (.inl upd_same) (dv.mono (fun a o e => by
        rw [upd_ne (fun z => by rw [z, b.fd] at e; cases e)]
        exact e))))
where
  wipe_wipe (σ : St) (ws : List Nat) : L2.wipe (L2.wipe σ ws) ws = L2.wipe σ ws := by
    have key : ∀ (vs : List Nat) (τ : St), (∀ v ∈ vs, ∀ x, τ[v]? = some x → x = none) → L2.wipe τ vs = τ := fun vs => by
      induction vs with
      | nil => intro τ _; rfl
      | cons v vs ih =>
        intro τ h
        show (L2.wipe τ vs).set v none = τ
        rw [ih τ fun w hw => h w (by simp [hw])]
        refine List.ext_getElem? fun j => ?_
        rw [getElem?_set]
        split
        · rename_i hj
          obtain ⟨rfl, hj⟩ := hj
          rw [List.getElem?_eq_getElem hj]
          rw [h j (by simp) _ (List.getElem?_eq_getElem hj)]
        · rfl
    refine key ws _ fun v hv x hx => ?_
    cases x with
    | none => rfl
    | some w => exact absurd hv (wipe_some hx).2
theorem iterOk_fold {it : Expr} {env : Env} (h : iterOk it = true) (x : Value) : foldedSetIterable it env x = pure x := by
  cases it <;> first | rfl | cases h
end
end Wq

end
section
set_option Elab.async false
set_option linter.all false
set_option autoImplicit false
set_option maxRecDepth 100000
/-! enumerate of lists and of tuples. -/
namespace Wq
open PySem PySem.Spec PyProof.Rows L2
set_option maxHeartbeats 1000000 in
theorem meets_enum1 {v : Value} {o : Obj} {H : Heap → Prop} (B : Begins v o H) :
    Meets (Builtin.«enumerate.__new__» ⟨[.type "enumerate", v], []⟩) (fun _ R s => H s.heap ∧
      R (.ok (.ret (.ref (s.heap.push o).objs.size))) { s with heap := (s.heap.push o).push { cls := .type "enumerate", data := .fields #[.none, .bool false, .ref s.heap.objs.size, rawInt 0, .none, .none] } }) :=
  .of_wp fun prog w A R s h => by
    obtain ⟨hp, g, d, tk, os⟩ := s; obtain ⟨h1, h⟩ := h
    have hsub := sub_enumerate
    have q1 : ∀ {A' : Around} {E : Value → Shared → Prop} {Q : Value → Shared → Prop}, Q (.ref hp.objs.size) ⟨hp.push o, g, d, tk, os⟩ → wpAny (model prog w) A' (pyIter v) Q E ⟨hp, g, d, tk, os⟩ :=
      fun q => B.iter prog w _ _ ⟨hp, g, d, tk, os⟩ _ h1 q
    wp_walk using q1
    refine wpAny_stack_any fun st => wpAny_pure ?_
    split
    · rename_i c _ _ _ _ _
      cases (c == Value.type "enumerate")
      · wp_walk using q1
        exact ⟨_, rfl, h⟩
      · wp_walk using q1
        exact ⟨_, rfl, h⟩
    · wp_walk using q1
      exact ⟨_, rfl, h⟩
section
variable {prog : Program} {w : World} {A : Around} {E : Value → Shared → Prop} {s : Shared}
theorem enum_begins1 {v : Value} {o : Obj} {H : Heap → Prop} {Q : Value → Shared → Prop} (B : Begins v o H) (h1 : H s.heap)
    (h : ∀ h', IsEnum h' (s.heap.objs.size + 1) s.heap.objs.size 0 .none → h'.get? s.heap.objs.size = some o → h'.objs.size = s.heap.objs.size + 2 →
      (∀ b o, s.heap.get? b = some o → h'.get? b = some o) → Q (.ref (s.heap.objs.size + 1)) { s with heap := h' }) :
    wpAny (model prog w) A (call (.type "enumerate") [v]) Q E s := by
  refine callType_new F.called_enumerate (by decide) (F.typeCall_enumerate_1 _) (F.newCall_enumerate_1 _) (fun obj => F.args_object_init_2 obj _) F.entry_enumerate_new
    (meets_enum1 B) ⟨h1, ?_⟩
  have hz : (s.heap.push o).objs.size = s.heap.objs.size + 1 := Heap.size_push ..
  show _ ∧ _
  rw [hz]
  have he : IsEnum ((s.heap.push o).push { cls := .type "enumerate", data := .fields #[.none, .bool false, .ref s.heap.objs.size, rawInt 0, .none, .none] }) (s.heap.objs.size + 1) s.heap.objs.size 0 .none := by
    have := Heap.get?_push_size (s.heap.push o) (o := { cls := .type "enumerate", data := .fields #[.none, .bool false, .ref s.heap.objs.size, rawInt 0, .none, .none] }) rfl
    rw [hz] at this; exact this
  refine ⟨⟨_, he, rfl⟩, h _ he (Heap.get?_push_of_some _ (Heap.get?_push_size _ B.free)) (by rw [Heap.size_push, hz]) fun b o x => Heap.get?_push_of_some _ (Heap.get?_push_of_some _ x)⟩
end
/-- the tuple at a, each item in a new pair -/
def IteT (K : Fg) (a : Addr) : It :=
  ⟨fun i H => ∃ (xs : List V) (x : V), SqT K H a xs ∧ xs[i]? = some x, fun i H v H' => ∃ T x, v = .ref T ∧ H T = none ∧ H' = upd H T (.tup [.int (i : Nat), x]) ∧ ∀ xs, SqT K H a xs → xs[i]? = some x, fun i H => ∃ xs : List V, SqT K H a xs ∧ xs.length ≤ i⟩
theorem turn_enumT {P : Program} {w : World} {K : Fg} {elts : List Expr} {kk : Nat} {tpos : Pos} (a e it : Addr) (hai : a ≠ it) (hea : e ≠ a) (hne : e ≠ it) :
    Turn P w K (.Tuple elts kk tpos) (IteT K a) [e, it] e (fun i h => (∃ old, IsEnum h e it ((i : Nat) : Int) old) ∧ h.IsTupleIter it a i) where
  mem := by simp
  obj := fun i h st b hb => by
    obtain ⟨⟨old, he⟩, ⟨o, ho, hc, hd⟩⟩ := st
    have e' : b = e ∨ b = it := by simpa using hb
    rcases e' with z | z
    · rw [z]; exact ⟨_, he, fun v q => nomatch q⟩
    · rw [z]; exact ⟨o, ho, fun v q => by rw [hd] at q; cases q⟩
  keep := fun i h h' st k => let ⟨⟨old, he⟩, hi⟩ := st; ⟨⟨old, k e (by simp) _ he⟩, hi.at fun o q => k it (by simp) o q⟩
  item := by
    intro X hP hw hK hc i pins s σ H E I hf st hg
    subst hP hw hK
    obtain ⟨⟨old, he⟩, hit⟩ := st
    obtain ⟨xs, x, hq, hx⟩ := hg
    obtain ⟨its, rv, p, hz⟩ := I.tuple hq
    obtain ⟨u, hu, ru⟩ := rv.get hx
    have hel : e < s.heap.objs.size := Heap.lt_size he
    have hil : it < s.heap.objs.size := by obtain ⟨_, q, _⟩ := hit; exact Heap.lt_size q
    have hil2 : i < its.toArray.size := by
      have := (List.getElem?_eq_some_iff.mp hu).1
      simpa using this
    refine wpAny_pyNext_enum_itemD (Draws.tuple (A := X.A.in1) (I.ok.hd hc) it a hai its.toArray) he ⟨hit, p⟩ hil2 hne (by simp [hne, hea]) fun v h' tk hv ho hit' hT hsz hk => ?_
    have : v = u := by
      have hv : its.toArray[i]? = some v := hv
      have hu2 : its.toArray[i]? = some u := by simpa using hu
      rw [hu2] at hv
      cases hv
      rfl
    subst this
    refine ⟨_, rfl, wpAny_letOwnedTupleGo_enum (s := { s with heap := h', toks := tk + 1 }) ho fun h'' he' sb => ?_⟩
    have hT2 : h''.get? s.heap.objs.size = some { cls := .type "tuple", data := .seq #[.int i tk, v] } := (sb.2 _ (Nat.ne_of_gt hel)).trans hT
    have new : ObjOk X.prog X.w (upd H s.heap.objs.size (.tup [.int (i : Nat), x])) h'' s.heap.objs.size (.tup [.int (i : Nat), x]) :=
      ⟨by show 2 ≤ sizeLine; decide, [.int i tk, v], .cons ⟨_, rfl⟩ (.cons ru .nil), ⟨_, hT2, rfl, _, rfl⟩⟩
    have I1 : Inv X pins σ (upd H s.heap.objs.size (.tup [.int (i : Nat), x])) { s with heap := h'', toks := tk + 1 } :=
      I.turnedNew (ch := [e, it]) (fun b ob hb q => (sb.2 b (fun z => hb (by simp [z]))).trans (hk b ob (fun z => hb (by simp [z])) (fun z => hb (by simp [z])) q)) hf (Nat.le_refl _) new
    refine ⟨.ref s.heap.objs.size, _, I1, rfl, ⟨_, x, rfl, I.hok.fresh (Nat.le_refl _), rfl, fun ys hy => by rw [I.tuple_inj hy hq]; exact hx⟩, ⟨⟨v, ?_⟩, hit'.1.at fun o q => (sb.2 it (Ne.symm hne)).trans q⟩, fun b hb => ?_⟩
    · have e1 : ((i + 1 : Nat) : Int) = (i : Int) + 1 := by omega
      rw [e1]; exact he'
    · have hb' : b < s.heap.objs.size := by
        have e' : b = e ∨ b = it := by simpa using hb
        rcases e' with z | z
        · rw [z]; exact hel
        · rw [z]; exact hil
      rw [upd_ne (Nat.ne_of_lt hb')]
      exact (hf b hb).1
  done := by
    intro X hP hw hK hc i pins s σ H E I hf st hg
    subst hP hw hK
    obtain ⟨⟨old, he⟩, hit⟩ := st
    obtain ⟨xs, hq, hx⟩ := hg
    obtain ⟨its, rv, p, hz⟩ := I.tuple hq
    obtain ⟨f0, f1, f2, f3, f4, f5⟩ := hf it (by simp)
    have hl := rv.length
    unfold pyNext
    have hT : s.TypeIs (.ref e) "enumerate" := ⟨_, he, rfl⟩
    refine wpAny_bind (wpAny_attempt (wpAny_callSpecial?_slot (name := Str.ofString "__next__") hT F.slot_enumerate_next
      (wpAny_call_entry F.slot_enumerate_next hT F.entry_enumerate_next ?_ (F.args_enumerate_next_1 _))))
    show wpAny _ _ (field (.ref e) 2 >>= _) _ _ _
    refine wpAny_bind (wpAny_field he rfl (x := .ref it) rfl ?_)
    refine wpAny_bind (wpAny_nextOf_tuple_end (I.ok.hd hc) hit p (by simp; omega) fun h' x he' hx' => ?_)
    obtain ⟨o, ho, hco⟩ := hx'
    refine wpAny_bind (wpAny_isInstance (T := "StopIteration") (b := true) ⟨o, ho, hco⟩ isSubtype_stop ?_)
    exact wpAny_pure ⟨rfl, I.turned (t' := s.toks) (fun b o hb q => he' b o hb q) f0 f1 f3 f4 f5⟩
  self := fun A i s Q E st h => let ⟨⟨_, he⟩, _⟩ := st; wpAny_pyIter_enum he h
def iEnumA (K : Fg) (ta : TA) : TI := fun σ H R => ta σ H fun vs H1 => ∃ a xs, vs = [.ref a] ∧ ((SqL K H1 a xs ∧ R (Ite K a) H1) ∨ (SqT K H1 a xs ∧ R (IteT K a) H1))
theorem pi_enumA {X : Cx} {e : Expr} {ta : TA} {p pos tpos : Pos} {elts : List Expr} {kk : Nat} (hg : Gl X "enumerate") (hm : X.mg "enumerate" = none) (ha : PA X [e] ta) (hs : starEach [e] X.env = [(false, eval e X.env)]) :
    PI X (.Tuple elts kk tpos) (.Call (.Name "enumerate" p) [e] [] pos) (iEnumA X.K ta) := by
  refine ⟨fun pins s σ H R I h => ?_⟩
  refine Call_ (ld_blt I hg hm boot_enumerate (PyProof.Rows.callWith_type1 (thn (ha.run pos pins s σ H _ I h) fun us s1 ⟨vs, H1, I1, r1, q1⟩ => ?_) hs rfl))
  obtain ⟨a, xs, ex, q⟩ := q1
  subst ex
  cases r1 with
  | cons r rr =>
    cases rr
    cases r
    have fp : ∀ b ∈ [s1.heap.objs.size + 1, s1.heap.objs.size], FpOk X pins H1 b := fun b hb => by
      have e' : b = s1.heap.objs.size + 1 ∨ b = s1.heap.objs.size := by simpa using hb
      have hle : s1.heap.objs.size ≤ b := by
        rcases e' with z | z
        · rw [z]; exact Nat.le_add_right _ _
        · rw [z]; exact Nat.le_refl _
      exact I1.fpOk hle (I1.hok.fresh hle)
    rcases q with ⟨hq, q⟩ | ⟨hq, q⟩
    · obtain ⟨its, rv, p', hz⟩ := I1.list hq
      refine call_enumerate_list p'.isList fun h' he hit hsz hk => wpAny_pyIter_enum he ?_
      have I2 : Inv X pins σ H1 { s1 with heap := h' } := I1.kept (t' := s1.toks) hk
      exact ⟨s1.heap.objs.size + 1, [s1.heap.objs.size + 1, s1.heap.objs.size], _, _, H1, rfl, I2, turn_enum a (s1.heap.objs.size + 1) s1.heap.objs.size, ⟨⟨.none, he⟩, hit, Nat.succ_ne_self _⟩, fp, q⟩
    · obtain ⟨its, rv, p', hz⟩ := I1.tuple hq
      have hal : a < s1.heap.objs.size := by obtain ⟨_, q, _⟩ := p'; exact Heap.lt_size q
      refine enum_begins1 (begins_tuple a its.toArray) p' fun h' he hit hsz hk => wpAny_pyIter_enum he ?_
      have I2 : Inv X pins σ H1 { s1 with heap := h' } := I1.kept (t' := s1.toks) hk
      exact ⟨s1.heap.objs.size + 1, [s1.heap.objs.size + 1, s1.heap.objs.size], _, _, H1, rfl, I2, turn_enumT a (s1.heap.objs.size + 1) s1.heap.objs.size (Nat.ne_of_lt hal) (fun z => by rw [← z] at hal; exact absurd hal (by exact Nat.not_lt.mpr (Nat.le_succ _))) (Nat.succ_ne_self _), ⟨⟨.none, he⟩, ⟨_, hit, rfl, rfl⟩⟩, fp, q⟩
theorem enumD_len : ∀ (xs : List D) (k : Nat), (enumD k xs).length = xs.length
  | [], _ => rfl
  | x :: xs, k => by simp [enumD, enumD_len xs (k + 1)]
theorem enumD_get : ∀ {xs : List D} {k i : Nat} {x : D}, xs[i]? = some x → (enumD k xs)[i]? = some (.tuple [.int ((k + i : Nat) : Int), x])
  | [], _, _, _, h => by simp at h
  | x :: xs, k, 0, _, h => by
    simp only [List.getElem?_cons_zero, Option.some.injEq] at h
    subst h
    rfl
  | x :: xs, k, i + 1, _, h => by
    simp only [List.getElem?_cons_succ] at h
    simp only [enumD, List.getElem?_cons_succ, enumD_get h]
    congr 4
    omega
section
variable {c : Cv} {Γ : Cfg} {hx : HX} {X : Cx} {W : WX}
variable {a e tg : Expr} {ma : ME} {pos : Pos}
def YEn (vs : List V) (i : Nat) (H : Hp) (v : V) (H' : Hp) : Prop := ∃ T x, v = .ref T ∧ H T = none ∧ H' = upd H T (.tup [.int (i : Nat), x]) ∧ vs[i]? = some x
theorem yenum {K : Fg} {F1 : Hp} {vs : List V} {ds : List D} (h : Dvs K F1 vs ds) {i : Nat} {F' H' H'' : Hp} {x : V} (sm : Same F1 F') (sm' : Same F' H') (y : YEn vs i H' x H'') :
    ∃ F'' d, Gr F' H' F'' H'' ∧ (enumD 0 ds)[i]? = some d ∧ Dv K F'' x d := by
  obtain ⟨T, u, rfl, hT, rfl, e1⟩ := y
  obtain ⟨d, a1, a2⟩ := h.getv e1
  have g := Gr.new (o := .tup [.int (i : Nat), u]) sm' hT
  refine ⟨_, _, g, enumD_get a1, .tup (.inl (.inl upd_same)) (.cons ?_ (.cons ((a2.mono sm).mono g.f) .nil))⟩
  rw [Nat.zero_add]
  exact .int _
theorem walk_enumL {K : Fg} {a : Addr} {xs : List V} : Walk (Ite K a) xs.length (fun H => SqL K H a xs) (YEn xs) := by
  refine ⟨fun i _ hi q => ⟨xs, xs[i], q, by simp [hi]⟩, fun _ q => ⟨xs, q, Nat.le_refl _⟩, fun i H v H' _ q y => ?_⟩
  obtain ⟨T, x, h1, h2, h3, h4⟩ := y
  exact ⟨T, x, h1, h2, h3, h4 xs q⟩
theorem walk_enumT {K : Fg} {a : Addr} {xs : List V} : Walk (IteT K a) xs.length (fun H => SqT K H a xs) (YEn xs) := by
  refine ⟨fun i _ hi q => ⟨xs, xs[i], q, by simp [hi]⟩, fun _ q => ⟨xs, q, Nat.le_refl _⟩, fun i H v H' _ q y => ?_⟩
  obtain ⟨T, x, h1, h2, h3, h4⟩ := y
  exact ⟨T, x, h1, h2, h3, h4 xs q⟩
theorem piEnum {p pt : Pos} {k : Nat} {elts : List Expr} (O : Ok c Γ hx X W) (hg : kGl Γ "enumerate" = true) (hn : nst a = true) (hs : sf ma = true) (h : PE X a (tM c hx X.K W ma)) :
    PI X (.Tuple elts k pt) (.Call (.Name "enumerate" p) [a] [] pos) (tI c hx X.K W (.enum ma)) := by
  obtain ⟨g1, g2, g3⟩ := kGl_iff O hg
  refine ⟨fun pins s σ H R I ⟨ρ, F, rep, po⟩ => ?_⟩
  have po : Po W X.K σ F H ((evE c ma ρ).bind fun x => (ofO (itemsD x)).bind fun xs => .ok (enumD 0 xs)) _ := po
  refine (pi_enumA g1 (O.free _ (by decide)) (pa_cons (peLen h) pa_nil (nst_star hn)) (nst_star hn)).run pins s σ H R I ⟨ρ, F, rep, po.bind.imp fun d F1 H1 _ gg po v rv lb => ?_⟩
  obtain ⟨xs, ex, po⟩ := ofO_bind po
  have dv := rv.dv hs
  unfold itemsD at ex
  split at ex
  · cases ex
    obtain ⟨l, vs, rfl, r1, d1⟩ := dv.lstF
    refine ⟨l, vs, rfl, .inl ⟨.inl (rdMono gg.s r1), po.ok gg.s _ (fun H => SqL X.K H l vs) (YEn vs) ⟨by rw [enumD_len, ← d1.length]; exact walk_enumL, fun _ F' H' a b => .inl (rdMono (a.trans b) r1), fun F' H' a _ b => .inl (rdMono (a.trans b) r1), fun i F' H' x H'' hi _ a b y => yenum d1 a b y⟩ (by rw [enumD_len]; exact lb)⟩⟩
  · cases ex
    obtain ⟨l, vs, rfl, r1, d1⟩ := dv.tupF
    refine ⟨l, vs, rfl, .inr ⟨sqtMono gg.s r1, po.ok gg.s _ (fun H => SqT X.K H l vs) (YEn vs) ⟨by rw [enumD_len, ← d1.length]; exact walk_enumT, fun _ F' H' a b => sqtMono (a.trans b) r1, fun F' H' a _ b => sqtMono (a.trans b) r1, fun i F' H' x H'' hi _ a b y => yenum d1 a b y⟩ (by rw [enumD_len]; exact lb)⟩⟩
  · cases ex
end
end Wq

end
section
set_option Elab.async false
set_option linter.all false
set_option autoImplicit false
set_option maxRecDepth 100000
/-! Lists and tuples of ranges; a def of several, by its place. -/
namespace Wq
open PySem PySem.Spec PyProof.Rows L2
section
variable {c : Cv} {Γ : Cfg} {hx : HX} {X : Cx} {W : WX}
variable {a b e : Expr} {ma mb me : ME} {pos : Pos}
theorem rgV_dvs {K : Fg} {F : Hp} (a b : Int) : Dvs K F (rgV a b) (rangeL a b) := by
  unfold rgV rangeL
  generalize List.range (b - a).toNat = l
  induction l with
  | nil => exact .nil
  | cons x l ih => exact .cons (.int _) ih
theorem rgOk_rg {a b : Int} (h : rgOk a b = true) : RgOk a b := by
  obtain ⟨⟨h1, h2, h3, h4⟩, h5⟩ := rgOk_iff h
  have : LIM = 16777216 := rfl
  exact ⟨h1, h2, h3, h4, by omega⟩
theorem rangeD_bind {α : Type} {K : Fg} {σ : St} {F H : Hp} {a b : Int} {f : List D → R α} {T : α → Hp → Hp → Prop} (po : Po W K σ F H ((rangeD a b).bind f) T) : rgOk a b = true ∧ Po W K σ F H (f (rangeL a b)) T := by
  unfold rangeD at po
  split at po
  · exact ⟨by assumption, po⟩
  · exact po.elim
theorem sLrange {p p2 q : Pos} (O : Ok c Γ hx X W) (hh : Γ.hot = false) (h1 : kGl Γ "list" = true) (h2 : kGl Γ "range" = true) (hn : nst a = true) (ha : PE X a (tM c hx X.K W ma)) : PE X (.Call (.Name "list" p) [.Call (.Name "range" p2) [a] [] q] [] pos) (tM c hx X.K W (.lrange ma)) := by
  obtain ⟨g1, g2, g3⟩ := kGl_iff O h1
  obtain ⟨k1, k2, k3⟩ := kGl_iff O h2
  refine peImp (pe_listRg (O.calm hh) g1 (O.free _ (by decide)) (prg_1 k1 (O.free _ (by decide)) ha (nst_star hn)) rfl) fun σ H Q ⟨ρ, F, rep, po⟩ => ?_
  have po : Po W X.K σ F H ((evE c ma ρ).bind fun x => (toI x).bind fun n => (rangeD 0 n).bind fun xs => R.ok (PyData.list xs)) _ := po
  refine ⟨ρ, F, rep, po.bind.imp fun d F1 H1 _ g1 po v rv => ?_⟩
  obtain ⟨k, rfl, po2⟩ := toI_bind po
  obtain ⟨hr, po⟩ := rangeD_bind po2
  refine ⟨k, rv.rs.int, rgOk_rg hr, fun p hp => ?_⟩
  exact po _ _ (Gr.new g1.s hp) _ (Rm.of (.lst (.inl upd_same) (rgV_dvs _ _)))
theorem sLrange2 {p p2 q : Pos} (O : Ok c Γ hx X W) (hh : Γ.hot = false) (h1 : kGl Γ "list" = true) (h2 : kGl Γ "range" = true) (hn : nst a = true) (hn2 : nst b = true) (ha : PE X a (tM c hx X.K W ma)) (hb : PE X b (tM c hx X.K W mb)) :
    PE X (.Call (.Name "list" p) [.Call (.Name "range" p2) [a, b] [] q] [] pos) (tM c hx X.K W (.lrange2 ma mb)) := by
  obtain ⟨g1, g2, g3⟩ := kGl_iff O h1
  obtain ⟨k1, k2, k3⟩ := kGl_iff O h2
  refine peImp (pe_listRg (O.calm hh) g1 (O.free _ (by decide)) (prg_2 k1 (O.free _ (by decide)) ha hb (nst_star hn) (nst_star hn2) (by rw [nst_star hn2]; rfl)) rfl) fun σ H Q ⟨ρ, F, rep, po⟩ => ?_
  have po : Po W X.K σ F H ((evE c ma ρ).bind fun x => (evE c mb ρ).bind fun y => (toI x).bind fun n => (toI y).bind fun m => (rangeD n m).bind fun xs => R.ok (PyData.list xs)) _ := po
  refine ⟨ρ, F, rep, po.bind.imp fun d F1 H1 _ g1 po v rv => ⟨ρ, F1, rep.gr g1, po.bind.imp fun d2 F2 H2 _ g2 po v2 rv2 => ?_⟩⟩
  obtain ⟨k, rfl, po2⟩ := toI_bind po
  obtain ⟨k2, rfl, po3⟩ := toI_bind po2
  obtain ⟨hr, po⟩ := rangeD_bind po3
  refine ⟨k, k2, rv.rs.int, rv2.rs.int, rgOk_rg hr, fun p hp => ?_⟩
  exact po _ _ (Gr.new g2.s hp) _ (Rm.of (.lst (.inl upd_same) (rgV_dvs _ _)))
theorem sTrange {p p2 q : Pos} (O : Ok c Γ hx X W) (hh : Γ.hot = false) (h1 : kGl Γ "tuple" = true) (h2 : kGl Γ "range" = true) (hn : nst a = true) (ha : PE X a (tM c hx X.K W ma)) : PE X (.Call (.Name "tuple" p) [.Call (.Name "range" p2) [a] [] q] [] pos) (tM c hx X.K W (.trange ma)) := by
  obtain ⟨g1, g2, g3⟩ := kGl_iff O h1
  obtain ⟨k1, k2, k3⟩ := kGl_iff O h2
  refine peImp (pe_tupRg (O.calm hh) g1 (O.free _ (by decide)) (prg_1 k1 (O.free _ (by decide)) ha (nst_star hn)) rfl) fun σ H Q ⟨ρ, F, rep, po⟩ => ?_
  have po : Po W X.K σ F H ((evE c ma ρ).bind fun x => (toI x).bind fun n => (rangeD 0 n).bind fun xs => R.ok (PyData.tuple xs)) _ := po
  refine ⟨ρ, F, rep, po.bind.imp fun d F1 H1 _ g1 po v rv => ?_⟩
  obtain ⟨k, rfl, po2⟩ := toI_bind po
  obtain ⟨hr, po⟩ := rangeD_bind po2
  refine ⟨k, rv.rs.int, rgOk_rg hr, fun p hp => ?_⟩
  exact po _ _ (Gr.new g1.s hp) _ (Rm.of (.tup (.inl (.inl upd_same)) (rgV_dvs _ _)))
/-! ### [f, g, h][i](..) -/
/-- where a def lies -/
def adr (X : Cx) (f : Str) : Addr := match X.mg f with
  | some (.ref a) => a
  | _ => 0
theorem okFs_pa (O : Ok c Γ hx X W) (hh : Γ.hot = false) : ∀ {fs : List Str} {es : List Expr}, okFs Γ fs es = true → PA X es (fun _ H Q => Q (fs.map fun f => V.ref (adr X f)) H) ∧ (∀ f ∈ fs, f ∈ Γ.fs)
  | [], [], _ => ⟨paImp pa_nil fun σ H Q q => q, fun _ h => by cases h⟩
  | f :: fs, e :: es, h => by
    cases e with
    | Name x p =>
      simp only [okFs, Bool.and_eq_true, decide_eq_true_eq] at h
      obtain ⟨⟨rfl, h1⟩, h2⟩ := h
      obtain ⟨ih, im⟩ := okFs_pa O hh h2
      obtain ⟨g1, g2, g3, g4⟩ := okG_iff O h1
      obtain ⟨k, ad, fd, ps, room, hm, kp, bd, F⟩ := O.calls hh f g4
      refine ⟨paImp (pa_cons (pe_glob (pos := p) g1 hm (show RelV (V.ref ad) (.ref ad) from rfl) g2) ih rfl) fun σ H Q q => ?_, fun z hz => ?_⟩
      · have e : adr X f = ad := by simp [adr, hm]
        show Q (V.ref ad :: fs.map fun f => V.ref (adr X f)) H
        rw [← e]
        exact q
      · rcases List.mem_cons.mp hz with rfl | hz
        · exact g4
        · exact im z hz
    | _ => simp [okFs] at h
  | [], _ :: _, h => by simp [okFs] at h
  | _ :: _, [], h => by simp [okFs] at h
theorem atI_map {α β : Type} (f : α → β) (xs : List α) (i : Int) : atI (xs.map f) i = (atI xs i).map f := by
  unfold atI
  rw [List.length_map]
  cases ixN xs.length i with
  | none => rfl
  | some j => simp
theorem sCallS {fs : List Str} {ns es : List Expr} {ix : ME} {y : Expr} {ms : MEs} {p p2 : Pos} (O : Ok c Γ hx X W) (hh : Γ.hot = false) (hf : okFs Γ fs ns = true) (hl : fs.length ≤ 1000) (hp : plainIx y = true) (hs : sfs ms = true) (hy : PE X y (tM c hx X.K W ix)) (hk : chkEs Γ ms (e :: es) = true) (ha : PA X (e :: es) (tMs c hx X.K W ms)) :
    PE X (.Call (.Subscript (.List ns p) y p2) (e :: es) [] pos) (tM c hx X.K W (.callS fs ix ms)) := by
  obtain ⟨fa, fm⟩ := okFs_pa O hh hf
  obtain ⟨s1, s2⟩ := chkEs_star (env := X.env) (pos := pos) hk
  refine ⟨fun pins s σ H Q I ⟨ρ, F, rep, po⟩ => ?_⟩
  have po : Po W X.K σ F H ((evE c ix ρ).bind fun i => (toI i).bind fun n => (ofO (ixD fs n)).bind fun f => (evEs c ms ρ).bind fun ds => c.cal f ds) _ := po
  have hfe : PE X (.Subscript (.List ns p) y p2) _ := pe_ix ix_list (pe_lst fa) hy (plainIx_ok hp)
  refine Call_ (thn (hfe.run pins s σ H (fun v H1 => ∃ f ∈ fs, v = V.ref (adr X f) ∧ ∃ F1, Rep hx X.K F1 H1 σ ρ ∧ Po W X.K σ F1 H1 ((evEs c ms ρ).bind fun ds => c.cal f ds) fun d F' H' => ∀ v, Rm X.K (.callS fs ix ms) F' H' v d → Q v H') I ?_) fun u s1' ⟨v, H1, I1, ru, f, hfm, ev, F1, rep1, po1⟩ => ?_) rfl
  · refine ⟨by rw [List.length_map]; have := sizeLine_big; omega, fun p hpn => ?_⟩
    have g := Gr.loose (o := .lst (fs.map fun f => V.ref (adr X f))) rep.s hpn
    refine ⟨ρ, F, rep.gr g, (po.gr g).bind.imp fun d F1 H1 _ g1 po v rv => ?_⟩
    obtain ⟨k, rfl, po2⟩ := toI_bind po
    obtain ⟨f, ef, po⟩ := ofO_bind po2
    refine ⟨p, _, k, V.ref (adr X f), rfl, rv.rs.int, .inl (.inl (g1.h _ _ upd_same)), by rw [atI_map]; exact congrArg (Option.map _) ef, f, ?_, rfl, F1, (rep.gr g).gr g1, po⟩
    have ef : atI fs k = some f := ef
    unfold atI at ef
    cases qi : ixN fs.length k with
    | none => rw [qi] at ef; cases ef
    | some j => rw [qi] at ef; exact List.mem_of_getElem? ef
  · subst ev
    obtain ⟨k, ad, fd, ps, room, hm, kp, bd, Fo⟩ := O.calls hh f (fm f hfm)
    have ea : adr X f = ad := by simp [adr, hm]
    rw [ea] at ru
    cases (show u = Value.ref ad from ru)
    refine PySem.W.callWith_K (h₀ := X.base) I1.ok.mod.kin kp (thn (ha.run pos pins s1' σ H1 (fun vs H2 => spF X.K c.cal f vs H2 Q fun cls d H' => W cls d σ H') I1 ⟨ρ, F1, rep1, po1.bind.imp fun ds F2 H2 _ g2 po vs rvs => ?_⟩) fun us s2' ⟨vs, H2, I2, r, q⟩ => ⟨I2.kIn, run_fnS (E := fun σ => fun cls d H' => W cls d σ H') Fo room bd (L2N.passAt O.tk σ) I2 r q⟩) s1 s2
    refine ⟨F2, ds, g2.s, rvs.dvs hs, ?_⟩
    cases q : c.cal f ds with
    | ok d =>
      rw [q] at po
      exact fun F3 H3 g v dv => po F3 H3 g v (Rm.of dv)
    | ex k =>
      rw [q] at po
      exact po
    | no =>
      rw [q] at po
      exact po.elim
end
end Wq

end
section
set_option Elab.async false
set_option linter.all false
set_option autoImplicit false
set_option maxRecDepth 100000
set_option maxHeartbeats 3200000
/-! set(xs) of a list, of a tuple: by what an item does to the set. -/
namespace Wq
open PySem PySem.Spec PyProof.Rows L2
section
variable {P : Program} {w : World} {A : Around} {E : Value → Shared → Prop} {s : Shared}
abbrev set0 (w : World) : Obj := { cls := .type "set", dict := none, data := .set #[] 0 (.fresh 0 0 (!w.params.followText "set-order")) }
/-- one item is put in -/
def AddOk (P : Program) (w : World) (A : Around) (S : Addr) (h0 : Heap) (n : Nat) (Pv : Nat → Value → Prop) (J : Nat → Heap → Prop) : Prop :=
  ∀ (i : Nat) (v : Value) (s : Shared) (Q : Bool → Shared → Prop) (E : Value → Shared → Prop), i < n → Pv i v → J i s.heap → (∀ b o, h0.get? b = some o → s.heap.get? b = some o) →
    (∀ b h' tk, s.toks ≤ tk → Heap.SameBut S s.heap h' → J (i + 1) h' → Q b { s with heap := h', toks := tk }) → wpAny (model P w) A (setAdd S v) Q E s
theorem set_loop {I : Addr} {fp wr : List Addr} {G : Array GenState → Array GenState → Prop} {n : Nat} {Pv : Nat → Value → Prop} {St : Nat → Shared → Prop} {R : Result → Shared → Prop}
    (W : WalksS P w A.in1 I fp wr G n Pv St) (S : Addr) (hSf : S ∉ fp) (h0 : Heap) (hS0 : h0.get? S = none) (hw0 : ∀ b ∈ wr, h0.get? b = none) (J : Nat → Heap → Prop)
    (hkeep : ∀ i h h', J i h → (∀ o, h.get? S = some o → h'.get? S = some o) → (∀ b o, h0.get? b = some o → h'.get? b = some o) → J i h') (hadd : AddOk P w A.in1 S h0 n Pv J) :
    ∀ (k i : Nat) (s : Shared), n - i = k → i ≤ n → St i s → (∀ b o, h0.get? b = some o → s.heap.get? b = some o) → J i s.heap →
      (∀ s', Moved (S :: wr) G s s' → J n s'.heap → (∀ b o, h0.get? b = some o → s'.heap.get? b = some o) → R (.ok (.ret .none)) s') →
      codeAny (model P w) A (.builtin "set.update.loop" ⟨[.ref S, .ref I], []⟩) R s := by
  have hSw : S ∉ wr := fun h => hSf (W.sub _ h)
  have hsub : ∀ b ∈ wr, b ∈ S :: wr := fun b hb => List.mem_cons_of_mem _ hb
  have keepM : ∀ {s s' : Shared}, Moved wr G s s' → (∀ b o, h0.get? b = some o → s.heap.get? b = some o) → ∀ b o, h0.get? b = some o → s'.heap.get? b = some o := fun hm hkp b o e =>
    hm.heap b o (fun hb => by rw [hw0 b hb] at e; cases e) (hkp b o e)
  intro k
  induction k with
  | zero =>
    intro i s hk hi hst hkp hJ hR
    have hin : i = n := by omega
    subst hin
    refine codeAny_builtin PyProof.Rows.F.entry_set_update_loop ?_
    rw [Around.under_plainId PyProof.Rows.F.plain_set_update_loop _]
    show wpAny _ A.in1 (pyNext (.ref I) >>= _) _ _ s
    refine wpAny_bind (W.done s _ _ hst fun s' hm => ?_)
    show wpAny _ A.in1 (ret Value.none) _ _ s'
    have hkp' := keepM hm hkp
    exact wpAny_pure (hR s' (hm.mono hsub) (hkeep _ _ _ hJ (fun o e => hm.heap S o hSw e) hkp') hkp')
  | succ k ih =>
    intro i s hk hi hst hkp hJ hR
    have hlt : i < n := by omega
    refine codeAny_builtin PyProof.Rows.F.entry_set_update_loop ?_
    rw [Around.under_plainId PyProof.Rows.F.plain_set_update_loop _]
    show wpAny _ A.in1 (pyNext (.ref I) >>= _) _ _ s
    refine wpAny_bind (W.item i s _ _ hlt hst fun v s' hP hst' hm => ?_)
    have hkp' := keepM hm hkp
    have hJ' := hkeep _ _ s'.heap hJ (fun o e => hm.heap S o hSw e) hkp'
    show wpAny _ A.in1 (holding [v] (setAdd S v) >>= _) _ _ s'
    refine wpAny_bind (wpAny_holding ?_)
    refine hadd i v s' _ _ hlt hP hJ' hkp' fun b h' tk htk hsb hJ2 => ?_
    have hkp2 : ∀ b o, h0.get? b = some o → h'.get? b = some o := fun b o e => (hsb.2 b (fun z => by rw [z, hS0] at e; cases e)).trans (hkp' b o e)
    refine wpAny_pure ⟨plainId_quiet PyProof.Rows.F.plain_set_update_loop _, ih (i + 1) _ (by omega) hlt (W.frame _ s' _ _ hst' htk fun b hb o e => ?_) hkp2 hJ2 fun s'' hm'' hJ'' hkp'' => ?_⟩
    · rw [hsb.2 b (fun h : b = S => hSf (by rw [← h]; exact hb))]; exact e
    · refine hR s'' (Moved.trans W.gtrans ((hm.mono hsub).then_heap htk fun b o hb e => ?_) hm'') hJ'' hkp''
      rw [hsb.2 b (fun h : b = S => hb (by rw [h]; exact List.mem_cons_self))]; exact e

/-- set(list) -/
theorem call_set_list {l : Addr} {items : Array Value} {Q : Value → Shared → Prop} (hh : A.handled = none) (hl : s.heap.IsList l items) (J : Nat → Heap → Prop)
    (hkeep : ∀ i h h', J i h → (∀ o, h.get? s.heap.objs.size = some o → h'.get? s.heap.objs.size = some o) → (∀ b o, s.heap.get? b = some o → h'.get? b = some o) → J i h')
    (hadd : AddOk P w A.in1.in1.in1 s.heap.objs.size s.heap items.size (fun i v => items[i]? = some v) J) (h0 : ∀ h, h.get? s.heap.objs.size = some (set0 w) → J 0 h)
    (h : ∀ (h' : Heap) (tk : Nat), J items.size h' → (∀ b o, s.heap.get? b = some o → h'.get? b = some o) → Q (.ref s.heap.objs.size) { s with heap := h', toks := tk }) :
    wpAny (model P w) A (call (.type "set") [.ref l]) Q E s := by
  obtain ⟨c, tl, hmro⟩ := PySem.F.called_set.mro
  have hmade := PySem.F.called_set.made
  have hsub := PySem.F.called_set.sub
  refine wpAny_call (codeAny_of_tree ?_)
  show wpAny _ _ (callAny (.type "set") _) _ _ _
  refine wpAny_pure ⟨Code.quiet_builtin _ (by decide +kernel), codeAny_builtin PySem.F.entry_type_call ?_⟩
  rw [Around.under_plain (weight_type_call_type "set" [.ref l] []) rfl]
  have h1 := PySem.F.called_set.notType
  have h2 := PySem.F.called_set.canCreate
  have hct := PySem.F.typeCall_set_1 (.ref l)
  repeat (any_goals (first | assumption | wp_step))
  refine codeAny_mono (code_set_led1 (.ref l) (E := E) (Q₁ := fun obj s₁ => obj = .ref s.heap.objs.size ∧ s₁ = { s with heap := s.heap.push (set0 w) }) ⟨rfl, rfl⟩) fun r s₁ hr => ?_
  cases r with
  | error e => exact hr
  | ok fl =>
    cases fl with
    | ret obj =>
      obtain ⟨rfl, rfl⟩ := hr
      have hS : (s.heap.push (set0 w)).get? s.heap.objs.size = some (set0 w) := Heap.get?_push_size _ rfl
      have hT : Shared.TypeIs { s with heap := s.heap.push (set0 w) } (.ref s.heap.objs.size) "set" := ⟨_, hS, rfl⟩
      have hli := PySem.F.called_set.init.lookup
      have hbi := PySem.F.called_set.init.bind (.ref s.heap.objs.size)
      repeat (any_goals (first | assumption | wp_step))
      refine codeAny_mono (codeAny_call_builtin (R := wants (fun r s₂ => r = .none ∧ ∃ h' tk, s₂ = { s with heap := h', toks := tk } ∧ J items.size h' ∧ (∀ b o, s.heap.get? b = some o → h'.get? b = some o)) E)
        PySem.F.called_set.init.plain PySem.F.entry_set_init (check_set_init_1 hT ?_)) fun r₂ s₂ hr₂ => ?_
      · obtain ⟨ol, hol, hcl, nl, hdl⟩ := hl
        obtain ⟨ocls, odict, odata, oslots⟩ := ol
        simp only at hcl hdl
        subst hcl; subst hdl
        have hol' : (s.heap.push (set0 w)).get? l = some { cls := .type "list", dict := odict, data := .seq items nl, slots := oslots } := Heap.get?_push_of_some _ hol
        have hsls := PySem.F.sub_list_set
        have hslf := PySem.F.sub_list_frozenset
        have hne : (Value.type "list" == Value.type "dict") = false := by decide
        have hl1 : (s.heap.push (set0 w)).IsList l items := ⟨_, hol', rfl, nl, rfl⟩
        unfold Builtin.«set.__init__» noKeywords Builtin.Frozenset.updateFrom
        generalize hPI : pyIter = PI
        wp_walk
        subst hPI
        refine wpAny_pyIter_list hl1 ?_
        refine wpAny_bind (wpAny_runValue ?_)
        have hlS : l < s.heap.objs.size := Heap.lt_size hol
        have hh3 : A.in1.in1.in1.handled = none := by simp [hh]
        have hneI : l ≠ (s.heap.push (set0 w)).objs.size := by
          rw [Heap.size_push]; exact Nat.ne_of_lt (Nat.lt_succ_of_lt hlS)
        have hSf : s.heap.objs.size ∉ [(s.heap.push (set0 w)).objs.size, l] := by
          rw [Heap.size_push]; simp only [List.mem_cons, List.mem_singleton, List.not_mem_nil, or_false, not_or]
          exact ⟨Nat.ne_of_lt (Nat.lt_succ_self _), Nat.ne_of_gt hlS⟩
        have hnone : ∀ b, s.heap.objs.size ≤ b → s.heap.get? b = none := fun b hb => by
          cases q : s.heap.get? b with
          | none => rfl
          | some o => exact absurd (Heap.lt_size q) (Nat.not_lt_of_le hb)
        have hk0 : ∀ b o, s.heap.get? b = some o → ((s.heap.push (set0 w)).push { cls := .type "list_iterator", data := .fields #[.ref l, .int 0 0] }).get? b = some o := fun b o e => Heap.get?_push_of_some _ (Heap.get?_push_of_some _ e)
        refine set_loop ((Walks.list hh3 _ l hneI items).toS) s.heap.objs.size hSf s.heap (hnone _ (Nat.le_refl _)) (fun b hb => ?_) J hkeep ?hA (items.size - 0) 0 _ (by omega) (Nat.zero_le _)
          ⟨⟨_, Heap.get?_push_size _ rfl, rfl, rfl⟩, (hl1.push _)⟩ hk0 (h0 _ (Heap.get?_push_of_some _ hS)) ?hR
        case hA => exact hadd
        case hR =>
          intro s' hm hJ hkp
          obtain ⟨h', g2, d', tk', os'⟩ := s'
          have eg : g2 = s.gens := hm.gens
          have ed : d' = s.drawn := hm.drawn
          have eo : os' = s.os := hm.os
          subst eg; subst ed; subst eo
          show wpAny _ _ _ _ _ _
          refine wpAny_pure ?_
          show wpAny _ _ (ret Value.none) _ _ _
          exact wpAny_pure ⟨rfl, h', tk', rfl, hJ, hkp⟩
        · rw [List.mem_singleton.mp hb]
          exact hnone _ (by rw [Heap.size_push]; exact Nat.le_succ _)
      · cases r₂ with
        | error e => exact hr₂
        | ok fl₂ =>
          cases fl₂ with
          | ret r =>
            obtain ⟨rfl, h', tk, rfl, hJ, hkp⟩ := hr₂
            repeat (any_goals (first | assumption | wp_step))
            exact h _ _ hJ hkp
          | _ => exact hr₂.elim
    | _ => exact hr.elim

/-- set(tuple) -/
theorem call_set_tuple {l : Addr} {items : Array Value} {Q : Value → Shared → Prop} (hh : A.handled = none) (hl : s.heap.IsTuple l items) (J : Nat → Heap → Prop)
    (hkeep : ∀ i h h', J i h → (∀ o, h.get? s.heap.objs.size = some o → h'.get? s.heap.objs.size = some o) → (∀ b o, s.heap.get? b = some o → h'.get? b = some o) → J i h')
    (hadd : AddOk P w A.in1.in1.in1 s.heap.objs.size s.heap items.size (fun i v => items[i]? = some v) J) (h0 : ∀ h, h.get? s.heap.objs.size = some (set0 w) → J 0 h)
    (h : ∀ (h' : Heap) (tk : Nat), J items.size h' → (∀ b o, s.heap.get? b = some o → h'.get? b = some o) → Q (.ref s.heap.objs.size) { s with heap := h', toks := tk }) :
    wpAny (model P w) A (call (.type "set") [.ref l]) Q E s := by
  obtain ⟨c, tl, hmro⟩ := PySem.F.called_set.mro
  have hmade := PySem.F.called_set.made
  have hsub := PySem.F.called_set.sub
  refine wpAny_call (codeAny_of_tree ?_)
  show wpAny _ _ (callAny (.type "set") _) _ _ _
  refine wpAny_pure ⟨Code.quiet_builtin _ (by decide +kernel), codeAny_builtin PySem.F.entry_type_call ?_⟩
  rw [Around.under_plain (weight_type_call_type "set" [.ref l] []) rfl]
  have h1 := PySem.F.called_set.notType
  have h2 := PySem.F.called_set.canCreate
  have hct := PySem.F.typeCall_set_1 (.ref l)
  repeat (any_goals (first | assumption | wp_step))
  refine codeAny_mono (code_set_led1 (.ref l) (E := E) (Q₁ := fun obj s₁ => obj = .ref s.heap.objs.size ∧ s₁ = { s with heap := s.heap.push (set0 w) }) ⟨rfl, rfl⟩) fun r s₁ hr => ?_
  cases r with
  | error e => exact hr
  | ok fl =>
    cases fl with
    | ret obj =>
      obtain ⟨rfl, rfl⟩ := hr
      have hS : (s.heap.push (set0 w)).get? s.heap.objs.size = some (set0 w) := Heap.get?_push_size _ rfl
      have hT : Shared.TypeIs { s with heap := s.heap.push (set0 w) } (.ref s.heap.objs.size) "set" := ⟨_, hS, rfl⟩
      have hli := PySem.F.called_set.init.lookup
      have hbi := PySem.F.called_set.init.bind (.ref s.heap.objs.size)
      repeat (any_goals (first | assumption | wp_step))
      refine codeAny_mono (codeAny_call_builtin (R := wants (fun r s₂ => r = .none ∧ ∃ h' tk, s₂ = { s with heap := h', toks := tk } ∧ J items.size h' ∧ (∀ b o, s.heap.get? b = some o → h'.get? b = some o)) E)
        PySem.F.called_set.init.plain PySem.F.entry_set_init (check_set_init_1 hT ?_)) fun r₂ s₂ hr₂ => ?_
      · obtain ⟨ol, hol, hcl, nl, hdl⟩ := hl
        obtain ⟨ocls, odict, odata, oslots⟩ := ol
        simp only at hcl hdl
        subst hcl; subst hdl
        have hol' : (s.heap.push (set0 w)).get? l = some { cls := .type "tuple", dict := odict, data := .seq items nl, slots := oslots } := Heap.get?_push_of_some _ hol
        have hsls := PySem.F.sub_tuple_set
        have hslf := PySem.F.sub_tuple_frozenset
        have hne : (Value.type "tuple" == Value.type "dict") = false := by decide
        have hl1 : (s.heap.push (set0 w)).IsTuple l items := ⟨_, hol', rfl, nl, rfl⟩
        unfold Builtin.«set.__init__» noKeywords Builtin.Frozenset.updateFrom
        generalize hPI : pyIter = PI
        wp_walk
        subst hPI
        refine wpAny_pyIter_tuple hl1 ?_
        refine wpAny_bind (wpAny_runValue ?_)
        have hlS : l < s.heap.objs.size := Heap.lt_size hol
        have hh3 : A.in1.in1.in1.handled = none := by simp [hh]
        have hneI : l ≠ (s.heap.push (set0 w)).objs.size := by
          rw [Heap.size_push]; exact Nat.ne_of_lt (Nat.lt_succ_of_lt hlS)
        have hSf : s.heap.objs.size ∉ [(s.heap.push (set0 w)).objs.size, l] := by
          rw [Heap.size_push]; simp only [List.mem_cons, List.mem_singleton, List.not_mem_nil, or_false, not_or]
          exact ⟨Nat.ne_of_lt (Nat.lt_succ_self _), Nat.ne_of_gt hlS⟩
        have hnone : ∀ b, s.heap.objs.size ≤ b → s.heap.get? b = none := fun b hb => by
          cases q : s.heap.get? b with
          | none => rfl
          | some o => exact absurd (Heap.lt_size q) (Nat.not_lt_of_le hb)
        have hk0 : ∀ b o, s.heap.get? b = some o → ((s.heap.push (set0 w)).push { cls := .type "tuple_iterator", data := .fields #[.ref l, .int 0 0] }).get? b = some o := fun b o e => Heap.get?_push_of_some _ (Heap.get?_push_of_some _ e)
        refine set_loop ((Walks.tuple hh3 _ l hneI items).toS) s.heap.objs.size hSf s.heap (hnone _ (Nat.le_refl _)) (fun b hb => ?_) J hkeep ?hA (items.size - 0) 0 _ (by omega) (Nat.zero_le _)
          ⟨⟨_, Heap.get?_push_size _ rfl, rfl, rfl⟩, (hl1.push _)⟩ hk0 (h0 _ (Heap.get?_push_of_some _ hS)) ?hR
        case hA => exact hadd
        case hR =>
          intro s' hm hJ hkp
          obtain ⟨h', g2, d', tk', os'⟩ := s'
          have eg : g2 = s.gens := hm.gens
          have ed : d' = s.drawn := hm.drawn
          have eo : os' = s.os := hm.os
          subst eg; subst ed; subst eo
          show wpAny _ _ _ _ _ _
          refine wpAny_pure ?_
          show wpAny _ _ (ret Value.none) _ _ _
          exact wpAny_pure ⟨rfl, h', tk', rfl, hJ, hkp⟩
        · rw [List.mem_singleton.mp hb]
          exact hnone _ (by rw [Heap.size_push]; exact Nat.le_succ _)
      · cases r₂ with
        | error e => exact hr₂
        | ok fl₂ =>
          cases fl₂ with
          | ret r =>
            obtain ⟨rfl, h', tk, rfl, hJ, hkp⟩ := hr₂
            repeat (any_goals (first | assumption | wp_step))
            exact h _ _ hJ hkp
          | _ => exact hr₂.elim
    | _ => exact hr.elim
end
end Wq

end
section
set_option Elab.async false
set_option linter.all false
set_option autoImplicit false
set_option maxRecDepth 100000
set_option maxHeartbeats 3200000
/-! Sets of tuples of any depth: numbers, texts, tuples of such. -/
namespace Wq
open PySem PySem.Spec PyProof.Rows L2
section
variable {P : Program} {w : World} {A : Around} {E : Value → Shared → Prop}
theorem all_parts {h : Heap} {n : Nat} : ∀ {ks : List NestedKey} {vs : List Value}, NestedAll h ks vs → NestedKey.depthAll ks ≤ n → ∀ v ∈ vs, ∃ k, NestedIs h k v ∧ k.depth ≤ n
  | [], _, .nil, _, v, hv => by cases hv
  | k :: ks, _ :: vs, .cons h1 h2, hd, v, hv => by
    rw [NestedKey.depthAll] at hd
    rcases List.mem_cons.mp hv with rfl | hv
    · exact ⟨k, h1, by omega⟩
    · exact all_parts h2 (by omega) v hv
/-- a key is of no class statement -/
theorem ofA_key : ∀ (n : Nat) (k : NestedKey) (v : Value) (s : Shared) (Q : Bool → Shared → Prop), NestedIs s.heap k v → k.depth ≤ n → Q false s → wpAny (model P w) A (ofAClassStatement n v) Q E s := by
  intro n
  induction n with
  | zero =>
    intro k v s Q hk hd h
    cases hk with
    | tup => rw [NestedKey.depth] at hd; omega
    | _ => exact wpAny_pure h
  | succ n ih =>
    intro k v s Q hk hd h
    cases hk with
    | @tup a o vs m ks h1 h2 h3 h4 =>
      rw [NestedKey.depth] at hd
      unfold ofAClassStatement
      refine wpAny_bind (wpAny_typeOf (T := "tuple") ⟨o, h1, h2⟩ ?_)
      dsimp only
      have e : (("tuple" : String) == "tuple") = true := by decide
      simp only [e, if_true]
      try refine wpAny_bind (wpAny_pure ?_)
      simp only [Bool.not_true, Bool.false_eq_true, if_false]
      refine wpAny_bind (wpAny_seqItems h1 h3 ?_)
      dsimp only
      refine wpAny_bind ?_
      show wpAny _ _ (forIn vs _ _) _ _ s
      rw [← Array.forIn_toList]
      refine wpAny_forIn_list _ (fun rest r s' => r.1 = none ∧ s' = s ∧ ∀ v ∈ rest, ∃ k, NestedIs s.heap k v ∧ k.depth ≤ n) _ ?_ ?_ _ _ ⟨rfl, rfl, all_parts h4 (by omega)⟩
      · rintro v rest r s' ⟨hr, rfl, hall⟩
        obtain ⟨k, hk, hd⟩ := hall v (by simp)
        refine wpAny_bind (ih k v s' _ hk hd ?_)
        simp only [Bool.false_eq_true, if_false]
        exact wpAny_pure ⟨rfl, rfl, fun u hu => hall u (by simp [hu])⟩
      · rintro ⟨r1, r2⟩ s' ⟨hr, rfl, _⟩
        simp only at hr
        subst hr
        exact wpAny_pure h
    | _ => exact wpAny_pure h
/-- whether its hash is by value is told, one way or the other -/
theorem hashBy_key : ∀ (n : Nat) (k : NestedKey) (v : Value) (s : Shared) (Q : Bool → Shared → Prop), NestedIs s.heap k v → (∀ b, Q b s) → wpAny (model P w) A (hashByValue n v) Q E s := by
  intro n
  induction n with
  | zero =>
    intro k v s Q hk h
    cases hk with
    | _ => exact wpAny_pure (h _)
  | succ n ih =>
    intro k v s Q hk h
    cases hk with
    | @tup a o vs m ks h1 h2 h3 h4 =>
      unfold hashByValue
      refine wpAny_bind (wpAny_specialOf (T := "tuple") ⟨o, h1, h2⟩ F.slot_tuple_hash.lookup ?_)
      refine wpAny_bind (wpAny_seqItems h1 h3 ?_)
      refine wpAny_bind ?_
      show wpAny _ _ (forIn vs _ _) _ _ s
      rw [← Array.forIn_toList]
      refine wpAny_forIn_list _ (fun rest r s' => r.1 = none ∧ s' = s ∧ ∀ v ∈ rest, ∃ k, NestedIs s.heap k v ∧ k.depth ≤ NestedKey.depthAll ks) _ ?_ ?_ _ _ ⟨rfl, rfl, all_parts h4 (Nat.le_refl _)⟩
      · rintro v rest r s' ⟨hr, rfl, hall⟩
        obtain ⟨k, hk, hd⟩ := hall v (by simp)
        refine wpAny_bind (ih k v s' _ hk fun b => ?_)
        cases b with
        | true =>
          simp only [Bool.not_true, Bool.false_eq_true, if_false]
          exact wpAny_pure ⟨rfl, rfl, fun u hu => hall u (by simp [hu])⟩
        | false =>
          simp only [Bool.not_false, if_true]
          exact wpAny_pure (wpAny_pure (h _))
      · rintro ⟨r1, r2⟩ s' ⟨hr, rfl, _⟩
        simp only at hr
        subst hr
        exact wpAny_pure (h _)
    | _ => exact wpAny_pure (h _)
/-- what stands in a set's row -/
def KeyAt (h : Heap) (v : Value) (k : NestedKey) : Prop := NestedIs h k v ∧ k.depth ≤ 8 ∧ ∃ a, v = .ref a
theorem KeyAt.to {h h' : Heap} {v : Value} {k : NestedKey} (x : KeyAt h v k) (hk : ∀ b o, h.get? b = some o → h'.get? b = some o) : KeyAt h' v k :=
  ⟨NestedIs.at (fun a o _ _ e _ => hk a o e) _ _ x.1, x.2⟩
theorem KeyAt.inj {h : Heap} {v : Value} {k k' : NestedKey} (x : KeyAt h v k) (y : KeyAt h v k') : k = k' := NestedIs.inj _ _ _ x.1 y.1
theorem seen_key {s : Shared} {v : Value} {k : NestedKey} {ys : List Value} {Q : Bool → Shared → Prop} (hv : KeyAt s.heap v k) (hy : ∀ y ∈ ys, ∃ k', KeyAt s.heap y k') (h : Q false s) : wpAny (model P w) A (searchCouldBeSeen v ys) Q E s := by
  obtain ⟨h1, h2, b, rfl⟩ := hv
  unfold searchCouldBeSeen
  refine wpAny_bind ?_
  refine wpAny_forIn_list _ (fun rest r s' => r.1 = none ∧ s' = s ∧ ∀ y ∈ rest, ∃ k', KeyAt s.heap y k') _ ?_ ?_ _ _ ⟨rfl, rfl, hy⟩
  · rintro y rest r s' ⟨hr, rfl, hall⟩
    obtain ⟨k', g1, g2, c, rfl⟩ := hall y (by simp)
    have nxt : ∀ y ∈ rest, ∃ k', KeyAt s'.heap y k' := fun u hu => hall u (by simp [hu])
    dsimp only
    split
    · exact wpAny_pure ⟨rfl, rfl, nxt⟩
    · refine wpAny_bind ((nestedKind P w).quiet (k := k) ⟨h1, h2⟩ ?_)
      simp only [Bool.not_true, Bool.false_eq_true, if_false]
      refine wpAny_bind ((nestedKind P w).quiet (k := k') ⟨g1, g2⟩ ?_)
      simp only [Bool.not_true, Bool.false_eq_true, if_false]
      refine wpAny_bind (ofA_key 8 k _ _ _ h1 h2 ?_)
      simp only [Bool.false_eq_true, if_false]
      refine wpAny_bind (ofA_key 8 k' _ _ _ g1 g2 ?_)
      simp only [Bool.false_eq_true, if_false]
      exact wpAny_pure ⟨rfl, rfl, nxt⟩
  · rintro ⟨r1, r2⟩ s' ⟨hr, rfl, _⟩
    simp only at hr
    subst hr
    exact wpAny_pure h
/-! ### the set -/
structure SH (w : World) (h0 h : Heap) (S : Addr) (es : Array (Int × Value)) (ep : Nat) (t : SetTable) : Prop where
  ob : ∃ o, h.get? S = some o ∧ o.ExactSet ∧ o.data = .set es ep t
  ent : ∀ e ∈ es.toList, ∃ k, KeyAt h0 e.2 k ∧ e.1 = k.hash w
  dis : es.toList.Pairwise fun e e' => ∀ k, KeyAt h0 e.2 k → ¬ KeyAt h0 e'.2 k
  tab : TabOk t (es.toList.map (·.1))
  led : w.params.followText "set-order" = true ∨ t.led = true
  room : es.size * 5 < t.mask * 3
variable {h0 h : Heap} {S : Addr} {es : Array (Int × Value)} {ep : Nat} {t : SetTable}
theorem SH.fits (R : SH w h0 h S es ep t) : t.fits es.size = true := by
  have h1 : t.place.size = es.size := by
    have := R.tab.sz
    simpa using this
  have h2 := R.room
  have h3 : t.fill = t.place.size + t.dummies.size := rfl
  have h4 : t.dummies.size = 0 := by rw [R.tab.dm]; rfl
  simp only [SetTable.fits, Bool.and_eq_true, beq_iff_eq, decide_eq_true_eq]
  exact ⟨h1, by omega⟩
/-- is among them -/
def HasK (h0 : Heap) (es : Array (Int × Value)) (k : NestedKey) : Prop := ∃ e ∈ es.toList, KeyAt h0 e.2 k
abbrev stp (m : Nat) (k : Int) (c : Nat) : SetTable.Probe := nth m (runAt m (SetTable.bits k % (m + 1)) (SetTable.bits k)) c
theorem stp_dummy (m : Nat) (k : Int) : ∀ c, (stp m k c).dummy = none
  | 0 => rfl
  | c + 1 => by
    have := stp_dummy m k c
    rw [stp, nth_succ]
    unfold adv
    split <;> exact this
theorem searchH {s : Shared} (R : SH w h0 s.heap S es ep t) (hkp : ∀ b o, h0.get? b = some o → s.heap.get? b = some o) {x : Value} {k : NestedKey} (hx : KeyAt h0 x k) (hu : A.units + 8 < cLine) {K : Nat} (hKf : K < 10 * SetTable.turns t.mask)
    (hK : way t.mask (k.hash w) K ∉ t.place.toList) (hKb : ∀ c, c < K → way t.mask (k.hash w) c ∈ t.place.toList) {Q : SetFound → Shared → Prop}
    (hin : HasK h0 es k → Q (.there none) s) (hout : ¬ HasK h0 es k → Q (.free (way t.mask (k.hash w) K) false) s) :
    ∀ (f c : Nat) (st : Option SetTable.Probe), st.getD (t.probeStart (k.hash w)) = stp t.mask (k.hash w) c → c ≤ K → K - c < f →
      (∀ (i : Nat) e, es.toList[i]? = some e → KeyAt h0 e.2 k → ∃ c', c ≤ c' ∧ c' < K ∧ t.place.toList[i]? = some (way t.mask (k.hash w) c')) →
      wpAny (model P w) A (setSearchFrom S x (k.hash w) true f st) Q E s := by
  intro f
  induction f with
  | zero => intro c st _ _ hf; omega
  | succ f ih =>
    intro c st hst hc hf hre
    obtain ⟨o, ho, hex, hd⟩ := R.ob
    have gw : ¬ t.gaveWay = true := by
      unfold SetTable.gaveWay
      rw [mask_odd R.tab.mok]
      decide
    have ej : ∀ q, (nth t.mask (stp t.mask (k.hash w) c) q).j = way t.mask (k.hash w) (c + q) := fun q => congrArg SetTable.Probe.j (nth_add t.mask c _ q).symm
    rw [setSearchFrom_succ]
    refine wpAny_bind (wpAny_setState_of ho hd R.fits ?_)
    dsimp only
    refine wp_if_neg gw ?_
    try refine wpAny_bind (wpAny_pure ?_)
    have sp := go_spec t R.tab.ris R.tab.dm (fun i => (es[i]?.map (·.1)).getD 0) (k.hash w) (10 * SetTable.turns t.mask) (K - c) (stp t.mask (k.hash w) c) (stp_dummy _ _ c) (by omega)
      (fun q hq => by rw [ej]; exact hKb _ (by omega)) (by rw [ej, Nat.add_sub_cancel' hc]; exact hK)
    have hkey : ∀ (i : Nat) e, es.toList[i]? = some e → KeyAt h0 e.2 k → (es[i]?.map (·.1)).getD 0 = k.hash w := fun i e he hke => by
      obtain ⟨k2, g1, g2⟩ := R.ent e (List.mem_of_getElem? he)
      rw [← Array.getElem?_toList, he, show k = k2 from hke.inj g1]
      exact g2
    rcases sp with ⟨q, i, hq, hi, hh, hno, hpr⟩ | ⟨hno, hpr⟩
    · rw [ej] at hi
      have nxt : nth t.mask (stp t.mask (k.hash w) c) (q + 1) = stp t.mask (k.hash w) (c + (q + 1)) := (nth_add t.mask c _ (q + 1)).symm
      rw [ej, nxt] at hpr
      have hpr' : t.probe (fun i => (es[i]?.map (·.1)).getD 0) (k.hash w) (st.getD (t.probeStart (k.hash w))) = some (.candidate (way t.mask (k.hash w) (c + q)) i (stp t.mask (k.hash w) (c + (q + 1)))) := by
        rw [hst]
        exact hpr
      rw [hpr']
      dsimp only
      have hil : i < es.toList.length := by
        have h1 := (List.getElem?_eq_some_iff.mp hi).1
        have h2 := R.tab.sz
        rw [List.length_map] at h2
        rw [Array.length_toList] at h1
        omega
      obtain ⟨e, he⟩ : ∃ e, es.toList[i]? = some e := ⟨_, List.getElem?_eq_getElem hil⟩
      obtain ⟨k2, g1, g2⟩ := R.ent e (List.mem_of_getElem? he)
      have he' : es[i]? = some e := by rw [← Array.getElem?_toList]; exact he
      have hsl : t.slot (way t.mask (k.hash w) (c + q)) = .live i := slot_live R.tab.ris hi
      have rest : wpAny (model P w) A (searchRest S x (k.hash w) true f es t (way t.mask (k.hash w) (c + q)) i (stp t.mask (k.hash w) (c + (q + 1)))) Q E s := by
        obtain ⟨x1, x2, xa, rfl⟩ := hx.to hkp
        obtain ⟨y1, y2, ya, ey⟩ := g1.to hkp
        obtain ⟨eh, ev⟩ := e
        simp only at ey
        subst ey
        unfold searchRest
        rw [he']
        dsimp only
        refine wpAny_bind (wpAny_holding ((nestedKind P w).eqBool (x := k2) (y := k) hu ⟨y1, y2⟩ ⟨x1, x2⟩ ?_))
        refine wpAny_bind (wpAny_setState_of ho hd R.fits ?_)
        dsimp only
        by_cases hkk : k2 = k
        · refine wp_if_pos (by simp [hkk]) ?_
          exact wpAny_pure (hin ⟨_, List.mem_of_getElem? he, hkk ▸ g1⟩)
        · refine wp_if_neg (by simp [hkk]) ?_
          try refine wpAny_bind (wpAny_pure ?_)
          rw [sameMem]
          dsimp only
          simp only [if_true, hsl, he']
          refine wpAny_bind (wpAny_isSame_ref_self (wpAny_bind (wpAny_pure ?_)))
          simp only [if_true]
          refine wp_if_neg (by simp [hkk]) ?_
          refine ih (c + (q + 1)) _ rfl (by omega) (by omega) fun i0 e0 h00 hk0 => ?_
          obtain ⟨c', a1, a2, a3⟩ := hre i0 e0 h00 hk0
          refine ⟨c', ?_, a2, a3⟩
          have n1 : ¬ c' < c + q := fun z => hno (c' - c) i0 (by omega) (by rw [ej, Nat.add_sub_cancel' a1]; exact a3) (hkey i0 e0 h00 hk0)
          have n2 : ¬ c' = c + q := fun z => by
            have s0 := slot_live R.tab.ris a3
            rw [z, hsl] at s0
            injection s0 with s0
            rw [← s0, he] at h00
            cases h00
            exact hkk (g1.inj hk0)
          omega
      by_cases hl : t.led = true
      · refine wp_if_neg (by simp [hl]) ?_
        try refine wpAny_bind (wpAny_pure ?_)
        exact rest
      · refine wp_if_pos (by simp [hl]) ?_
        refine wpAny_bind (seen_key (hx.to hkp) (fun y hy => ?_) ?_)
        · obtain ⟨e2, he2, rfl⟩ := List.mem_map.mp hy
          have he3 : e2 ∈ es.toList := by
            have : e2 ∈ es ∧ e2.1 = k.hash w := by simpa using he2
            simpa using this.1
          obtain ⟨k3, g3, _⟩ := R.ent e2 he3
          exact ⟨k3, g3.to hkp⟩
        · refine wp_if_neg (by decide) ?_
          try refine wpAny_bind (wpAny_pure ?_)
          exact rest
    · rw [ej, Nat.add_sub_cancel' hc] at hpr
      have hpr' : t.probe (fun i => (es[i]?.map (·.1)).getD 0) (k.hash w) (st.getD (t.probeStart (k.hash w))) = some (.empty (way t.mask (k.hash w) K) none) := by
        rw [hst]
        exact hpr
      rw [hpr']
      dsimp only
      refine wpAny_pure (hout fun ⟨e, he, hke⟩ => ?_)
      obtain ⟨i0, hi0, e0⟩ := List.getElem_of_mem he
      have h00 : es.toList[i0]? = some e := by rw [List.getElem?_eq_getElem hi0, e0]
      obtain ⟨c', a1, a2, a3⟩ := hre i0 e h00 hke
      exact hno (c' - c) i0 (by omega) (by rw [ej, Nat.add_sub_cancel' a1]; exact a3) (hkey i0 e h00 hke)
/-! ### laid anew -/
theorem range_all {α : Type} : ∀ l : List α, (List.range l.length).filterMap (fun i => l[i]?) = l := fun l => by
  induction l with
  | nil => rfl
  | cons a l ih =>
    rw [List.length_cons, List.range_succ_eq_map, List.filterMap_cons]
    simp only [List.getElem?_cons_zero, List.filterMap_map, List.cons.injEq, true_and]
    exact ih
theorem order_perm {es : Array (Int × Value)} {order : Array Nat} (hp : order.toList.Perm (List.range es.size)) :
    (order.filterMap (es[·]?)).toList.Perm es.toList ∧ (order.filterMap (es[·]?)).toList.map (·.1) = order.toList.map fun i => (es.map (·.1)).getD i 0 := by
  have e : (order.filterMap (es[·]?)).toList = order.toList.filterMap fun i => es.toList[i]? := by
    rw [Array.toList_filterMap]
    simp
  rw [e]
  refine ⟨?_, ?_⟩
  · have := hp.filterMap (fun i => es.toList[i]?)
    rw [show es.size = es.toList.length from rfl, range_all] at this
    exact this
  · have all : ∀ i ∈ order.toList, i < es.size := fun i hi => List.mem_range.mp (hp.mem_iff.mp hi)
    revert all
    generalize order.toList = l
    intro all
    induction l with
    | nil => rfl
    | cons i l ih =>
      have hi := all i (by simp)
      have e1 : es.toList[i]? = some es[i] := by rw [Array.getElem?_toList, Array.getElem?_eq_getElem hi]
      rw [List.filterMap_cons, e1]
      simp only [List.map_cons]
      rw [ih fun j hj => all j (by simp [hj])]
      congr 1
      have hm : i < (es.map (·.1)).size := by simpa using hi
      rw [Array.getD_eq_getD_getElem?, Array.getElem?_eq_getElem hm]
      simp
theorem relayH {s : Shared} {o : Obj} (ho : s.heap.get? S = some o) (hex : o.ExactSet) (hd : o.data = .set es ep t) (T : TabOk t (es.toList.map (·.1))) (hfl : es.size ≤ t.mask)
    (ent : ∀ e ∈ es.toList, ∃ k, KeyAt h0 e.2 k ∧ e.1 = k.hash w) (dis : es.toList.Pairwise fun e e' => ∀ k, KeyAt h0 e.2 k → ¬ KeyAt h0 e'.2 k) (led : w.params.followText "set-order" = true ∨ t.led = true) {wanted M : Nat}
    (hw : SetTable.sizeAbove wanted - 1 = M) (hM : MaskOk M) (hw2 : SetTable.sizeAbove wanted ≤ 128) (hn : es.size * 5 < M * 3) {Q : Unit → Shared → Prop}
    (hQ : ∀ h' es' ep' t', Heap.SameBut S s.heap h' → SH w h0 h' S es' ep' t' → es'.toList.Perm es.toList → Q () { s with heap := h' }) : wpAny (model P w) A (setRelay S wanted) Q E s := by
  have hsz : t.place.size = es.size := by
    have := T.sz
    simpa using this
  have hfits : t.fits es.size = true := by
    have h3 : t.fill = t.place.size + t.dummies.size := rfl
    have h4 : t.dummies.size = 0 := by rw [T.dm]; rfl
    simp only [SetTable.fits, Bool.and_eq_true, beq_iff_eq, decide_eq_true_eq]
    exact ⟨hsz, by omega⟩
  obtain ⟨t', order, e, hp, T', em, el, _, _⟩ := relaid_ok t (hs := es.map (·.1)) (wanted := wanted) hw hM (by rw [Array.size_map]; omega)
  rw [Array.size_map] at hp
  obtain ⟨p1, p2⟩ := order_perm hp
  rw [← p2] at T'
  have hs2 : (order.filterMap (es[·]?)).size = es.size := by
    rw [← Array.length_toList, p1.length_eq, Array.length_toList]
  rw [setRelay_eq]
  refine wpAny_bind (wpAny_setState_of ho hd hfits ?_)
  dsimp only
  refine wp_if_neg (by rw [sizeLine_eq]; omega) ?_
  try refine wpAny_bind (wpAny_pure ?_)
  rw [e]
  dsimp only
  refine wpAny_bind ?_
  refine wp_if_neg (by rw [hs2]; simp) ?_
  try refine wpAny_bind (wpAny_pure ?_)
  refine wpAny_pure ?_
  dsimp only
  have hsl : es.size ≤ 128 := by
    rcases hM with z | z | z <;> omega
  refine wpAny_storeSet_of ho hd ?_ (by rw [hs2, sizeLine_eq]; omega)
  refine hQ _ (order.filterMap (es[·]?)) (ep + 1) t' (Heap.SameBut.update ..) ⟨⟨_, store_at ho hd, ⟨hex.1, hex.2.1, hex.2.2⟩, rfl⟩, fun e he => ent e (p1.mem_iff.mp he), ?_, T', by rw [el]; exact led, by rw [hs2, em]; exact hn⟩ p1
  exact (p1.pairwise_iff (fun {a b} hab k g1 g2 => hab k g2 g1)).mpr dis
/-! ### put in -/
theorem pair_ins {α : Type} {r : α → α → Prop} (sy : ∀ {a b}, r a b → r b a) {l : List α} {x : α} {p : Nat} (h : l.Pairwise r) (hx : ∀ y ∈ l, r x y) : (l.take p ++ x :: l.drop p).Pairwise r := by
  have pm : (l.take p ++ x :: l.drop p).Perm (x :: l) := put_perm l p x
  exact (pm.pairwise_iff sy).mpr (List.pairwise_cons.mpr ⟨hx, h⟩)
theorem addH {s : Shared} (R : SH w h0 s.heap S es ep t) (hkp : ∀ b o, h0.get? b = some o → s.heap.get? b = some o) {x : Value} {k : NestedKey} (hx : KeyAt h0 x k) (hu : A.units + 8 < cLine) (few : es.size + 1 < 64) {Q : Bool → Shared → Prop}
    (hQ : ∀ b h' es' ep' t', Heap.SameBut S s.heap h' → SH w h0 h' S es' ep' t' → es'.size ≤ es.size + 1 → (∀ k', HasK h0 es' k' ↔ k' = k ∨ HasK h0 es k') → (∀ e ∈ es'.toList, e ∈ es.toList ∨ e.2 = x) → Q b { s with heap := h' }) :
    wpAny (model P w) A (setAddHashed S x (k.hash w)) Q E s := by
  obtain ⟨o, ho, hex, hd⟩ := R.ob
  have room := R.room
  obtain ⟨K, hKf, hK, hKb⟩ := R.tab.first (by rw [List.length_map, Array.length_toList]; omega) (k.hash w)
  have big : K < 100000 := by
    unfold SetTable.turns at hKf
    rcases R.tab.mok with z | z | z <;> omega
  unfold setAddHashed
  refine wpAny_holding ?_
  rw [show (100000 : Nat) = 99999 + 1 from rfl, setAddHashedIn_succ]
  refine wpAny_bind (wpAny_setState_of ho hd R.fits ?_)
  dsimp only
  have nsc : ¬ byScan x es = true := by
    obtain ⟨_, _, a, rfl⟩ := hx
    simp [byScan, Value.scannable]
  refine wp_if_neg nsc ?_
  try refine wpAny_bind (wpAny_pure ?_)
  refine wpAny_bind (searchH R hkp hx hu hKf hK hKb (fun hm => ?_) (fun hm => ?_) 100000 0 none rfl (Nat.zero_le _) (by omega) fun i e he hke => ?_)
  · dsimp only
    refine wpAny_pure (hQ false s.heap es ep t (Heap.SameBut.refl S s.heap) R (by omega) (fun k' => ⟨.inr, fun z => ?_⟩) fun e he => .inl he)
    rcases z with rfl | z
    · exact hm
    · exact z
  · dsimp only
    refine wpAny_bind (wpAny_setState_of ho hd R.fits ?_)
    dsimp only
    obtain ⟨q1, q2, q3, q4, q5, q6, q7, q8, q9⟩ := R.tab.put hK hKb
    generalize hpt : t.put (way t.mask (k.hash w) K) = pt at q1 q3 q4 q5 q6 q7 q8 q9 ⊢
    obtain ⟨t1, p⟩ := pt
    dsimp only at q1 q3 q4 q5 q6 q7 q8 q9 ⊢
    rw [← q1] at q2 q3
    have ins : (SetTable.insertAt es p (k.hash w, x)).toList = es.toList.take p ++ (k.hash w, x) :: es.toList.drop p := SetTable.toList_insertAt _ _ _
    have pm : (SetTable.insertAt es p (k.hash w, x)).toList.Perm ((k.hash w, x) :: es.toList) := by rw [ins]; exact put_perm _ _ _
    have hes : (SetTable.insertAt es p (k.hash w, x)).size = es.size + 1 := by
      rw [← Array.length_toList, pm.length_eq, List.length_cons, Array.length_toList]
    have hhs : (SetTable.insertAt es p (k.hash w, x)).toList.map (·.1) = (es.toList.map (·.1)).take p ++ k.hash w :: (es.toList.map (·.1)).drop p := by
      rw [ins, List.map_append, List.map_cons, List.map_take, List.map_drop]
    rw [← hhs] at q3
    have dis1 : (SetTable.insertAt es p (k.hash w, x)).toList.Pairwise fun e e' => ∀ k, KeyAt h0 e.2 k → ¬ KeyAt h0 e'.2 k := by
      rw [ins]
      refine pair_ins (fun {a b} hab k g1 g2 => hab k g2 g1) R.dis fun e he k' g1 g2 => hm ⟨e, he, ?_⟩
      rw [show k = k' from hx.inj g1]
      exact g2
    have ent1 : ∀ e ∈ (SetTable.insertAt es p (k.hash w, x)).toList, ∃ k, KeyAt h0 e.2 k ∧ e.1 = k.hash w := fun e he => by
      rcases List.mem_cons.mp (pm.mem_iff.mp he) with rfl | he
      · exact ⟨k, hx, rfl⟩
      · exact R.ent e he
    have has1 : ∀ es' : Array (Int × Value), es'.toList.Perm (SetTable.insertAt es p (k.hash w, x)).toList → ∀ k', HasK h0 es' k' ↔ k' = k ∨ HasK h0 es k' := fun es' pp k' => by
      constructor
      · rintro ⟨e, he, g⟩
        rcases List.mem_cons.mp ((pp.trans pm).mem_iff.mp he) with rfl | he
        · exact .inl (g.inj hx)
        · exact .inr ⟨e, he, g⟩
      · rintro (rfl | ⟨e, he, g⟩)
        · exact ⟨(NestedKey.hash w k', x), (pp.trans pm).mem_iff.mpr (by simp), hx⟩
        · exact ⟨e, (pp.trans pm).mem_iff.mpr (by simp [he]), g⟩
    have sub1 : ∀ es' : Array (Int × Value), es'.toList.Perm (SetTable.insertAt es p (k.hash w, x)).toList → ∀ e ∈ es'.toList, e ∈ es.toList ∨ e.2 = x := fun es' pp e he => by
      rcases List.mem_cons.mp ((pp.trans pm).mem_iff.mp he) with rfl | he
      · exact .inr rfl
      · exact .inl he
    generalize SetTable.insertAt es p (k.hash w, x) = es1 at hes q3 dis1 ent1 has1 sub1 ⊢
    have tail : ∀ t2 : SetTable, TabOk t2 (es1.toList.map (·.1)) → t2.mask = t1.mask → t2.led = t1.led → t2.fill = t1.fill →
        wpAny (model P w) A (do
          storeSet S es1 t2
          if !false && t2.tooFull then setRelay S (SetTable.grown (es.size + 1))
          return true) Q E s := fun t2 T m2 l2 f2 => by
      have led2 : w.params.followText "set-order" = true ∨ t2.led = true := by rw [l2, q5]; exact R.led
      refine wpAny_bind (wpAny_storeSet_of ho hd ?_ (by rw [hes, sizeLine_eq]; omega))
      have sb : Heap.SameBut S s.heap (s.heap.update S (Obj.putSet es1 t2)) := Heap.SameBut.update ..
      have ho1 := store_at (es' := es1) (t' := t2) ho hd
      generalize s.heap.update S (Obj.putSet es1 t2) = h1 at sb ho1 ⊢
      rw [List.length_map, Array.length_toList] at q9
      by_cases hf : t2.tooFull = true
      · have full : (es.size + 1) * 5 ≥ t2.mask * 3 := by
          have := hf
          unfold SetTable.tooFull at this
          rw [decide_eq_true_eq, f2, q9] at this
          exact this
        rw [m2, q4] at full
        have go : ∀ M, SetTable.sizeAbove (SetTable.grown (es.size + 1)) - 1 = M → MaskOk M → SetTable.sizeAbove (SetTable.grown (es.size + 1)) ≤ 128 → (es.size + 1) * 5 < M * 3 →
            wpAny (model P w) A (setRelay S (SetTable.grown (es.size + 1))) (fun _ s' => wpAny (model P w) A (pure true) Q E s') E { s with heap := h1 } := fun M g1 g2 g3 g4 => by
          refine relayH (s := { s with heap := h1 }) ho1 ⟨hex.1, hex.2.1, hex.2.2⟩ rfl T (by rw [hes, m2, q4]; omega) ent1 dis1 led2 g1 g2 g3 (by rw [hes]; exact g4) fun h2 es2 ep2 t3 sb2 R2 pp => ?_
          refine wpAny_pure (hQ true h2 es2 ep2 t3 (sb.trans sb2) R2 ?_ (has1 es2 pp) (sub1 es2 pp))
          rw [← Array.length_toList, pp.length_eq, Array.length_toList, hes]
          exact Nat.le_refl _
        first
          | (refine wpAny_bind ?_; refine wp_if_pos (by simp [hf]) ?_)
          | (refine wp_if_pos (by simp [hf]) ?_; refine wpAny_bind ?_)
        rcases R.tab.mok with z | z | z
        · have e4 : es.size = 4 := by omega
          rw [e4] at go ⊢
          exact go 31 (by rw [size_20]) (.inr (.inl rfl)) (by rw [size_20]; decide) (by omega)
        · have e4 : es.size = 18 := by omega
          rw [e4] at go ⊢
          exact go 127 (by rw [size_76]) (.inr (.inr rfl)) (by rw [size_76]; decide) (by omega)
        · omega
      · have nf : (es.size + 1) * 5 < t2.mask * 3 := by
          have := hf
          unfold SetTable.tooFull at this
          rw [decide_eq_true_eq, f2, q9] at this
          omega
        first
          | refine wp_if_neg (by simp [hf]) ?_
          | (refine wpAny_bind ?_; refine wp_if_neg (by simp [hf]) ?_; refine wpAny_pure ?_)
        exact wpAny_pure (hQ true h1 es1 (ep + 1) t2 sb ⟨⟨_, ho1, ⟨hex.1, hex.2.1, hex.2.2⟩, rfl⟩, ent1, dis1, T, led2, by rw [hes]; exact nf⟩ (by omega) (has1 es1 (.refl _)) (sub1 es1 (.refl _)))
    have two : ∀ b : Bool, wpAny (model P w) A (do
          storeSet S es1 (if b = true then t1 else { t1 with plain := false })
          if !false && (if b = true then t1 else { t1 with plain := false }).tooFull then setRelay S (SetTable.grown (es.size + 1))
          return true) Q E s := fun b => by
      cases b with
      | true => exact tail t1 q3 rfl rfl rfl
      | false => exact tail { t1 with plain := false } ⟨q3.ris, q3.dm, q3.sz, q3.mok, q3.bd, q3.reach⟩ rfl rfl rfl
    by_cases hp : t1.plain = true
    · first
        | (refine wpAny_bind ?_; refine wp_if_pos hp ?_; exact hashBy_key 8 k x s _ (hx.to hkp).1 fun b => two b)
        | (refine wp_if_pos hp ?_; exact wpAny_bind (hashBy_key 8 k x s _ (hx.to hkp).1 fun b => two b))
    · first
        | (refine wpAny_bind ?_; refine wp_if_neg hp ?_; exact wpAny_pure (two true))
        | (refine wp_if_neg hp ?_; exact two true)
        | (refine wp_if_neg hp ?_; exact wpAny_bind (wpAny_pure (two true)))
  · obtain ⟨k2, g1, g2⟩ := R.ent e (List.mem_of_getElem? he)
    have hil : i < t.place.toList.length := by
      have h1 : i < es.toList.length := (List.getElem?_eq_some_iff.mp he).1
      have h2 := R.tab.sz
      rw [List.length_map] at h2
      rw [Array.length_toList]
      omega
    have hj := List.getElem?_eq_getElem hil
    obtain ⟨c, hc, ec⟩ := R.tab.before hK (h := k.hash w) (i := i) (by rw [List.getElem?_map, he, show k = k2 from hke.inj g1]; exact congrArg some g2) hj
    exact ⟨c, Nat.zero_le _, hc, by rw [hj, ec]⟩
end
/-! ### data as keys -/
mutual
def nkD : D → NestedKey
  | .int i => .num i
  | .str x => .text x
  | .tuple xs => .tup (nkDs xs)
  | _ => .none
def nkDs : List D → List NestedKey
  | [] => []
  | x :: xs => nkD x :: nkDs xs
end
mutual
theorem nk_inj : ∀ x y : D, hsh x = true → hsh y = true → nkD x = nkD y → x = y
  | .int i, y, _, hy, e => by
    cases y with
    | int j => simp only [nkD] at e; injection e with e; rw [e]
    | str _ => simp only [nkD] at e; cases e
    | tuple _ => simp only [nkD] at e; cases e
    | _ => cases hy
  | .str i, y, _, hy, e => by
    cases y with
    | str j => simp only [nkD] at e; injection e with e; rw [e]
    | int _ => simp only [nkD] at e; cases e
    | tuple _ => simp only [nkD] at e; cases e
    | _ => cases hy
  | .tuple xs, y, hx, hy, e => by
    cases y with
    | tuple ys =>
      simp only [nkD] at e
      injection e with e
      rw [nks_inj xs ys (by simpa [hsh] using hx) (by simpa [hsh] using hy) e]
    | int _ => simp only [nkD] at e; cases e
    | str _ => simp only [nkD] at e; cases e
    | _ => cases hy
theorem nks_inj : ∀ xs ys : List D, hshAll xs = true → hshAll ys = true → nkDs xs = nkDs ys → xs = ys
  | [], [], _, _, _ => rfl
  | [], _ :: _, _, _, e => by simp only [nkDs] at e; cases e
  | _ :: _, [], _, _, e => by simp only [nkDs] at e; cases e
  | x :: xs, y :: ys, hx, hy, e => by
    simp only [nkDs] at e
    injection e with e1 e2
    simp only [hshAll, Bool.and_eq_true] at hx hy
    rw [nk_inj x y hx.1 hy.1 e1, nks_inj xs ys hx.2 hy.2 e2]
end
mutual
theorem nk_dep : ∀ x : D, hsh x = true → (nkD x).depth ≤ x.depth
  | .int i, _ => Nat.zero_le _
  | .str i, _ => Nat.zero_le _
  | .tuple xs, hx => by
    have := nks_dep xs (by simpa [hsh] using hx)
    simp only [nkD, NestedKey.depth, PyData.depth]
    omega
theorem nks_dep : ∀ xs : List D, hshAll xs = true → NestedKey.depthAll (nkDs xs) ≤ PyData.depthAll xs
  | [], _ => Nat.zero_le _
  | x :: xs, hx => by
    simp only [hshAll, Bool.and_eq_true] at hx
    have h1 := nk_dep x hx.1
    have h2 := nks_dep xs hx.2
    simp only [nkDs, NestedKey.depthAll, PyData.depthAll]
    omega
end
mutual
theorem nk_reads {h : Heap} : ∀ (x : D) (v : Value) (as : List Addr), hsh x = true → Reads h v x as → NestedIs h (nkD x) v
  | .int i, v, as, _, r => by cases r; exact .int _ _
  | .str i, v, as, _, r => by cases r; exact .text _ _
  | .tuple xs, v, as, hx, r => by
    cases r with
    | tuple h1 h2 h3 h4 => exact .tup h1 h2 h3 (nks_reads xs _ _ (by simpa [hsh] using hx) h4)
theorem nks_reads {h : Heap} : ∀ (xs : List D) (vs : List Value) (as : List Addr), hshAll xs = true → ReadsAll h vs xs as → NestedAll h (nkDs xs) vs
  | [], vs, as, _, r => by cases r; exact .nil
  | x :: xs, vs, as, hx, r => by
    simp only [hshAll, Bool.and_eq_true] at hx
    cases r with
    | cons h1 h2 => exact .cons (nk_reads x _ _ hx.1 h1) (nks_reads xs _ _ hx.2 h2)
end
theorem hTup_iff {d : D} (h : hTup d = true) : hsh d = true ∧ d.depth ≤ 8 ∧ isTup d = true := by
  cases d with
  | tuple xs =>
    simp only [hTup, Bool.and_eq_true, decide_eq_true_eq] at h
    exact ⟨by simpa [hsh] using h.1, h.2, rfl⟩
  | _ => cases h
theorem keyAt_reads {h : Heap} {d : D} {v : Value} {as : List Addr} (hd : hTup d = true) (r : Reads h v d as) : KeyAt h v (nkD d) := by
  obtain ⟨h1, h2, h3⟩ := hTup_iff hd
  refine ⟨nk_reads d v as h1 r, Nat.le_trans (nk_dep d h1) h2, ?_⟩
  cases d with
  | tuple xs =>
    cases r with
    | tuple _ _ _ _ => exact ⟨_, rfl⟩
  | _ => cases h3
section
variable {P : Program} {w : World} {A : Around} {E : Value → Shared → Prop} {h0 : Heap} {S : Addr}
theorem SH.fresh {h : Heap} (ho : h.get? S = some (set0 w)) : SH w h0 h S #[] 0 (.fresh 0 0 (!w.params.followText "set-order")) where
  ob := ⟨_, ho, ⟨rfl, rfl, rfl⟩, rfl⟩
  ent := fun e he => by cases he
  dis := .nil
  tab := ⟨.nil, rfl, rfl, .inl rfl, (fun x hx => by cases hx), (fun i h j e => by cases e)⟩
  led := by
    cases z : w.params.followText "set-order" with
    | true => exact .inl rfl
    | false => exact .inr rfl
  room := by show 0 * 5 < 7 * 3; decide
/-- as far as the i-th -/
def JH (w : World) (h0 : Heap) (S : Addr) (its : List Value) (ds : List D) (i : Nat) (h : Heap) : Prop :=
  ∃ es ep t, SH w h0 h S es ep t ∧ es.size ≤ i ∧ (∀ k, HasK h0 es k ↔ ∃ (j : Nat) (d : D), j < i ∧ ds[j]? = some d ∧ nkD d = k) ∧ ∀ e ∈ es.toList, ∃ j : Nat, its[j]? = some e.2
theorem JH.zero {its : List Value} {ds : List D} {h : Heap} (ho : h.get? S = some (set0 w)) : JH w h0 S its ds 0 h :=
  ⟨_, _, _, SH.fresh ho, Nat.le_refl _, fun k => ⟨fun ⟨e, he, _⟩ => (by cases he), fun ⟨_, _, z, _⟩ => (by omega)⟩, fun e he => by cases he⟩
theorem JH.keep {its : List Value} {ds : List D} {i : Nat} {h h' : Heap} (J : JH w h0 S its ds i h) (k : ∀ o, h.get? S = some o → h'.get? S = some o) : JH w h0 S its ds i h' := by
  obtain ⟨es, ep, t, R, z⟩ := J
  obtain ⟨o, h1, h2⟩ := R.ob
  exact ⟨es, ep, t, ⟨⟨o, k o h1, h2⟩, R.ent, R.dis, R.tab, R.led, R.room⟩, z⟩
theorem addTupsH {its : List Value} {ds : List D} (hk : ∀ (j : Nat) v d, its[j]? = some v → ds[j]? = some d → KeyAt h0 v (nkD d)) (hl : ds.length = its.length) (few : its.length < 64) (hu : A.units + 8 < cLine) :
    AddOk P w A S h0 its.toArray.size (fun i v => its.toArray[i]? = some v) (JH w h0 S its ds) := by
  rintro i v s Q E hin hv ⟨es, ep, t, R, hes, has, sub⟩ hkp hq
  have hin : i < its.length := by simpa using hin
  have hv : its[i]? = some v := by simpa using hv
  obtain ⟨d, hd⟩ : ∃ d, ds[i]? = some d := ⟨_, List.getElem?_eq_getElem (by omega)⟩
  have key := hk i v d hv hd
  unfold setAdd
  refine wpAny_holding ?_
  obtain ⟨g1, g2, a, rfl⟩ := key.to hkp
  refine wpAny_bind ((nestedKind P w).pyHash (k := nkD d) hu ⟨g1, g2⟩ ?_)
  refine addH (s := { s with toks := s.toks + (nestedKind P w).draws (nkD d) }) R hkp key hu (by omega) fun b h' es' ep' t' sb R2 sz has2 sub2 => ?_
  refine hq b h' _ (Nat.le_add_right _ _) sb ⟨es', ep', t', R2, by omega, fun k => ?_, fun e he => ?_⟩
  · rw [has2, has]
    constructor
    · rintro (rfl | ⟨j, d', hj, z⟩)
      · exact ⟨i, d, by omega, hd, rfl⟩
      · exact ⟨j, d', by omega, z⟩
    · rintro ⟨j, d', hj, z1, z2⟩
      by_cases ji : j = i
      · subst ji
        rw [hd] at z1
        cases z1
        exact .inl z2.symm
      · exact .inr ⟨j, d', by omega, z1, z2⟩
  · rcases sub2 e he with z | z
    · exact sub e z
    · exact ⟨i, by rw [hv, z]⟩
end
end Wq

end
section
set_option Elab.async false
set_option linter.all false
set_option autoImplicit false
set_option maxRecDepth 100000
set_option maxHeartbeats 3200000
/-! len(set(xs)), sorted(set(xs)). -/
namespace Wq
open PySem PySem.Spec PyProof.Rows L2
/-! ### data that is the same -/
mutual
theorem eqv_hsh : ∀ x y : D, hsh x = true → hsh y = true → (PyData.eqv x y = true ↔ x = y)
  | .int i, y, _, hy => by
    cases y <;> simp [hsh] at hy <;> simp [PyData.eqv]
  | .str i, y, _, hy => by
    cases y <;> simp [hsh] at hy <;> simp [PyData.eqv]
  | .tuple xs, y, hx, hy => by
    cases y with
    | tuple ys =>
      have := eqvs_hsh xs ys (by simpa [hsh] using hx) (by simpa [hsh] using hy)
      simp [PyData.eqv, this]
    | int _ => simp [PyData.eqv]
    | str _ => simp [PyData.eqv]
    | _ => simp [hsh] at hy
  | .none, _, hx, _ => by simp [hsh] at hx
  | .bool _, _, hx, _ => by simp [hsh] at hx
  | .list _, _, hx, _ => by simp [hsh] at hx
  | .dict _, _, hx, _ => by simp [hsh] at hx
theorem eqvs_hsh : ∀ xs ys : List D, hshAll xs = true → hshAll ys = true → (PyData.eqvAll xs ys = true ↔ xs = ys)
  | [], [], _, _ => by simp [PyData.eqvAll]
  | [], _ :: _, _, _ => by simp [PyData.eqvAll]
  | _ :: _, [], _, _ => by simp [PyData.eqvAll]
  | x :: xs, y :: ys, hx, hy => by
    simp only [hshAll, Bool.and_eq_true] at hx hy
    simp only [PyData.eqvAll, Bool.and_eq_true, List.cons.injEq]
    rw [eqv_hsh x y hx.1 hy.1, eqvs_hsh xs ys hx.2 hy.2]
end
mutual
theorem ltB_anti : ∀ x y : D, hsh x = true → hsh y = true → PySem.W.alike x y = true → ltB x y = false → ltB y x = false → x = y
  | .int i, y, _, _, ha, h1, h2 => by
    cases y with
    | int j =>
      simp only [ltB, decide_eq_false_iff_not] at h1 h2
      rw [show i = j by omega]
    | _ => simp [PySem.W.alike] at ha
  | .str i, y, _, _, ha, h1, h2 => by
    cases y with
    | str j =>
      simp only [ltB, decide_eq_false_iff_not] at h1 h2
      have := List.le_antisymm (List.not_lt.mp h2) (List.not_lt.mp h1)
      obtain ⟨i⟩ := i
      obtain ⟨j⟩ := j
      obtain ⟨i⟩ := i
      obtain ⟨j⟩ := j
      have : i = j := this
      rw [this]
    | _ => simp [PySem.W.alike] at ha
  | .tuple xs, y, hx, hy, ha, h1, h2 => by
    cases y with
    | tuple ys =>
      rw [ltBs_anti xs ys (by simpa [hsh] using hx) (by simpa [hsh] using hy) (by simpa [PySem.W.alike] using ha) (by simpa [ltB] using h1) (by simpa [ltB] using h2)]
    | _ => simp [PySem.W.alike] at ha
  | .none, _, hx, _, _, _, _ => by simp [hsh] at hx
  | .bool _, _, hx, _, _, _, _ => by simp [hsh] at hx
  | .list _, _, hx, _, _, _, _ => by simp [hsh] at hx
  | .dict _, _, hx, _, _, _, _ => by simp [hsh] at hx
theorem ltBs_anti : ∀ xs ys : List D, hshAll xs = true → hshAll ys = true → PySem.W.alikeAll xs ys = true → ltBs xs ys = false → ltBs ys xs = false → xs = ys
  | [], [], _, _, _, _, _ => rfl
  | [], _ :: _, _, _, _, h, _ => by simp [ltBs] at h
  | _ :: _, [], _, _, _, _, h => by simp [ltBs] at h
  | x :: xs, y :: ys, hx, hy, ha, h1, h2 => by
    simp only [hshAll, Bool.and_eq_true] at hx hy
    obtain ⟨a1, a2⟩ := PySem.W.alike_all_cons ha
    simp only [ltBs] at h1 h2
    by_cases e : x = y
    · subst e
      rw [if_pos ((eqv_hsh x x hx.1 hx.1).mpr rfl)] at h1 h2
      rw [ltBs_anti xs ys hx.2 hy.2 a2 h1 h2]
    · rw [if_neg (fun z => e ((eqv_hsh x y hx.1 hy.1).mp z))] at h1
      rw [if_neg (fun z => e ((eqv_hsh y x hy.1 hx.1).mp z).symm)] at h2
      exact absurd (ltB_anti x y hx.1 hy.1 a1 h1 h2) e
end
theorem dedup_mem {xs : List D} (h : ∀ x ∈ xs, hsh x = true) : ∀ x, x ∈ dedup xs ↔ x ∈ xs := by
  induction xs with
  | nil => intro x; simp [dedup]
  | cons y ys ih =>
    intro x
    have ih := ih (fun z hz => h z (by simp [hz])) x
    unfold dedup
    split
    · rename_i ha
      obtain ⟨z, hz, e⟩ := List.any_eq_true.mp ha
      have := (eqv_hsh z y (h z (by simp [hz])) (h y (by simp))).mp e
      subst this
      rw [ih]
      simp only [List.mem_cons]
      exact ⟨.inr, fun q => q.elim (fun q => by rw [q]; exact hz) id⟩
    · simp only [List.mem_cons, ih]
theorem dedup_nodup {xs : List D} (h : ∀ x ∈ xs, hsh x = true) : (dedup xs).Nodup := by
  induction xs with
  | nil => simp [dedup]
  | cons y ys ih =>
    have h' : ∀ x ∈ ys, hsh x = true := fun z hz => h z (by simp [hz])
    unfold dedup
    split
    · exact ih h'
    · rename_i ha
      refine List.nodup_cons.mpr ⟨fun z => ha ?_, ih h'⟩
      have := (dedup_mem h' y).mp z
      exact List.any_eq_true.mpr ⟨y, this, (eqv_hsh y y (h y (by simp)) (h y (by simp))).mpr rfl⟩
theorem dedup_perm {xs l : List D} (h : ∀ x ∈ xs, hsh x = true) (hn : l.Nodup) (hm : ∀ x, x ∈ l ↔ x ∈ xs) : l.Perm (dedup xs) :=
  (List.perm_ext_iff_of_nodup hn (dedup_nodup h)).mpr fun x => by rw [hm, dedup_mem h]
/-! ### a set and its members -/
def SetV (w : World) (h : Heap) (S : Addr) (ps : List (V × D)) : Prop := ∃ o es ep t, h.get? S = some o ∧ o.ExactSet ∧ o.data = .set es ep t ∧ t.fits es.size = true ∧ es.size < scanBound ∧ Ris t.place.toList ∧
  (w.params.followText "set-order" = true ∨ t.led = true) ∧ Vals (ps.map (·.1)) (es.toList.map (·.2))
section
variable {P : Program} {w : World} {A : Around} {E : Value → Shared → Prop} {s : Shared}
theorem lenSetV {S : Addr} {ps : List (V × D)} {Q : Value → Shared → Prop} (hs : SetV w s.heap S ps) (h : ∀ t tk, Q (.int (ps.length : Nat) t) { s with toks := tk }) : wpAny (model P w) A (call (.builtin "len") [.ref S]) Q E s := by
  obtain ⟨o, es, ep, t, ho, hex, hd, hf, hb, _, _, hv⟩ := hs
  have hl : es.size = ps.length := by
    have := hv.length
    simp at this
    exact this.symm
  refine PySem.call_len_set ho hex hd hf (by unfold scanBound at hb; omega) ?_
  rw [hl]
  exact h _ _
theorem each_perm {us us' : List Value} (hp : us'.Perm us) : ∀ {ps : List (V × D)}, PySem.W.EachIs (fun (u : Value) (p : V × D) => RelV p.1 u) us ps → ∃ ps' : List (V × D), ps'.Perm ps ∧ PySem.W.EachIs (fun (u : Value) (p : V × D) => RelV p.1 u) us' ps' := by
  induction hp with
  | nil =>
    intro ps e
    exact ⟨ps, .refl _, e⟩
  | cons x _ ih =>
    intro ps e
    cases e with
    | cons a r =>
      obtain ⟨ps', p1, p2⟩ := ih r
      exact ⟨_, p1.cons _, .cons a p2⟩
  | swap x y l =>
    intro ps e
    cases e with
    | cons a r =>
      cases r with
      | cons b r => exact ⟨_, .swap _ _ _, .cons b (.cons a r)⟩
  | trans _ _ ih1 ih2 =>
    intro ps e
    obtain ⟨p1, q1, e1⟩ := ih2 e
    obtain ⟨p2, q2, e2⟩ := ih1 e1
    exact ⟨p2, q2.trans q1, e2⟩
theorem each_of_vals : ∀ {ps : List (V × D)} {us : List Value}, Vals (ps.map (·.1)) us → PySem.W.EachIs (fun (u : Value) (p : V × D) => RelV p.1 u) us ps
  | [], _, .nil => .nil
  | _ :: _, _, .cons a r => .cons a (each_of_vals r)
mutual
theorem reads_lt {h : Heap} : ∀ {d : D} {v : Value} {as : List Addr} {a : Addr}, Reads h v d as → a ∈ as → a < h.objs.size
  | _, _, _, _, .none, ha => by cases ha
  | _, _, _, _, .bool _, ha => by cases ha
  | _, _, _, _, .int _ _, ha => by cases ha
  | _, _, _, _, .str _ _, ha => by cases ha
  | _, _, _, _, .list ho _ _ r, ha => by
    rcases List.mem_cons.mp ha with rfl | ha
    · exact Heap.lt_size ho
    · exact readsAll_lt r ha
  | _, _, _, _, .tuple ho _ _ r, ha => readsAll_lt r ha
  | _, _, _, _, .dict ho _ _ r r2, ha => by
    rcases List.mem_cons.mp ha with rfl | ha
    · exact Heap.lt_size ho
    · rcases List.mem_append.mp ha with ha | ha
      · exact readsAll_lt r ha
      · exact readsAll_lt r2 ha
theorem readsAll_lt {h : Heap} : ∀ {ds : List D} {vs : List Value} {as : List Addr} {a : Addr}, ReadsAll h vs ds as → a ∈ as → a < h.objs.size
  | _, _, _, _, .nil, ha => by cases ha
  | _, _, _, _, .cons r rs, ha => by
    rcases List.mem_append.mp ha with ha | ha
    · exact reads_lt r ha
    · exact readsAll_lt rs ha
end
/-- sorted(set) -/
theorem sortSetV {S : Addr} {ps : List (V × D)} {Q : Value → Shared → Prop} (hs : SetV w s.heap S ps) (hh : A.handled = none) (hu : A.units + 70 < cLine)
    (hrd : ∀ (u : Value) (p : V × D), p ∈ ps → RelV p.1 u → ∃ as, Reads s.heap u p.2 as) (ha : ∀ p ∈ ps, ∀ q ∈ ps, PySem.W.alike p.2 q.2 = true) (hk : ∀ d ∈ ps.map (·.2), notN d = true) (hsh : ∀ p ∈ ps, SeqAt.shaped p.2 = true)
    (hQ : ∀ s' p (out : List Value) (c : Nat) (qs : List (V × D)), (∀ b o, s.heap.get? b = some o → s'.heap.get? b = some o) → s'.gens = s.gens → s'.os = s.os → s.heap.objs.size ≤ p →
      s'.heap.get? p = some (seqObj "list" out.toArray c) → Vals (qs.map (·.1)) out → (∃ ps' : List (V × D), ps'.Perm ps ∧ qs = ps'.mergeSort (PySem.W.dataLe false fun p => p.2)) → Q (.ref p) s') :
    wpAny (model P w) A (call (.builtin "sorted") [.ref S]) Q E s := by
  obtain ⟨o, es, ep, t, ho, hex, hd, hf, hb, hr, hl, hv⟩ := hs
  refine Calls.call_function_entry kind_sorted plain_sorted entry_sorted (args_sorted1 _) ?_
  unfold Builtin.«sorted»
  refine wpAny_bind (m := checkCount "sorted" 1 1 _) (wpAny_pure ?_)
  refine wpAny_bind (collect_set (A := A.in1) hh ⟨o, ho, hex.1, hd⟩ hf hb hr hl fun s1 vs k1 hz g1 o1 pm => ?_)
  obtain ⟨ps', pp, ee⟩ := each_perm pm (each_of_vals hv)
  have lp : ps'.length = ps.length := pp.length_eq
  have lv : vs.length = ps'.length := ee.length
  have le : ps.length = es.size := by
    have := hv.length
    simpa using this
  have hz2 : vs.length ≤ sizeLine := by
    rw [lv, lp, le, sizeLine_eq]
    unfold scanBound at hb
    omega
  refine wpAny_bind (wpAny_newList ?_ hz2)
  have hoL : (s1.heap.push (seqObj "list" vs.toArray 0)).get? s1.heap.objs.size = some (seqObj "list" vs.toArray 0) := Heap.get?_push_size _ rfl
  have kk : ∀ b u, s.heap.get? b = some u → (s1.heap.push (seqObj "list" vs.toArray 0)).get? b = some u := fun b u e => Heap.get?_push_of_some _ (k1 b u e)
  refine wpAny_bind (wpAny_holding (list_sort_dataE (R := fun (u : Value) (p : V × D) => RelV p.1 u) (enc := fun p : V × D => p.2) (bs := ps') (s := { s1 with heap := s1.heap.push (seqObj "list" vs.toArray 0) }) hoL ee ?_ ?_ ?_ ?_ ?_ fun out hlen heach => ?_))
  · have rd : ∀ {us : List Value} {qs : List (V × D)}, PySem.W.EachIs (fun (u : Value) (p : V × D) => RelV p.1 u) us qs → (∀ p ∈ qs, p ∈ ps) →
        PySem.W.EachIs (fun (v : Value) (b : V × D) => ∃ as, Reads (s1.heap.push (seqObj "list" vs.toArray 0)) v b.2 as ∧ s1.heap.objs.size ∉ as) us qs := fun {us qs} e => by
      induction e with
      | nil => intro _; exact .nil
      | cons a r ih =>
        intro hm
        obtain ⟨as, ra⟩ := hrd _ _ (hm _ (by simp)) a
        refine .cons ⟨as, PyProof.Rows.Reads.keeps kk ra, fun z => ?_⟩ (ih fun p hp => hm p (by simp [hp]))
        have := reads_lt ra z
        exact absurd (Nat.lt_of_lt_of_le this hz) (Nat.lt_irrefl _)
    exact rd ee fun p hp => pp.mem_iff.mp hp
  · intro d hd' d' hd2
    obtain ⟨p, hp, rfl⟩ := List.mem_map.mp hd'
    obtain ⟨q, hq, rfl⟩ := List.mem_map.mp hd2
    exact ha p (pp.mem_iff.mp hp) q (pp.mem_iff.mp hq)
  · exact fun d hd' => hk d ((pp.map (·.2)).mem_iff.mp hd')
  · rw [← lv]
    exact hz2
  · intro b hb'
    have := SeqAt.depth_of_shaped (hsh b (pp.mem_iff.mp hb'))
    show A.in1.units + 1 + b.2.depth < cLine
    have e : A.in1.units = A.units + 1 := rfl
    omega
  · obtain ⟨c, hc⟩ := sortedHeap_at (vs := vs) (out := out.toArray) hoL
    refine wpAny_pure ⟨_, rfl, hQ _ s1.heap.objs.size out c _ (fun b u e => ?_) g1 o1 hz hc (each_vals heach) ⟨ps', pp, rfl⟩⟩
    have q := k1 b u e
    have hlt := Heap.lt_size q
    show (sortedHeap (s1.heap.push (seqObj "list" vs.toArray 0)) s1.heap.objs.size vs out.toArray).get? b = some u
    rw [sortedHeap_old (Nat.ne_of_lt hlt) (by rw [size_push']; exact Nat.lt_succ_of_lt hlt)]
    exact Heap.get?_push_of_some _ q
/-! ### whole numbers -/
theorem setR_V {S : Addr} {f : Int → Bool} {n : Nat} {h : Heap} (R : SetR w h S f n) : ∃ ks : List Int, ks.Nodup ∧ (∀ k, k ∈ ks ↔ f k = true) ∧ SetV w h S (ks.map fun k => (V.int k, PyData.int k)) := by
  obtain ⟨o, es, ep, t, ho, hex, hd, hg, hn, hm, hb, hf, _, hr, hl⟩ := R
  refine ⟨es.toList.map keyOf, hn, fun k => (hm k).symm, o, es, ep, t, ho, hex, hd, hf, hb, hr, hl, ?_⟩
  rw [List.map_map, List.map_map]
  have key : ∀ l : List (Int × Value), (∀ e ∈ l, GoodE e) → Vals (l.map ((fun p : V × D => p.1) ∘ (fun k => (V.int k, PyData.int k)) ∘ keyOf)) (l.map (·.2)) := fun l => by
    induction l with
    | nil => intro _; exact .nil
    | cons e l ih =>
      intro hl
      obtain ⟨k, tk, h1, h2⟩ := hl e (by simp)
      refine .cons ?_ (ih fun e he => hl e (by simp [he]))
      refine ⟨tk, ?_⟩
      have hk : keyOf e = k := by
        unfold keyOf
        rw [h1]
      show e.2 = Value.int (keyOf e) tk
      rw [h1, hk]
  exact key _ hg
theorem addInts {S : Addr} {h0 : Heap} {items : Array Value} {ns : List Int} (hi : IntsAre items.toList ns) (hb : ns.length + 1 < scanBound) :
    AddOk P w A S h0 items.size (fun i v => items[i]? = some v) (fun i h => ∃ c, c ≤ i ∧ SetR w h S (fun j => decide (j ∈ ns.take i)) c) := by
  rintro i v s Q E hin hv ⟨c, hc, R⟩ _ hq
  have hlen : items.size = ns.length := by
    have q := IntsAre.length hi
    rw [Array.length_toList] at q
    exact q
  have hi' : i < ns.length := by omega
  obtain ⟨t, e⟩ := PyProof.Rows.IntsAre.int_at hi i v (by rw [Array.getElem?_toList]; exact hv)
  have hz : ns[i]? = some ns[i] := List.getElem?_eq_getElem hi'
  rw [List.getD_eq_getElem?_getD, hz] at e
  have e : v = .int ns[i] t := e
  subst e
  unfold setAdd
  refine wpAny_holding ?_
  refine wpAny_bind ((intKind P w).pyHash (k := ns[i]) (intKind_is _ _ _ _) ?_)
  refine setR_add_hashed (s := { s with toks := s.toks + 1 }) R (by omega) fun h' hsb R2 => ?_
  refine hq _ h' _ (Nat.le_succ _) hsb ⟨_, ?_, R2.congr fun j => ?_⟩
  · split <;> omega
  · have e2 : ns.take (i + 1) = ns.take i ++ [ns[i]] := by rw [List.take_add_one, hz]; rfl
    rw [e2]
    simp only [List.mem_append, List.mem_singleton, Bool.decide_or]
/-! ### tuples of whole numbers -/
end
section
variable {c : Cv} {Γ : Cfg} {hx : HX} {X : Cx} {W : WX}
theorem ints_dvs {K : Fg} {F : Hp} : ∀ {vs : List V} {ds : List D}, Dvs K F vs ds → ds.all isInt = true → ∃ ns : List Int, vs = ns.map V.int ∧ ds = ns.map .int
  | _, _, .nil, _ => ⟨[], rfl, rfl⟩
  | _, _, .cons (d := d) a r, h => by
    simp only [List.all_cons, Bool.and_eq_true] at h
    obtain ⟨ns, h1, h2⟩ := ints_dvs r h.2
    cases d with
    | int i =>
      cases a
      exact ⟨i :: ns, by rw [h1]; rfl, by rw [h2]; rfl⟩
    | _ => cases h.1
theorem dvs_at {K : Fg} {F : Hp} : ∀ {vs : List V} {ds : List D} {j : Nat} {v : V} {d : D}, Dvs K F vs ds → vs[j]? = some v → ds[j]? = some d → Dv K F v d
  | _, _, 0, _, _, .cons a _, h1, h2 => by
    simp only [List.getElem?_cons_zero, Option.some.injEq] at h1 h2
    subst h1 h2
    exact a
  | _, _, j + 1, _, _, .cons _ r, h1, h2 => dvs_at r (j := j) (by simpa using h1) (by simpa using h2)
  | _, _, _, _, _, .nil, h1, _ => by simp at h1
theorem vals_at : ∀ {vs : List V} {us : List Value} {j : Nat} {v : V} {u : Value}, Vals vs us → vs[j]? = some v → us[j]? = some u → RelV v u
  | _, _, 0, _, _, .cons a _, h1, h2 => by
    simp only [List.getElem?_cons_zero, Option.some.injEq] at h1 h2
    subst h1 h2
    exact a
  | _, _, j + 1, _, _, .cons _ r, h1, h2 => vals_at r (j := j) (by simpa using h1) (by simpa using h2)
  | _, _, _, _, _, .nil, h1, _ => by simp at h1
section
variable {α β : Type} {R : α → β → Prop}
theorem each_mem : ∀ {l : List α} {ps : List β} {p : β}, PySem.W.EachIs R l ps → p ∈ ps → ∃ e ∈ l, R e p
  | _, _, _, .nil, h => by cases h
  | _, _, p, .cons a r, h => by
    rcases List.mem_cons.mp h with rfl | h
    · exact ⟨_, by simp, a⟩
    · obtain ⟨e, he, z⟩ := each_mem r h
      exact ⟨e, by simp [he], z⟩
theorem each_mem' : ∀ {l : List α} {ps : List β} {e : α}, PySem.W.EachIs R l ps → e ∈ l → ∃ p ∈ ps, R e p
  | _, _, _, .nil, h => by cases h
  | _, _, p, .cons a r, h => by
    rcases List.mem_cons.mp h with rfl | h
    · exact ⟨_, by simp, a⟩
    · obtain ⟨e, he, z⟩ := each_mem' r h
      exact ⟨e, by simp [he], z⟩
end
theorem each_vals2 {U : Int × Value → V × D → Prop} : ∀ {l : List (Int × Value)} {ps : List (V × D)}, PySem.W.EachIs (fun (e : Int × Value) (p : V × D) => RelV p.1 e.2 ∧ U e p) l ps → Vals (ps.map (·.1)) (l.map (·.2))
  | _, _, .nil => .nil
  | _, _, .cons a r => .cons a.1 (each_vals2 r)
theorem each_nodup {R : Int × Value → V × D → Prop} {q : Int × Value → Int × Value → Prop} : ∀ {l : List (Int × Value)} {ps : List (V × D)}, PySem.W.EachIs R l ps → l.Pairwise q → (∀ e e' p p', R e p → R e' p' → q e e' → p.2 = p'.2 → False) → (ps.map (·.2)).Nodup
  | _, _, .nil, _, _ => .nil
  | _, _, .cons a r, h, hq => by
    rw [List.pairwise_cons] at h
    rw [List.map_cons, List.nodup_cons]
    refine ⟨fun z => ?_, each_nodup r h.2 hq⟩
    obtain ⟨p, hp, e⟩ := List.mem_map.mp z
    obtain ⟨e', he', z'⟩ := each_mem r hp
    exact hq _ _ _ _ a z' (h.1 e' he') e.symm
/-- set(xs), made -/
theorem setMade {pins : List (Addr × Obj)} {σ : St} {F H : Hp} {s : Shared} {v : V} {u : Value} {d : D} {xs : List D} {Q : Value → Shared → Prop} (I : Inv X pins σ H s) (hc : X.calm = true) (hu : X.A.units + 70 < cLine) (sm : Same F H) (rv : RelV v u) (rs : Rs X.K F H v d) (hi : itemsD d = some xs) (hk : setOk xs = true)
    (h : ∀ S ps s', Inv X pins σ H s' → SetV X.w s'.heap S ps → (∀ p ∈ ps, Dv X.K F p.1 p.2) → (ps.map (·.2)).Perm (dedup xs) → Q (.ref S) s') : wpAny (model X.prog X.w) X.A (call (.type "set") [u]) Q X.xe s := by
  have hd := I.ok.hd hc
  have core : ∀ {l : Addr} {vs : List V} {its : List Value} (hv : Dvs X.K F vs xs) (rv : Vals vs its),
      (∀ J : Nat → Heap → Prop, (∀ i h h', J i h → (∀ o, h.get? s.heap.objs.size = some o → h'.get? s.heap.objs.size = some o) → (∀ b o, s.heap.get? b = some o → h'.get? b = some o) → J i h') →
        AddOk X.prog X.w X.A.in1.in1.in1 s.heap.objs.size s.heap its.toArray.size (fun i v => its.toArray[i]? = some v) J → (∀ h, h.get? s.heap.objs.size = some (set0 X.w) → J 0 h) →
        (∀ (h' : Heap) (tk : Nat), J its.toArray.size h' → (∀ b o, s.heap.get? b = some o → h'.get? b = some o) → Q (.ref s.heap.objs.size) { s with heap := h', toks := tk }) → wpAny (model X.prog X.w) X.A (call (.type "set") [u]) Q X.xe s) →
      wpAny (model X.prog X.w) X.A (call (.type "set") [u]) Q X.xe s := fun {l vs its} hv rv go => by
    unfold setOk at hk
    simp only [Bool.or_eq_true, Bool.and_eq_true, decide_eq_true_eq] at hk
    rcases hk with ⟨k1, k2⟩ | ⟨k1, k2⟩
    · obtain ⟨ns, e1, e2⟩ := ints_dvs hv k1
      subst e1 e2
      have ia : IntsAre its.toArray.toList ns := by simpa using rv.ints
      have hl : its.toArray.size = ns.length := by rw [List.size_toArray, ← rv.length, List.length_map]
      have k2' : ns.length < 4000 := by simpa using k2
      refine go _ (fun i h h' ⟨c, hc, R⟩ k _ => ⟨c, hc, R.at k⟩) (addInts ia (by unfold scanBound; omega)) (fun h e => ⟨0, Nat.le_refl _, setR_new_at e⟩) fun h' tk ⟨c, hc, R⟩ kk => ?_
      rw [hl, List.take_length] at R
      obtain ⟨ks, n1, n2, sv⟩ := setR_V R
      refine h _ _ _ (I.kept (t' := tk) kk) sv (fun p hp => ?_) ?_
      · obtain ⟨k, _, rfl⟩ := List.mem_map.mp hp
        exact .int k
      · rw [List.map_map]
        refine dedup_perm (fun x hx => ?_) ?_ fun x => ?_
        · obtain ⟨k, _, rfl⟩ := List.mem_map.mp hx
          rfl
        · exact List.Pairwise.map _ (fun a b hab e => hab (by injection e)) n1
        · simp only [List.mem_map, Function.comp]
          constructor
          · rintro ⟨k, hk, rfl⟩
            exact ⟨k, by simpa using (n2 k).mp hk, rfl⟩
          · rintro ⟨k, hk, rfl⟩
            exact ⟨k, (n2 k).mpr (by simpa using hk), rfl⟩
    · have hl : its.length = vs.length := rv.length.symm
      have hlx : xs.length = vs.length := hv.length.symm
      have k2' : its.length < 64 := by omega
      have all : ∀ d ∈ xs, hTup d = true := List.all_eq_true.mp k1
      have hkey : ∀ (j : Nat) u d, its[j]? = some u → xs[j]? = some d → KeyAt s.heap u (nkD d) := fun j u d hu hd' => by
        obtain ⟨v, hv1⟩ : ∃ v, vs[j]? = some v := ⟨_, List.getElem?_eq_getElem (by have := (List.getElem?_eq_some_iff.mp hu).1; omega)⟩
        obtain ⟨as, r⟩ := Dp.reads I d v u ((dvs_at hv hv1 hd').mono sm).dp (vals_at rv hv1 hu)
        exact keyAt_reads (all d (List.mem_of_getElem? hd')) r
      refine go (JH X.w s.heap s.heap.objs.size its xs) (fun i h h' J k _ => J.keep k) (addTupsH hkey (by omega) k2' (by show X.A.units + 1 + 1 + 1 + 8 < cLine; omega)) (fun h e => JH.zero e) fun h' tk J kk => ?_
      obtain ⟨es, ep, t, R, hes, has, sub⟩ := J
      have esz : its.toArray.size = its.length := List.size_toArray ..
      rw [esz] at hes has
      have hh : ∀ x ∈ xs, hsh x = true := fun x hx => (hTup_iff (all x hx)).1
      obtain ⟨ps, hps⟩ : ∃ ps : List (V × D), PySem.W.EachIs (fun (e : Int × Value) (p : V × D) => RelV p.1 e.2 ∧ Dv X.K F p.1 p.2 ∧ p.2 ∈ xs ∧ KeyAt s.heap e.2 (nkD p.2)) es.toList ps := by
        have key : ∀ l : List (Int × Value), (∀ e ∈ l, ∃ j : Nat, its[j]? = some e.2) → ∃ ps : List (V × D), PySem.W.EachIs (fun (e : Int × Value) (p : V × D) => RelV p.1 e.2 ∧ Dv X.K F p.1 p.2 ∧ p.2 ∈ xs ∧ KeyAt s.heap e.2 (nkD p.2)) l ps := fun l => by
          induction l with
          | nil => intro _; exact ⟨[], .nil⟩
          | cons e l ih =>
            intro hl'
            obtain ⟨ps, hps⟩ := ih fun e he => hl' e (by simp [he])
            obtain ⟨j, hj⟩ := hl' e (by simp)
            have hjl := (List.getElem?_eq_some_iff.mp hj).1
            obtain ⟨v, hv1⟩ : ∃ v, vs[j]? = some v := ⟨_, List.getElem?_eq_getElem (by omega)⟩
            obtain ⟨d, hd1⟩ : ∃ d, xs[j]? = some d := ⟨_, List.getElem?_eq_getElem (by omega)⟩
            exact ⟨(v, d) :: ps, .cons ⟨vals_at rv hv1 hj, dvs_at hv hv1 hd1, List.mem_of_getElem? hd1, hkey j _ _ hj hd1⟩ hps⟩
        exact key _ sub
      refine h _ ps _ (I.kept (t' := tk) kk) ?_ (fun p hp => ?_) ?_
      · obtain ⟨o, ho, hex, hd2⟩ := R.ob
        refine ⟨o, es, ep, t, ho, hex, hd2, R.fits, by unfold scanBound; omega, R.tab.ris, R.led, ?_⟩
        exact each_vals2 hps
      · obtain ⟨e, _, z⟩ := each_mem hps hp
        exact z.2.1
      · refine dedup_perm hh ?_ fun x => ?_
        · exact each_nodup hps R.dis fun e e' p p' z z' hne he => hne (nkD p.2) z.2.2.2 (he ▸ z'.2.2.2)
        · constructor
          · intro hx
            obtain ⟨p, hp, rfl⟩ := List.mem_map.mp hx
            obtain ⟨e, _, z⟩ := each_mem hps hp
            exact z.2.2.1
          · intro hx
            obtain ⟨j, hj, ej⟩ := List.getElem_of_mem hx
            have h1 := (has (nkD x)).mpr ⟨j, x, by omega, by rw [List.getElem?_eq_getElem hj, ej], rfl⟩
            obtain ⟨e, he, g⟩ := h1
            obtain ⟨p, hp, z⟩ := each_mem' hps he
            have := nk_inj p.2 x (hh _ z.2.2.1) (hh x hx) (z.2.2.2.inj g)
            exact List.mem_map.mpr ⟨p, hp, this⟩
  cases d with
  | list ds =>
    cases hi
    obtain ⟨l, vs, rfl, r1, d1⟩ := rs.list sm
    cases (show u = Value.ref l from rv)
    obtain ⟨_, its, n, rits, ho⟩ := lstRd I r1
    exact core (l := l) d1 rits fun J a b c' e => call_set_list hd ⟨_, ho, rfl, n, rfl⟩ J a b c' e
  | tuple ds =>
    cases hi
    obtain ⟨l, vs, rfl, r1, d1⟩ := rs.tuple sm
    cases (show u = Value.ref l from rv)
    obtain ⟨its, rits, pl, _⟩ := I.tuple r1
    exact core (l := l) d1 rits fun J a b c' e => call_set_tuple hd (show s.heap.IsTuple l its.toArray from pl) J a b c' e
  | _ => cases hi
section
variable {a : Expr} {ma : ME} {p p2 q pos : Pos}
theorem sLenset (O : Ok c Γ hx X W) (hh : Γ.hot = false) (g1 : kGl Γ "len" = true) (g2 : kGl Γ "set" = true) (hn : nst a = true) (ha : PE X a (tM c hx X.K W ma)) : PE X (.Call (.Name "len" p) [.Call (.Name "set" p2) [a] [] q] [] pos) (tM c hx X.K W (.lenset ma)) := by
  obtain ⟨k1, k2, k3⟩ := kGl_iff O g1
  obtain ⟨l1, l2, l3⟩ := kGl_iff O g2
  refine ⟨fun pins s σ H Q I ⟨ρ, F, rep, po⟩ => ?_⟩
  have po : Po W X.K σ F H ((evE c ma ρ).bind fun x => (ofO (itemsD x)).bind fun xs => if setOk xs then R.ok (PyData.int ((dedup xs).length : Nat)) else R.no) _ := po
  refine Call_ (ld_blt I k1 (O.free _ (by decide)) boot_len ?_ k3 k2)
  refine PyProof.Rows.callWith_builtin1 (PyProof.Rows.args_cons ?_ rfl) rfl rfl
  refine Call_ (ld_blt I l1 (O.free _ (by decide)) PyProof.Rows.boot_set ?_ l3 l2)
  refine PyProof.Rows.callWith_type1 (PyProof.Rows.args_cons (thn (ha.run pins s σ H (fun v H1 => ∃ F1 d xs, Same F1 H1 ∧ Rs X.K F1 H1 v d ∧ itemsD d = some xs ∧ setOk xs = true ∧ Q (.int ((dedup xs).length : Nat)) H1) I ⟨ρ, F, rep, po.bind.imp fun d F1 H1 _ gg po v rv => ?_⟩) fun u s1 ⟨v, H1, I1, r1, F1, d, xs, sm, rs, hi, hk, q1⟩ => PyProof.Rows.args_nil ?_) (nst_star hn)) (nst_star hn) rfl
  · obtain ⟨xs, e1, po2⟩ := ofO_bind po
    split at po2
    · rename_i hk
      exact ⟨F1, d, xs, gg.s, rv.rs, e1, hk, po2.ok gg.s _ (Rm.of (.int _))⟩
    · exact po2.elim
  · refine setMade I1 (O.calm hh) O.un sm r1 rs hi hk fun S ps s' I2 sv dvs pm => ?_
    refine PyProof.Rows.args_nil (lenSetV sv fun t tk => ⟨.int _, H1, I2.tok tk, ⟨t, ?_⟩, q1⟩)
    have : ps.length = (dedup xs).length := by rw [← pm.length_eq, List.length_map]
    rw [this]
theorem isort_perm {xs ys : List D} (hp : xs.Perm ys) (hn : ys.Nodup) (hh : ∀ x ∈ ys, hsh x = true) (ha : ∀ x ∈ ys, ∀ y ∈ ys, PySem.W.alike x y = true) : isort xs = isort ys := by
  have ha' : ∀ x ∈ xs, ∀ y ∈ xs, PySem.W.alike x y = true := fun x hx y hy => ha x (hp.mem_iff.mp hx) y (hp.mem_iff.mp hy)
  have T : PySem.W.TotalLe (PySem.W.dataLe false (id : D → D)) := PySem.W.sortLe_total _ _ _
  have e : ∀ {l : List D}, (∀ x ∈ l, ∀ y ∈ l, PySem.W.alike x y = true) → isort l = isortG (PySem.W.dataLe false id) l := fun h => by rw [isort_merge h, isortG_merge T]
  rw [e ha', e ha]
  refine List.Perm.eq_of_pairwise (le := fun a b => PySem.W.dataLe false id a b = true) (fun a b h1 h2 l1 l2 => ?_) (isortG_sorted T _) (isortG_sorted T _) (((isortG_perm _).trans hp).trans (isortG_perm _).symm)
  have m1 : a ∈ ys := hp.mem_iff.mp (isortG_mem h1)
  have m2 : b ∈ ys := isortG_mem h2
  have l1 : (!PySem.W.dataLt b a) = true := l1
  have l2 : (!PySem.W.dataLt a b) = true := l2
  rw [ltB_data _ _ (ha b m2 a m1)] at l1
  rw [ltB_data _ _ (ha a m1 b m2)] at l2
  exact ltB_anti a b (hh a m1) (hh b m2) (ha a m1 b m2) (by simpa using l2) (by simpa using l1)
theorem sSortset (O : Ok c Γ hx X W) (hh : Γ.hot = false) (g1 : kGl Γ "sorted" = true) (g2 : kGl Γ "set" = true) (hn : nst a = true) (ha : PE X a (tM c hx X.K W ma)) : PE X (.Call (.Name "sorted" p) [.Call (.Name "set" p2) [a] [] q] [] pos) (tM c hx X.K W (.sortset ma)) := by
  obtain ⟨k1, k2, k3⟩ := kGl_iff O g1
  obtain ⟨l1, l2, l3⟩ := kGl_iff O g2
  refine ⟨fun pins s σ H Q I ⟨ρ, F, rep, po⟩ => ?_⟩
  have po : Po W X.K σ F H ((evE c ma ρ).bind fun x => (ofO (itemsD x)).bind fun xs => if setOk xs then (sortD (dedup xs)).bind fun ys => R.ok (PyData.list ys) else R.no) _ := po
  refine Call_ (ld_blt I k1 (O.free _ (by decide)) (show bootBuiltins "sorted" = some (.builtin "sorted") from rfl) ?_ k3 k2)
  refine PyProof.Rows.callWith_builtin1 (PyProof.Rows.args_cons ?_ rfl) rfl rfl
  refine Call_ (ld_blt I l1 (O.free _ (by decide)) PyProof.Rows.boot_set ?_ l3 l2)
  refine PyProof.Rows.callWith_type1 (PyProof.Rows.args_cons (thn (ha.run pins s σ H (fun v H1 => ∃ F1 d xs ys, Same F1 H1 ∧ Rs X.K F1 H1 v d ∧ itemsD d = some xs ∧ setOk xs = true ∧ sortD (dedup xs) = .ok ys ∧ ∀ p ws, H1 p = none → Dvs X.K F1 ws ys → Q (.ref p) (upd H1 p (.lst ws))) I ⟨ρ, F, rep, po.bind.imp fun d F1 H1 _ gg po v rv => ?_⟩)
    fun u s1 ⟨v, H1, I1, r1, F1, d, xs, ys, sm, rs, hi, hk, hy, q1⟩ => PyProof.Rows.args_nil ?_) (nst_star hn)) (nst_star hn) rfl
  · obtain ⟨xs, e1, po2⟩ := ofO_bind po
    split at po2
    · rename_i hk
      cases e2 : sortD (dedup xs) with
      | ok ys =>
        rw [e2] at po2
        exact ⟨F1, d, xs, ys, gg.s, rv.rs, e1, hk, e2, fun p ws hp dw => po2 _ _ (Gr.new gg.s hp) _ (Rm.of (.lst (.inl upd_same) (dw.mono (Gr.new gg.s hp).f)))⟩
      | ex _ => unfold sortD at e2; split at e2 <;> cases e2
      | no => rw [e2] at po2; exact po2.elim
    · exact po2.elim
  · refine setMade I1 (O.calm hh) O.un sm r1 rs hi hk fun S ps s' I2 sv dvs pm => PyProof.Rows.args_nil ?_
    unfold sortD at hy
    split at hy
    case isFalse => cases hy
    rename_i c1
    obtain ⟨m1, m2⟩ := cmpl_iff c1
    cases hy
    have mem : ∀ p ∈ ps, p.2 ∈ dedup xs := fun p hp => pm.mem_iff.mp (List.mem_map_of_mem hp)
    refine sortSetV sv (I2.ok.hd (O.calm hh)) O.un (fun u p hp r => ?_) (fun p hp q hq => m2 _ (mem p hp) _ (mem q hq)) ?_ (fun p hp => (m1 _ (mem p hp)).1) fun s3 p out cc qs k g o hz hg hv ⟨ps', pp, eq⟩ => ?_
    · exact Dp.reads I2 p.2 p.1 u (((dvs p hp).mono sm).dp) r
    · exact fun d hd => (m1 d (pm.mem_iff.mp hd)).2
    · have e3 : qs.map (·.2) = isort (dedup xs) := by
        have t := PySem.W.sort_maps (r := PySem.W.dataLe false fun p : V × D => p.2) (s := PySem.W.dataLe false id) (l := ps') (fun p : V × D => p.2) (fun _ _ _ _ => rfl)
        have pd : (ps'.map (·.2)).Perm (dedup xs) := (pp.map (·.2)).trans pm
        rw [eq, t, ← isort_merge fun a ha b hb => m2 a (pd.mem_iff.mp ha) b (pd.mem_iff.mp hb)]
        refine isort_perm pd ?_ ?_ m2
        · exact dedup_nodup (setOk_hsh hk)
        · intro x hx
          exact setOk_hsh hk x ((dedup_mem (setOk_hsh hk) x).mp hx)
      have hd : Dvs X.K F1 (qs.map (·.1)) (qs.map (·.2)) := dvs_of fun q hq => by
        rw [eq] at hq
        exact dvs q (pp.mem_iff.mp ((List.mergeSort_perm _ _).mem_iff.mp hq))
      rw [e3] at hd
      have hlen : (qs.map (·.1)).length ≤ sizeLine := by
        rw [hd.length, sizeLine_eq]
        have : (isort (dedup xs)).length = (dedup xs).length := by rw [isort_G]; exact (isortG_perm _).length_eq
        rw [this]
        exact dedup_lim hk
      have hn' : H1 p = none := I2.hok.fresh hz
      have J : Inv X pins σ (upd H1 p (.lst (qs.map (·.1)))) { s' with heap := s3.heap, gens := s3.gens, drawn := s3.drawn, toks := s3.toks } :=
        I2.call (ch := []) (Un.laid k hz hn') (I2.hok.laid k hz ⟨hlen, out, cc, hv, hg⟩) (by rw [g]; exact I2.bare) (fun _ z => nomatch z)
      have e : s3 = { s' with heap := s3.heap, gens := s3.gens, drawn := s3.drawn, toks := s3.toks } := by
        cases s3
        cases s'
        cases o
        rfl
      rw [e]
      exact ⟨.ref p, _, J, rfl, q1 p _ hn' hd⟩
where
  dedup_le : ∀ xs : List D, (dedup xs).length ≤ xs.length
    | [] => Nat.le_refl _
    | x :: xs => by
      simp only [dedup]
      split
      · exact Nat.le_succ_of_le (dedup_le xs)
      · simp [dedup_le xs]
  dedup_lim {xs : List D} (h : setOk xs = true) : (dedup xs).length ≤ 2 ^ 24 := by
    have := dedup_le xs
    unfold setOk at h
    simp only [Bool.or_eq_true, Bool.and_eq_true, decide_eq_true_eq] at h
    omega
  setOk_hsh {xs : List D} (h : setOk xs = true) : ∀ x ∈ xs, hsh x = true := by
    unfold setOk at h
    simp only [Bool.or_eq_true, Bool.and_eq_true, List.all_eq_true] at h
    intro x hx
    rcases h with ⟨h, _⟩ | ⟨h, _⟩
    · have := h x hx
      cases x <;> first | rfl | cases this
    · exact (hTup_iff (h x hx)).1
end
end
end Wq

end
section
set_option Elab.async false
set_option linter.all false
set_option autoImplicit false
set_option maxRecDepth 100000
/-! Methods of lists; what is asked of a held refusal. -/
namespace Wq
open PySem PySem.Spec PyProof.Rows L2
section
variable {c : Cv} {Γ : Cfg} {hx : HX} {X : Cx} {W : WX} {σ₀ : St}
variable {a b e : Expr} {ma mb me : ME} {pos : Pos}
def rMt (W : WX) (K : Fg) (σ₀ : St) (k : MK) : V → List V → Hp → VK → Prop := fun x xs H Q => ∃ F o ds, Same F H ∧ Rs K F H x o ∧ Paired (Rs K F H) xs ds ∧ Po W K σ₀ F H (mtD k o ds) fun r F' H' => ∀ v, Dv K F' v r → Q v H'
theorem readsL {pins : List (Addr × Obj)} {σ : St} {H : Hp} {s : Shared} (I : Inv X pins σ H s) : ∀ {ds : List D} {vs : List V} {us : List Value}, Dvs X.K H vs ds → Vals vs us → ∃ as, ReadsAll s.heap us ds as
  | _, _, _, .nil, .nil => ⟨_, .nil⟩
  | _, _, _, .cons x r, .cons ru rr => by
    obtain ⟨as, h1⟩ := readsL I r rr
    obtain ⟨bs, h2⟩ := Dp.reads I _ _ _ x.dp ru
    exact ⟨_, .cons h2 h1⟩
theorem plainL {xs : List D} (h : shp (.list xs) = true) : PyData.plainAll xs = true := PyData.plain_of_canLay0 _ (SeqAt.canLay_of_shaped h)
theorem minDep {xs : List D} {d : D} (h : shp d = true) (hu : X.A.units + 70 < cLine) : X.A.units + 1 + min (PyData.depthAll xs) d.depth < cLine := by
  have := SeqAt.depth_of_shaped h
  have := Nat.min_le_right (PyData.depthAll xs) d.depth
  omega
theorem mtCount (hu : X.A.units + 70 < cLine) : MtR X "list.count" (fun x vs H Q => ∃ F l y d xs ds, x = .ref l ∧ vs = [y] ∧ Same F H ∧ Rd H l (.lst xs) ∧ Dvs X.K F xs ds ∧ Rs X.K F H y d ∧ shp d = true ∧ shp (.list ds) = true ∧ Q (.int ((ds.countP fun z => PyData.eqv z d) : Nat)) H) := by
  intro pins s σ H x vs v us Q I rx rv ⟨F, l, y, d, xs, ds, ex, ev, sm, hl, hd, hy, h1, h2, q⟩
  subst ex ev
  cases rx
  obtain ⟨u, eu, ru⟩ := rv.one
  subst eu
  obtain ⟨z, its, n, r, e⟩ := lstRd I hl
  obtain ⟨as, ra⟩ := readsL I (hd.mono sm) r
  obtain ⟨bs, rb⟩ := Dp.reads I _ _ _ (hy.dvh sm).dp ru
  exact SeqAt.count_list_data (vs := its.toArray) ⟨_, e, rfl, n, rfl⟩ (by simpa using ra) rb (plainL h2) (PyData.plain_of_canLay0 _ (SeqAt.canLay_of_shaped h1)) (minDep h1 hu) ⟨.int _, H, I.kept (t' := s.toks + 1) fun _ _ z => z, ⟨_, rfl⟩, q⟩
theorem mtIndex (hu : X.A.units + 70 < cLine) : MtR X "list.index" (fun x vs H Q => ∃ F l y d xs ds j, x = .ref l ∧ vs = [y] ∧ Same F H ∧ Rd H l (.lst xs) ∧ Dvs X.K F xs ds ∧ Rs X.K F H y d ∧ shp d = true ∧ shp (.list ds) = true ∧ SeqAt.dataPlace ds d = some j ∧ Q (.int (j : Nat)) H) := by
  intro pins s σ H x vs v us Q I rx rv ⟨F, l, y, d, xs, ds, j, ex, ev, sm, hl, hd, hy, h1, h2, hp, q⟩
  subst ex ev
  cases rx
  obtain ⟨u, eu, ru⟩ := rv.one
  subst eu
  obtain ⟨z, its, n, r, e⟩ := lstRd I hl
  obtain ⟨as, ra⟩ := readsL I (hd.mono sm) r
  obtain ⟨bs, rb⟩ := Dp.reads I _ _ _ (hy.dvh sm).dp ru
  have ra' : ReadsAll s.heap its.toArray.toList ds as := by simpa using ra
  obtain ⟨hj, hit, hno⟩ := SeqAt.hit_at (d := d) ra' (plainL h2) hp
  have hz := r.length
  have hsz : its.toArray.size ≤ sizeLine := by rw [List.size_toArray]; omega
  have hb : sizeLine < 2 ^ 63 - 1 := by rw [sizeLine_eq]; decide
  have hall := SeqAt.items_plain (A := X.A) ra' rb (plainL h2) (PyData.plain_of_canLay0 _ (SeqAt.canLay_of_shaped h1)) (minDep h1 hu)
  exact call_meets PySem.F.slot_list_index ⟨_, e, rfl⟩ PySem.F.entry_list_index (PySem.F.args_list_index_2 _ _) (SeqAt.list_index2_found l its.toArray n none #[] u (fun m => if h : m < its.toArray.size then PyData.eqv (SeqAt.readOf s.heap its.toArray[m]) d else false) j hj (Nat.zero_le _) (by omega) (by simp only [hj, dite_true]; exact hit) (fun m hm _ hmj => by simp only [hm, dite_true]; exact hno m hm hmj)) ⟨e, fun m hm => by simp only [hm, dite_true]; exact hall _ (Array.getElem_mem hm), ⟨.int _, H, I.kept (t' := s.toks + 1) fun _ _ z => z, ⟨_, rfl⟩, q⟩⟩
theorem chkFew {env : Env} {cpos : Pos} : ∀ {ms : MEs} {es : List Expr}, chkEs Γ ms es = true → (backTo cpos (starEach es env)).all (fun x => !x.1) = true
  | .nil, [], _ => rfl
  | .nil, _ :: _, h => by simp [chkEs] at h
  | .cons _ _, [], h => by simp [chkEs] at h
  | .cons m ms, e :: es, h => by
    simp only [chkEs, Bool.and_eq_true] at h
    rw [nst_star h.1.1]
    have ih := chkFew (env := env) (cpos := cpos) h.2
    unfold backTo at ih ⊢
    rw [List.map_cons, List.all_cons, ih]
    rfl
theorem chkFewAll {env : Env} {cpos : Pos} {ms : MEs} {es : List Expr} (h : chkEs Γ ms es = true) (hl : ms.len < 10) : ((backTo cpos (starEach es env)).all (fun x => !x.1) && (backToKw cpos (keywordEach [] env)).all (fun x => x.1.isSome)
      && decide (es.length + ([] : List Keyword).length + (if ([] : List Keyword).isEmpty then 0 else 1) < 30)) = true := by
  rw [chkFew h]
  have := chkEs_len h
  have h2 : es.length + ([] : List Keyword).length + (if ([] : List Keyword).isEmpty then 0 else 1) < 30 := by
    show es.length + 0 + 0 < 30
    omega
  rw [decide_eq_true h2]
  rfl
theorem abBase {o : Expr} {n : Str} {env : Env} (h : abOk o = true) : attributeBase o n env (eval o env) = eval o env := by
  unfold abOk at h
  split at h
  · cases h
  · rename_i hne
    unfold attributeBase
    split
    · rename_i id p q
      exact absurd rfl (hne _ _ _)
    · rfl
theorem mtD_list {k : MK} {xs : List D} {ds : List D} {K : Fg} {F H : Hp} {T : D → Hp → Hp → Prop} {σ : St} (po : Po W K σ F H (mtD k (.list xs) ds) T) : ∃ a, ds = [a] ∧ shp a = true ∧ shp (.list xs) = true ∧
    ((k = .index ∧ ∃ j, SeqAt.dataPlace xs a = some j ∧ Po W K σ F H (.ok (.int (j : Nat))) T) ∨ (k = .count ∧ Po W K σ F H (.ok (.int ((xs.countP fun z => PyData.eqv z a) : Nat))) T)) := by
  unfold mtD at po
  split at po
  · rename_i a e1
    cases e1
    split at po
    · rename_i hc
      obtain ⟨c1, c2⟩ := Bool.and_eq_true_iff.mp hc
      obtain ⟨j, e, po⟩ := ofO_bind po
      exact ⟨_, rfl, c1, c2, .inl ⟨rfl, j, e, po⟩⟩
    · exact po.elim
  · rename_i a e1
    cases e1
    split at po
    · rename_i hc
      obtain ⟨c1, c2⟩ := Bool.and_eq_true_iff.mp hc
      exact ⟨_, rfl, c1, c2, .inr ⟨rfl, po⟩⟩
    · exact po.elim
  all_goals first | exact po.elim | (rename_i heq; cases heq)
theorem mtO_list {k : MK} {d : D} {K : Fg} {F H : Hp} {T : D → Hp → Hp → Prop} {σ : St} {r : R D} (hk : mtK k = true) (po : Po W K σ F H (if mtO k d then r else .no) T) : ∃ xs, d = .list xs ∧ Po W K σ F H r T := by
  split at po
  · rename_i h
    unfold mtO at h
    split at h <;> first | exact ⟨_, rfl, po⟩ | cases hk | cases h
  · exact po.elim
theorem sMt {k : MK} {o : Expr} {mo : ME} {es : List Expr} {ms : MEs} {ap : Pos} (O : Ok c Γ hx X W) (hk0 : mtK k = true) (hp : mtPos ap pos = true) (hab : abOk o = true) (ho : PE X o (tM c hx X.K W mo)) (hk : chkEs Γ ms (e :: es) = true) (hl : ms.len < 10) (ha : PA X (e :: es) (tMs c hx X.K W ms)) :
    PE X (.Call (.Attribute o (mkN k) ap) (e :: es) [] pos) (tM c hx X.K W (.mt k mo ms)) := by
  obtain ⟨s1, s2⟩ := chkEs_star (env := X.env) (pos := pos) hk
  have few := chkFewAll (env := X.env) (cpos := pos) hk hl
  have ty : ∀ {F H : Hp} {v : V} {xs : List D}, Same F H → Rs X.K F H v (.list xs) → ∃ l vs, v = .ref l ∧ tyV X.K "list" v H ∧ Rd H l (.lst vs) ∧ Dvs X.K F vs xs := fun {F H v xs} sm rv => by
    obtain ⟨l, vs, rfl, hl, hd⟩ := rv.list sm
    refine ⟨l, vs, rfl, ?_, hl, hd⟩
    rcases hl with hl | ⟨w, hl⟩
    · exact .inl ⟨rfl, vs, .inl (.inl hl)⟩
    · exact .inl ⟨rfl, vs, .inl (.inr ⟨w, hl⟩)⟩
  have mono : ∀ {H1 H2 : Hp} {l : Addr} {vs : List V} {F1 F2 : Hp}, Gr F1 H1 F2 H2 → Rd H1 l (.lst vs) → Rd H2 l (.lst vs) := fun g h => rdMono g.h h
  cases k with
  | count =>
    refine peImp (pe_bm (cpos := pos) F.plainAttrs_list F.slot_list_count F.type_list_count (mtCount O.un) ho ha (abBase hab) few hp s1 s2) fun σ H Q ⟨ρ, F, rep, po⟩ => ?_
    have po : Po W X.K σ F H ((evE c mo ρ).bind fun x => if mtO .count x then (evEs c ms ρ).bind fun ds => mtD .count x ds else .no) _ := po
    refine ⟨ρ, F, rep, po.bind.imp fun d F1 H1 _ g1 po v rv => ?_⟩
    obtain ⟨xs, rfl, po⟩ := mtO_list rfl po
    obtain ⟨l, vs, rfl, t1, t2, t3⟩ := ty g1.s rv.rs
    refine ⟨t1, ρ, F1, rep.gr g1, po.bind.imp fun ds F2 H2 _ g2 po ws rws => ?_⟩
    obtain ⟨y, rfl, c1, c2, z | ⟨_, po⟩⟩ := mtD_list po
    · cases z.1
    · obtain ⟨u, rfl, ru⟩ := paired1 rws.rs
      exact ⟨F2, l, u, y, vs, xs, rfl, rfl, g2.s, mono g2 t2, t3.mono g2.f, ru, c1, c2, po.ok g2.s _ (Rm.of (.int _))⟩
  | index =>
    refine peImp (pe_bm (cpos := pos) F.plainAttrs_list F.slot_list_index F.type_list_index (mtIndex O.un) ho ha (abBase hab) few hp s1 s2) fun σ H Q ⟨ρ, F, rep, po⟩ => ?_
    have po : Po W X.K σ F H ((evE c mo ρ).bind fun x => if mtO .index x then (evEs c ms ρ).bind fun ds => mtD .index x ds else .no) _ := po
    refine ⟨ρ, F, rep, po.bind.imp fun d F1 H1 _ g1 po v rv => ?_⟩
    obtain ⟨xs, rfl, po⟩ := mtO_list rfl po
    obtain ⟨l, vs, rfl, t1, t2, t3⟩ := ty g1.s rv.rs
    refine ⟨t1, ρ, F1, rep.gr g1, po.bind.imp fun ds F2 H2 _ g2 po ws rws => ?_⟩
    obtain ⟨y, rfl, c1, c2, ⟨_, j, ej, po⟩ | z⟩ := mtD_list po
    · obtain ⟨u, rfl, ru⟩ := paired1 rws.rs
      exact ⟨F2, l, u, y, vs, xs, j, rfl, rfl, g2.s, mono g2 t2, t3.mono g2.f, ru, c1, c2, ej, po.ok g2.s _ (Rm.of (.int _))⟩
    · cases z.1
  | _ => cases hk0
/-! ### a held refusal -/
theorem call_isP {p : Addr × Obj} {D : Addr} (hp : p ∈ X.pn) (C : ExcC X.K D) (hc : p.2.cls = .ref D) (hd : p.2.dict = none) (hf : ∃ vs, p.2.data = .fields vs) : CallR X (.builtin "isinstance") (rIsE X.K D p.1) := by
  intro pins s σ H xs us Q I r h
  obtain ⟨c, cv, b, rfl, hcv, e, q⟩ := h
  cases r with
  | cons rx rr =>
    cases rr with
    | cons rt rr =>
      cases rr
      cases rx
      have ec := hcv _ rt
      subst ec
      obtain ⟨hget, _⟩ := I.pin p (List.mem_append.mpr (.inl hp))
      obtain ⟨vs, hv⟩ := hf
      have J : PySem.W.InstAt s.heap p.1 p.2 D none := by
        obtain ⟨pa, oc, od, oda, osl⟩ := p
        dsimp only at hc hd hv hget
        subst hc hd hv
        exact ⟨hget, rfl, rfl, trivial⟩
      exact PySem.W.kia_one (PySem.W.handS_kitx_exc C.hg C.hk C.hs C.hd C.ha C.hn C.ht C.hm) I.kIn J e (fun z => nomatch z) fun tk => ⟨.bl b, H, I.kept (t' := tk) fun _ _ z => z, rfl, q⟩
theorem getX_ok {ρ : En} {i : Nat} {k : Str} (h : getX ρ i = .ok k) : ρ[i]? = some (.exc k) := by
  unfold getX at h
  split at h
  · rename_i e
    rw [e]
    cases h
    rfl
  · cases h
theorem getX_bind {α : Type} {ρ : En} {i : Nat} {f : Str → R α} {K : Fg} {σ : St} {F H : Hp} {T : α → Hp → Hp → Prop} (po : Po W K σ F H ((getX ρ i).bind f) T) : ∃ k, ρ[i]? = some (.exc k) ∧ Po W K σ F H (f k) T := by
  cases e : getX ρ i with
  | ok k =>
    rw [e] at po
    exact ⟨k, getX_ok e, po⟩
  | ex k => unfold getX at e; split at e <;> cases e
  | no => rw [e] at po; exact po.elim
theorem sIsx {i : Nat} {k y : Str} {p p1 p2 : Pos} (O : Ok c Γ hx X W) (hh : Γ.hot = true) (h1 : kGl Γ "isinstance" = true) (hv : okV Γ i y = true) (h2 : kGl Γ k = true) (h3 : (decide (k = ("ValueError" : Str)) || Γ.xs.contains k) = true) : PE X (.Call (.Name "isinstance" p) [.Name y p1, .Name k p2] [] pos) (tM c hx X.K W (.isx i k)) := by
  obtain ⟨g1, g2, g3⟩ := kGl_iff O h1
  obtain ⟨k1, k2, k3⟩ := kGl_iff O h2
  obtain ⟨v1, v2, v3, v4⟩ := okV_iff O hv
  obtain ⟨q, cl, hot, hq, ⟨e1, e2, e3, e4⟩, hxq⟩ := O.hot hh
  obtain ⟨C, kv, ks⟩ := O.ek cl e1
  have cls : ∃ (cv : V) (u : Value), PE X (.Name k p2) (tC cv) ∧ (∀ u', RelV cv u' → u' = u) ∧ PySem.W.kitOne X.K (.ref (He.ga X.K cl)) u = some (c.sub cl k) := by
    rcases Bool.or_eq_true_iff.mp h3 with z | z
    · have := of_decide_eq_true z
      subst this
      refine ⟨.ty "ValueError", .type "ValueError", pe_bltn k1 (O.free _ (by decide)) rfl rfl k3 k2, fun u' r => r, ?_⟩
      rw [O.ve cl e1]
      exact kv
    · have hk : k ∈ Γ.xs := by simpa using z
      obtain ⟨m1, _⟩ := O.xs k hk
      exact ⟨.ref _, _, pe_glob k1 m1 rfl k2, fun u' r => r, (ks k hk).1⟩
  obtain ⟨cv, u, pc, hu, hki⟩ := cls
  have hA : PA X [.Name y p1, .Name k p2] _ := pa_cons (pe_var v1 v2 v3 v4) (pa_cons pc pa_nil rfl) rfl
  refine peImp (pe_callB (call_isP hq C e2 e3 e4) g1 (O.free _ (by decide)) rfl hA g3 g2 rfl rfl) fun σ H Q ⟨ρ, F, rep, po⟩ => ?_
  obtain ⟨z, ez, po⟩ := getX_bind (show Po W X.K σ F H ((getX ρ i).bind fun z => R.ok (PyData.bool (c.sub z k))) _ from po)
  obtain ⟨a, ea, ha⟩ := rep.at_ i _ ez
  obtain ⟨rfl, rfl⟩ := hxq _ _ ha
  exact ⟨_, ea, cv, u, _, rfl, hu, hki, po.ok rep.s _ (Rm.of (.bl _))⟩
theorem run_fnE {k : Nat} {f : Addr} {fd : FuncData} {ps : List Str} {sp : (Addr × Obj) → Sp} {E : St → XK} {pins : List (Addr × Obj)} {σ : St} {H : Hp} {s : Shared} {Q : VK} {us : List Value} {vs : List V} {CX : CXT} {p : Addr × Obj} (F : FnE X.prog X.w X.K X.mg X.base CX k f fd ps sp) (hr : L2H.RoomH k X.A) (hot : L2H.Hot1 X.A p) (hp : p ∈ X.pn) (hb : Binds X.K fd ps []) (hx : PassesAt CX X σ (E σ))
    (I : Inv X pins σ H s) (r : Vals vs us) (h : sp p vs H Q (E σ)) : wpAny (model X.prog X.w) X.A (call (.ref f) us) (EP X pins σ Q) X.xe s := by
  have hl : us.length = ps.length := by rw [← r.length]; exact F.len _ _ _ _ _ h
  have b := hb s us I.kIn (by rw [List.append_nil]; exact hl)
  rw [List.append_nil] at b
  have P1 := I.pin p (List.mem_append_left _ hp)
  have hpin : L2H.PinOk X.stack H s p := ⟨P1.1, P1.2.1, fun hm => (List.mem_cons.mp (I.stkSub p.1 hm)).elim P1.2.2.1 P1.2.2.2.1, P1.2.2.2.2⟩
  refine wpAny_call (codeAny_mono (F.run X.A X.stack s H ⟨us, []⟩ us vs Q (E σ) p hr hot hpin I.env0 b r h) fun r s' hq => ?_)
  cases r with
  | error e => exact hx pins H s e s' I hq
  | ok fl =>
    cases fl with
    | ret u => exact I.after hq
    | next => exact False.elim hq
    | brk => exact False.elim hq
    | cont => exact False.elim hq
theorem sCallX {i : Nat} {f y : Str} {p p1 : Pos} (O : Ok c Γ hx X W) (hh : Γ.hot = true) (hf : okG Γ f Γ.hs = true) (hv : okV Γ i y = true) : PE X (.Call (.Name f p) [.Name y p1] [] pos) (tM c hx X.K W (.callX f i)) := by
  obtain ⟨h1, h2, h3, h4⟩ := okG_iff O hf
  obtain ⟨v1, v2, v3, v4⟩ := okV_iff O hv
  obtain ⟨q, cl, hot, hq, ie, hxq⟩ := O.hot hh
  obtain ⟨k, ad, fd, ps, room, hm, kp, bd, F⟩ := O.callx f h4
  have hA : PA X [.Name y p1] _ := pa_cons (pe_var v1 v2 v3 v4) pa_nil rfl
  refine ⟨fun pins s σ H Q I ⟨ρ, F0, rep, po⟩ => ?_⟩
  obtain ⟨z, ez, po⟩ := getX_bind (show Po W X.K σ F0 H ((getX ρ i).bind fun z => c.calx f z) _ from po)
  obtain ⟨a, ea, ha⟩ := rep.at_ i _ ez
  obtain ⟨rfl, rfl⟩ := hxq _ _ ha
  refine wpAny_Call_Name_kw (ld_glob I h1 hm ?_ h2)
  refine PySem.W.callWith_K (h₀ := X.base) I.ok.mod.kin kp (thn (hA.run pos pins s σ H (fun vs H1 => vs = [.ref q.1] ∧ H1 = H) I ?_) fun us s1 ⟨vs, H1, I1, r, e1, e2⟩ => ⟨I1.kIn, ?_⟩) rfl rfl
  · exact ⟨_, ea, rfl, rfl⟩
  · subst e1 e2
    refine run_fnE (E := fun σ => fun cls d H' => W cls d σ H') F room hot hq bd (L2N.passAt O.tk σ) I1 r ⟨z, F0, rfl, ie, rep.s, ?_⟩
    cases qc : c.calx f z with
    | ok d =>
      rw [qc] at po
      exact fun F2 H2 g v dv => po F2 H2 g v (Rm.of dv)
    | ex k =>
      rw [qc] at po
      exact po
    | no =>
      rw [qc] at po
      exact po.elim
end
end Wq

end
section
set_option Elab.async false
set_option linter.all false
set_option autoImplicit false
set_option maxRecDepth 100000
set_option maxHeartbeats 1000000
/-! Dicts of one's own, with tuples for keys. -/
namespace Wq
open PySem PySem.Spec PyProof.Rows L2
abbrev tk (P : Program) (w : World) := tupleKind (mixKind P w)
section
variable {X : Cx} {pins : List (Addr × Obj)} {σ : St} {H : Hp} {s : Shared} {a b : Addr} {es : List Ent} {q : List Key}
/-- a tuple of numbers and texts is a key -/
theorem keyIs (I : Inv X pins σ H s) (hb : SqT X.K H b (q.map kV)) : (tk X.prog X.w).is s.heap q b := by
  rcases hb with hb | ⟨ob, arr, m, l1, l2, l3, _, r⟩
  · obtain ⟨_, arr, r, ob, l1, l2, m, l3⟩ := hb.ok I.hok
    exact ⟨ob, arr.toArray, m, l1, l2, l3, by simpa using items_are r⟩
  · exact ⟨ob, arr, m, I.kIn _ _ l1, l2, l3, items_are r⟩
def Keyd (K : Fg) (H : Hp) (es : List Ent) : Prop := ∀ x ∈ es, SqT K H x.2.1 (x.1.map kV)
theorem dcAt (I : Inv X pins σ H s) (he : H a = some (dcO X.prog X.w a es)) (hk : Keyd X.K H es) : s.heap.DictOfH (tk X.prog X.w) a es := by
  obtain ⟨⟨ob, arr, n, l1, l2, l3, l4, l5⟩, _, _⟩ := I.hok a _ he
  exact ⟨ob, arr, n, l1, l2, l3, l4, fun x hx => keyIs I (hk x hx), l5⟩
theorem dcNew {P : Program} {w : World} {h : Heap} (dd : h.DictOfH (tk P w) a es) : ObjOk P w H h a (dcO P w a es) := by
  obtain ⟨ob, arr, n, l1, l2, l3, l4, _, l5⟩ := dd
  exact ⟨⟨ob, arr, n, l1, l2, l3, l4, l5⟩, ⟨ob, l1⟩, fun _ _ ⟨o', ar', n', z1, z⟩ k => ⟨o', ar', n', k _ z1, z⟩⟩
theorem kv_keyd {K : Fg} {F : Hp} {kvs : List (List Key × D)} (h : Paired (KvR K F) es kvs) (sm : Same F H) : Keyd K H es := by
  induction h with
  | nil => intro x hx; cases hx
  | @cons p k ps ks hp t ih =>
    intro x hx
    rcases List.mem_cons.mp hx with rfl | hx
    · exact sqtMono sm hp.2.1
    · exact ih x hx
theorem kv_look {K : Fg} {F : Hp} {kvs : List (List Key × D)} (h : Paired (KvR K F) es kvs) (q : List Key) : (∃ p v d, atKey es q = some p ∧ dlook kvs q = some d ∧ RelV v p.2 ∧ Dv K F v d) ∨ (atKey es q = none ∧ dlook kvs q = none) := by
  induction h with
  | nil => exact .inr ⟨rfl, rfl⟩
  | @cons p k ps ks hp t ih =>
    obtain ⟨p1, p2⟩ := p
    obtain ⟨k1, k2⟩ := k
    obtain ⟨h1, h2, v, h3, h4⟩ := hp
    simp only at h1
    subst h1
    by_cases e : p1 = q
    · subst e
      exact .inl ⟨p2, v, k2, by simp [atKey], by simp [dlook], h3, h4⟩
    · have e1 : atKey ((p1, p2) :: ps) q = atKey ps q := by simp [atKey, List.find?_cons, e]
      have e2 : dlook ((p1, k2) :: ks) q = dlook ks q := by simp [dlook, List.find?_cons, e]
      rw [e1, e2]
      exact ih
theorem kv_put {K : Fg} {F : Hp} {kvs : List (List Key × D)} (h : Paired (KvR K F) es kvs) (hn : (es.map (·.1)).Nodup) (hb : SqT K F b (q.map kV)) {v : V} {r : Value} {y : D} (rv : RelV v r) (dv : Dv K F v y) : Paired (KvR K F) (storedH es q b r) (dputL kvs q y) := by
  have key : (atKey es q = none → Paired (KvR K F) (es ++ [(q, b, r)]) (dputL kvs q y)) ∧ ((atKey es q).isSome = true → Paired (KvR K F) (es.map (putAt q r)) (dputL kvs q y)) := by
    induction h with
    | nil => exact ⟨fun _ => .cons ⟨rfl, hb, v, rv, dv⟩ .nil, fun z => by cases z⟩
    | @cons p k ps ks hp t ih =>
      rw [List.map_cons, List.nodup_cons] at hn
      obtain ⟨i1, i2⟩ := ih hn.2
      by_cases e : p.1 = q
      · have ek : k.1 = q := hp.1.symm.trans e
        refine ⟨fun z => ?_, fun _ => ?_⟩
        · simp [atKey, e] at z
        · have hm : ps.map (putAt q r) = ps := map_putAt_of_not_mem ps q r (by rw [← e]; exact hn.1)
          rw [List.map_cons, hm, dputL, if_pos ek, putAt, if_pos e]
          exact .cons ⟨hp.1, hp.2.1, v, rv, dv⟩ t
      · have ek : ¬ k.1 = q := fun z => e (hp.1.trans z)
        have e1 : atKey (p :: ps) q = atKey ps q := by simp [atKey, List.find?_cons, e]
        rw [e1, dputL, if_neg ek]
        refine ⟨fun z => .cons hp (i1 z), fun z => ?_⟩
        rw [List.map_cons, putAt, if_neg e]
        exact .cons hp (i2 z)
  cases z : atKey es q with
  | none => rw [storedH_new z]; exact key.1 z
  | some p => rw [storedH_old z]; exact key.2 (by rw [z]; rfl)
theorem keys_vals {K : Fg} {F : Hp} : ∀ {vs : List V} {ds : List D} {q : List Key}, Dvs K F vs ds → toKeys ds = some q → vs = q.map kV
  | _, _, q, .nil, e => by simp [toKeys] at e; subst e; rfl
  | _, _, q, .cons (d := d) (ds := ds) h t, e => by
    unfold toKeys at e
    cases d with
    | int i =>
      simp only [toKey, Option.bind_some, Option.map_eq_some_iff] at e
      obtain ⟨ks, e1, rfl⟩ := e
      cases h
      rw [keys_vals t e1]
      rfl
    | str z =>
      simp only [toKey, Option.bind_some, Option.map_eq_some_iff] at e
      obtain ⟨ks, e1, rfl⟩ := e
      cases h
      rw [keys_vals t e1]
      rfl
    | _ => simp [toKey] at e
/-- a key's value -/
theorem keyD_dv {K : Fg} {F : Hp} {v : V} {d : D} {q : List Key} (h : Dv K F v d) (e : keyD d = .ok q) : ∃ b, v = .ref b ∧ SqT K F b (q.map kV) := by
  cases d with
  | tuple xs =>
    obtain ⟨b, vs, rfl, h1, h2⟩ := h.tupF
    have e : toKeys xs = some q := by
      have e : ofO (toKeys xs) = .ok q := e
      cases z : toKeys xs with
      | none => rw [z] at e; cases e
      | some q' => rw [z] at e; cases e; rfl
    rw [keys_vals h2 e] at h1
    exact ⟨b, rfl, h1⟩
  | _ => cases e
theorem keyD_po {α : Type} {W : WX} {K : Fg} {F : Hp} {d : D} {f : List Key → R α} {T : α → Hp → Hp → Prop} (po : Po W K σ F H ((keyD d).bind f) T) : ∃ q, keyD d = .ok q ∧ Po W K σ F H (f q) T := by
  cases e : keyD d with
  | ok q => rw [e] at po; exact ⟨q, rfl, po⟩
  | ex k =>
    cases d with
    | tuple xs => simp only [keyD] at e; cases z : toKeys xs <;> rw [z] at e <;> cases e
    | _ => cases e
  | no => rw [e] at po; exact po.elim
theorem getD_po {α : Type} {W : WX} {K : Fg} {F : Hp} {ρ : En} {i : Nat} {f : List (List Key × D) → R α} {T : α → Hp → Hp → Prop} (po : Po W K σ F H ((getD' ρ i).bind f) T) : ∃ kvs, ρ[i]? = some (.dic kvs) ∧ Po W K σ F H (f kvs) T := by
  unfold getD' at po
  split at po
  · exact ⟨_, by assumption, po⟩
  · exact po.elim
end
/-- d[k], k in d .. -/
def rDin (P : Program) (w : World) (K : Fg) (n : Bool) : V → V → Hp → VK → Prop := fun y x H Q => ∃ a b es q, x = .ref a ∧ y = .ref b ∧ H a = some (dcO P w a es) ∧ (a == sysModules) = false ∧ Keyd K H es ∧ SqT K H b (q.map kV) ∧ Q (.bl (n != (atKey es q).isSome)) H
section
variable {X : Cx}
theorem opDin (hu : X.A.units + 1 < cLine) : OpR X (compareOp .In) (rDin X.prog X.w X.K false) := by
  intro pins s σ H y x u v Q I ry rx ⟨a, b, es, q, ex, ey, he, hd, hk, hb, hQ⟩
  subst ex ey
  cases rx
  cases ry
  refine wpAny_in_heap (tupleKind_room_in1 hu) (keyIs I hb) hd (dcAt I he hk) ⟨.bl (atKey es q).isSome, H, I.tok _, rfl, ?_⟩
  simpa using hQ
theorem opDni (hu : X.A.units + 1 < cLine) : OpR X (compareOp .NotIn) (rDin X.prog X.w X.K true) := by
  intro pins s σ H y x u v Q I ry rx ⟨a, b, es, q, ex, ey, he, hd, hk, hb, hQ⟩
  subst ex ey
  cases rx
  cases ry
  refine wpAny_notIn_heap (tupleKind_room_in1 hu) (keyIs I hb) hd (dcAt I he hk) ⟨.bl (!(atKey es q).isSome), H, I.tok _, rfl, ?_⟩
  simpa using hQ
variable {o e f : Expr} {td ty tx : TE} {pos ap : Pos}
/-- d[k] -/
theorem peDitem (hu : X.A.units + 1 < cLine) (ho : PE X o td) (hi : PE X e ty) (hs : NoSl e) : PE X (.Subscript o e pos) (fun σ H Q => td σ H fun x H1 => ty σ H1 fun y H2 => ∃ a b es q p v, x = .ref a ∧ y = .ref b ∧ H2 a = some (dcO X.prog X.w a es) ∧ Keyd X.K H2 es ∧ SqT X.K H2 b (q.map kV) ∧ atKey es q = some p ∧ RelV v p.2 ∧ Q v H2) := by
  refine ⟨fun pins s σ H Q I h => ?_⟩
  refine subD_of PySem.F.slot_dict_getitem.lookup hs (thn (ho.run pins s σ H _ I h) fun u t1 ⟨x, H1, I1, rx, h1⟩ => thn (hi.run pins t1 σ H1 _ I1 h1) fun iv t2 ⟨y, H2, I2, ry, a, b, es, q, p, v, ex, ey, he, hk, hb, hp, rv, hQ⟩ => ?_)
  subst ex ey
  cases rx
  cases ry
  exact ⟨(dcAt I2 he hk).typeIs, wpAny_getItem_heap (tupleKind_room_in1 hu) (keyIs I2 hb) (dcAt I2 he hk) hp ⟨v, H2, I2.tok _, rv, hQ⟩⟩
/-- d.get(k) -/
theorem peDget1 (hu : X.A.units + 1 < cLine) (ho : PE X o td) (hi : PE X e ty) (m : M1 X o "get" ap e pos) : PE X (.Call (.Attribute o "get" ap) [e] [] pos) (fun σ H Q => td σ H fun x H1 => ∃ a es, x = .ref a ∧ H1 a = some (dcO X.prog X.w a es) ∧ (a == sysModules) = false ∧ Keyd X.K H1 es ∧
    ty σ H1 fun y H2 => ∃ b q v, y = .ref b ∧ H2 a = some (dcO X.prog X.w a es) ∧ Keyd X.K H2 es ∧ SqT X.K H2 b (q.map kV) ∧ RelV v (((atKey es q).map (·.2)).getD .none) ∧ Q v H2) := by
  refine ⟨fun pins s σ H Q I h => ?_⟩
  refine wpAny_Call_method m.base m.few m.line PySem.F.plainAttrs_dict PySem.F.slot_dict_get PySem.F.type_dict_get (thn (ho.run pins s σ H _ I h) fun u t1 ⟨x, H1, I1, rx, a, es, ex, he, hd, hk, h1⟩ => ?_)
  subst ex
  cases rx
  have dd := dcAt I1 he hk
  refine ⟨dd.typeIs, fun c z => ?_, ?_⟩
  · cases z
    obtain ⟨ob, _, _, l1, l2, _⟩ := dd
    exact ⟨ob, l1, l2.2.1⟩
  rw [m.trees]
  refine wpAny_dict_get1_heap (knd := tk X.prog X.w) (tupleKind_room_in1 hu) hd (thn (hi.run pins t1 σ H1 _ I1 h1) fun iv t2 ⟨y, H2, I2, ry, b, q, v, ey, he2, hk2, hb, rv, hQ⟩ => ?_)
  subst ey
  cases ry
  exact ⟨b, q, es, rfl, keyIs I2 hb, dcAt I2 he2 hk2, v, H2, I2.tok _, rv, hQ⟩
/-- d.get(k, z) -/
theorem peDget2 (hu : X.A.units + 1 < cLine) (ho : PE X o td) (hi : PE X e ty) (hf : PE X f tx) (m : M2 X o "get" ap e f pos) : PE X (.Call (.Attribute o "get" ap) [e, f] [] pos) (fun σ H Q => td σ H fun x H1 => ∃ a es, x = .ref a ∧ H1 a = some (dcO X.prog X.w a es) ∧ (a == sysModules) = false ∧ Keyd X.K H1 es ∧
    ty σ H1 fun y H2 => tx σ H2 fun z H3 => ∃ b q, y = .ref b ∧ H3 a = some (dcO X.prog X.w a es) ∧ Keyd X.K H3 es ∧ SqT X.K H3 b (q.map kV) ∧ ∀ r, RelV z r → ∃ v, RelV v (((atKey es q).map (·.2)).getD r) ∧ Q v H3) := by
  refine ⟨fun pins s σ H Q I h => ?_⟩
  refine wpAny_Call_method m.base m.few m.line PySem.F.plainAttrs_dict PySem.F.slot_dict_get PySem.F.type_dict_get (thn (ho.run pins s σ H _ I h) fun u t1 ⟨x, H1, I1, rx, a, es, ex, he, hd, hk, h1⟩ => ?_)
  subst ex
  cases rx
  have dd := dcAt I1 he hk
  refine ⟨dd.typeIs, fun c z => ?_, ?_⟩
  · cases z
    obtain ⟨ob, _, _, l1, l2, _⟩ := dd
    exact ⟨ob, l1, l2.2.1⟩
  rw [m.trees]
  refine wpAny_dict_get2_heap (knd := tk X.prog X.w) (tupleKind_room_in1 hu) hd (thn (hi.run pins t1 σ H1 _ I1 h1) fun iv t2 ⟨y, H2, I2, ry, h2⟩ => thn (hf.run pins t2 σ H2 _ I2 h2) fun fv t3 ⟨z, H3, I3, rz, b, q, ey, he2, hk2, hb, hQ⟩ => ?_)
  subst ey
  cases ry
  obtain ⟨v, rv, hQ⟩ := hQ fv rz
  exact ⟨b, q, es, rfl, keyIs I3 hb, dcAt I3 he2 hk2, v, H3, I3.tok _, rv, hQ⟩
/-- d[k] = v -/
theorem psDput {ve : Expr} {tv : TE} {pos' : Pos} (hu : X.A.units + 1 < cLine) (ho : PE X o td) (hi : PE X e ty) (hv : PE X ve tv) (hs : swapsWith ve (some (.Subscript o e pos')) pos.line X.env = pure false) :
    PS X (.Assign [.Subscript o e pos'] ve pos) (fun D σ H => tv σ H fun v H1 => td σ H1 fun x H2 => ty σ H2 fun y H3 => ∃ a b es q, x = .ref a ∧ y = .ref b ∧ H3 a = some (dcO X.prog X.w a es) ∧ Keyd X.K H3 es ∧ SqT X.K H3 b (q.map kV) ∧ es.length ≤ sizeLine ∧
      ∀ r, RelV v r → (es.map (·.1)).Nodup → D.nx σ (upd H3 a (dcO X.prog X.w a (storedH es q b r)))) := by
  refine ⟨fun pins s σ H D I h => ?_⟩
  refine wpAny_Assign_Subscript (thn (hv.run pins s σ H _ I h) fun r t1 ⟨v, H1, I1, rv, h1⟩ => thn (ho.run pins t1 σ H1 _ I1 h1) fun u t2 ⟨x, H2, I2, rx, h2⟩ => thn (hi.run pins t2 σ H2 _ I2 h2) fun iv t3 ⟨y, H3, I3, ry, a, b, es, q, ex, ey, he, hk, hb, hz, h3⟩ => ?_) hs
  subst ex ey
  cases rx
  cases ry
  have dd := dcAt I3 he hk
  have hn : (es.map (·.1)).Nodup := by
    obtain ⟨_, _, _, _, _, _, _, _, z⟩ := dd
    exact z
  refine wpAny_setItem_heap (hsz := hz) (tupleKind_room_in1 hu) (keyIs I3 hb) dd fun h' dd' sb => ?_
  have hex : ∃ ob, h'.get? a = some ob := by
    obtain ⟨ob, _, _, z, _⟩ := dd'
    exact ⟨ob, z⟩
  exact ⟨σ, _, I3.write (x := a) (e := a) (by rw [he]; exact True.intro) (.inl rfl) (fun c ob hc z => (sb.2 c hc).trans z) hex (dcNew dd'), h3 r rv hn⟩
/-- {} -/
theorem peDnew : PE X (.Dict [] [] pos) (fun σ H Q => ∀ p, H p = none → (p == sysModules) = false → Q (.ref p) (upd H p (dcO X.prog X.w p []))) := ⟨fun pins s σ H Q I h =>
  wpAny_Dict_empty ⟨.ref s.heap.objs.size, _, I.laid (a := s.heap.objs.size) (o := dcO X.prog X.w s.heap.objs.size []) (t' := s.toks) (fun _ _ z => Heap.get?_push_of_some _ z) (Nat.le_refl _) (dcNew (Heap.DictOfH.new s.heap)), rfl,
    h _ (I.hok.fresh (Nat.le_refl _)) (beq_eq_false_iff_ne.mpr (Ne.symm (Nat.ne_of_lt I.big)))⟩⟩
/-- {k: v} -/
theorem peDnew1 {ve : Expr} {tv : TE} (hu : X.A.units + 1 < cLine) (hk : PE X e ty) (hv : PE X ve tv) : PE X (.Dict [some e] [ve] pos) (fun σ H Q => ∀ p, H p = none → (p == sysModules) = false → ty σ (upd H p (dcO X.prog X.w p [])) fun x H1 => tv σ H1 fun y H2 =>
    ∃ b q, x = .ref b ∧ H2 p = some (dcO X.prog X.w p []) ∧ SqT X.K H2 b (q.map kV) ∧ ∀ r, RelV y r → Q (.ref p) (upd H2 p (dcO X.prog X.w p [(q, b, r)]))) := by
  refine ⟨fun pins s σ H Q I h => ?_⟩
  have fr := I.hok.fresh (Nat.le_refl s.heap.objs.size)
  have I1 := I.laid (a := s.heap.objs.size) (o := dcO X.prog X.w s.heap.objs.size []) (h' := s.heap.push { cls := .type "dict", data := .dict #[] }) (t' := s.toks) (fun _ _ z => Heap.get?_push_of_some _ z) (Nat.le_refl _) (dcNew (Heap.DictOfH.new s.heap))
  have h := h _ fr (beq_eq_false_iff_ne.mpr (Ne.symm (Nat.ne_of_lt I.big)))
  rw [arm_eval_Dict, zip_pairTrees [some e] [ve] X.env pos rfl rfl, dictDisplay_pairs _ (by rw [pairTrees]; exact fun z => by cases z) (by rw [pairTrees_length [some e] [ve] X.env pos rfl rfl]; exact Nat.lt_of_sub_eq_succ rfl)]
  refine wpAny_bind (wpAny_standAt (wpAny_bind (wpAny_subDictH (knd := tk X.prog X.w) (Q := fun d s' => wpAny (model X.prog X.w) X.A (pure (Value.ref d)) (EP X pins σ Q) X.xe s') (by show X.A.units < cLine; omega) (by rw [pairTrees_length [some e] [ve] X.env pos rfl rfl]; exact Nat.le_of_ble_eq_true rfl) ?_)))
  refine pairTrees_cons_walk (thn (hk.run pins _ σ _ _ I1 h) fun kv t1 ⟨x, H1, I2, rx, h1⟩ => thn (hv.run pins t1 σ H1 _ I2 h1) fun vv t2 ⟨y, H2, I3, ry, b, q, ex, he, hb, hQ⟩ => pairTrees_nil_walk ?_)
  subst ex
  cases rx
  refine ⟨[(q, b, vv)], ⟨rfl, rfl, keyIs I3 hb, trivial⟩, dcAt I3 he (fun z hz => by cases hz), fun h' tk' dd' sb => wpAny_pure ?_⟩
  have dd' : h'.DictOfH (tk X.prog X.w) s.heap.objs.size [(q, b, vv)] := dd'
  have hex : ∃ ob, h'.get? s.heap.objs.size = some ob := by
    obtain ⟨ob, _, _, z, _⟩ := dd'
    exact ⟨ob, z⟩
  exact ⟨.ref s.heap.objs.size, _, I3.write (x := s.heap.objs.size) (e := s.heap.objs.size) (by rw [he]; exact True.intro) (.inl rfl) (fun c ob hc z => (sb.2 c hc).trans z) hex (dcNew dd'), rfl, hQ vv ry⟩
end
end Wq

end
section
set_option Elab.async false
set_option linter.all false
set_option autoImplicit false
set_option maxRecDepth 100000
set_option maxHeartbeats 1000000
/-! Dicts of one's own in the small language: expressions. -/
namespace Wq
open PySem PySem.Spec PyProof.Rows L2
section
variable {c : Cv} {Γ : Cfg} {hx : HX} {X : Cx} {W : WX} {e f : Expr} {k v : ME} {i : Nat} {x : Str} {px ap pos : Pos}
theorem noSl_of (h : plainIx e = true) : NoSl e := by
  cases e <;> first | exact fun _ _ => rfl | cases h
theorem Ok.un1 (O : Ok c Γ hx X W) : X.A.units + 1 < cLine := by have := O.un; omega
theorem dcTo (O : Ok c Γ hx X W) {H : Hp} {a : Addr} {es : List Ent} (h : H a = some (dcO hx.P hx.w a es)) : H a = some (dcO X.prog X.w a es) := by rw [← O.hp.1, ← O.hp.2]; exact h
theorem sDitem (O : Ok c Γ hx X W) (hv : okV Γ i x = true) (hk : PE X e (tM c hx X.K W k)) (hs : sf k = true) (hp : plainIx e = true) : PE X (.Subscript (.Name x px) e pos) (tM c hx X.K W (.ditem i k)) := by
  obtain ⟨h1, h2, h3, h4⟩ := okV_iff O hv
  refine peImp (peDitem O.un1 (pe_var h1 h2 h3 h4) hk (noSl_of hp)) fun σ H Q ⟨ρ, F, rep, po⟩ => ?_
  obtain ⟨kvs, ed, po⟩ := getD_po (show Po W X.K σ F H ((getD' ρ i).bind fun kvs => (evE c k ρ).bind fun x => (keyD x).bind fun q => ofO (dlook kvs q)) _ from po)
  obtain ⟨a, es, e1, e2, e3, e4⟩ := rep.at_ i _ ed
  refine ⟨.ref a, e1, ρ, F, rep, po.bind.imp fun d F1 H1 _ g1 po u ru => ?_⟩
  obtain ⟨q, ek, po⟩ := keyD_po po
  obtain ⟨b, rfl, hb⟩ := keyD_dv (ru.dv hs) ek
  have kv := (e4.mono g1.f).2
  rcases kv_look kv q with ⟨p, w, d, l1, l2, l3, l4⟩ | ⟨l1, l2⟩
  · rw [l2] at po
    exact ⟨a, b, es, q, p, w, rfl, rfl, dcTo O (g1.h _ _ e3), kv_keyd kv g1.s, sqtMono g1.s hb, l1, l3, po.ok g1.s w (Rm.of l4)⟩
  · rw [l2] at po
    exact po.elim
theorem oneFew' {cpos : Pos} {y : Expr} {env : Env} (hn : nst y = true) : ((backTo cpos (starEach [y] env)).all (fun x => !x.1) && (backToKw cpos (keywordEach [] env)).all (fun x => x.1.isSome)
      && decide ([y].length + ([] : List Keyword).length + (if ([] : List Keyword).isEmpty then 0 else 1) < 30)) = true := by
  rw [nst_star hn]
  rfl
theorem sDget1 (O : Ok c Γ hx X W) (hv : okV Γ i x = true) (hl : mtPos ap pos = true) (hn : nst e = true) (hk : PE X e (tM c hx X.K W k)) (hs : sf k = true) : PE X (.Call (.Attribute (.Name x px) "get" ap) [e] [] pos) (tM c hx X.K W (.dget1 i k)) := by
  obtain ⟨h1, h2, h3, h4⟩ := okV_iff O hv
  refine peImp (peDget1 O.un1 (pe_var h1 h2 h3 h4) hk ⟨rfl, oneFew' hn, hl, by rw [nst_star hn]; rfl⟩) fun σ H Q ⟨ρ, F, rep, po⟩ => ?_
  obtain ⟨kvs, ed, po⟩ := getD_po (show Po W X.K σ F H ((getD' ρ i).bind fun kvs => (evE c k ρ).bind fun x => (keyD x).bind fun q => R.ok ((dlook kvs q).getD .none)) _ from po)
  obtain ⟨a, es, e1, e2, e3, e4⟩ := rep.at_ i _ ed
  refine ⟨.ref a, e1, a, es, rfl, dcTo O e3, e4.1, kv_keyd e4.2 rep.s, ρ, F, rep, po.bind.imp fun d F1 H1 _ g1 po u ru => ?_⟩
  obtain ⟨q, ek, po⟩ := keyD_po po
  obtain ⟨b, rfl, hb⟩ := keyD_dv (ru.dv hs) ek
  have kv := (e4.mono g1.f).2
  rcases kv_look kv q with ⟨p, w, d, l1, l2, l3, l4⟩ | ⟨l1, l2⟩
  · rw [l2] at po
    exact ⟨b, q, w, rfl, dcTo O (g1.h _ _ e3), kv_keyd kv g1.s, sqtMono g1.s hb, by rw [l1]; exact l3, po.ok g1.s w (Rm.of l4)⟩
  · rw [l2] at po
    exact ⟨b, q, .non, rfl, dcTo O (g1.h _ _ e3), kv_keyd kv g1.s, sqtMono g1.s hb, by rw [l1]; rfl, po.ok g1.s .non (Rm.of .non)⟩
theorem sDget2 (O : Ok c Γ hx X W) (hv : okV Γ i x = true) (hl : mtPos ap pos = true) (hn : nst e = true) (hn2 : nst f = true) (hk : PE X e (tM c hx X.K W k)) (hf : PE X f (tM c hx X.K W v)) (hs : sf k = true) (hs2 : sf v = true) : PE X (.Call (.Attribute (.Name x px) "get" ap) [e, f] [] pos) (tM c hx X.K W (.dget2 i k v)) := by
  obtain ⟨h1, h2, h3, h4⟩ := okV_iff O hv
  refine peImp (peDget2 O.un1 (pe_var h1 h2 h3 h4) hk hf ⟨rfl, by rw [nst_star hn, nst_star hn2]; rfl, hl, by rw [nst_star hn, nst_star hn2]; rfl⟩) fun σ H Q ⟨ρ, F, rep, po⟩ => ?_
  obtain ⟨kvs, ed, po⟩ := getD_po (show Po W X.K σ F H ((getD' ρ i).bind fun kvs => (evE c k ρ).bind fun x => (evE c v ρ).bind fun y => (keyD x).bind fun q => R.ok ((dlook kvs q).getD y)) _ from po)
  obtain ⟨a, es, e1, e2, e3, e4⟩ := rep.at_ i _ ed
  refine ⟨.ref a, e1, a, es, rfl, dcTo O e3, e4.1, kv_keyd e4.2 rep.s, ρ, F, rep, po.bind.imp fun d F1 H1 _ g1 po u ru => ⟨ρ, F1, rep.gr g1, po.bind.imp fun d2 F2 H2 _ g2 po w rw => ?_⟩⟩
  obtain ⟨q, ek, po⟩ := keyD_po po
  obtain ⟨b, rfl, hb⟩ := keyD_dv ((ru.dv hs).mono g2.f) ek
  have kv := ((e4.mono g1.f).mono g2.f).2
  refine ⟨b, q, rfl, dcTo O (g2.h _ _ (g1.h _ _ e3)), kv_keyd kv g2.s, sqtMono g2.s hb, fun r rr => ?_⟩
  rcases kv_look kv q with ⟨p, w', d, l1, l2, l3, l4⟩ | ⟨l1, l2⟩
  · rw [l2] at po
    exact ⟨w', by rw [l1]; exact l3, po.ok g2.s w' (Rm.of l4)⟩
  · rw [l2] at po
    exact ⟨w, by rw [l1]; exact rr, po.ok g2.s w (Rm.of (rw.dv hs2))⟩
theorem din_core (O : Ok c Γ hx X W) {n : Bool} {hs : sf k = true} {σ : St} {H : Hp} {ρ : En} {F : Hp} {α : Type} {g : Bool → R α} {T : α → Hp → Hp → Prop} (rep : Rep hx X.K F H σ ρ) (po : Po W X.K σ F H ((evE c k ρ).bind fun x => (getD' ρ i).bind fun kvs => (keyD x).bind fun q => g (n != (dlook kvs q).isSome)) T) :
    Po W X.K σ F H (evE c k ρ) fun d F1 H1 => ∀ u, Rm X.K k F1 H1 u d → ∃ a, σ[i]? = some (some (.ref a)) ∧ ∃ b es q, u = .ref b ∧ H1 a = some (dcO X.prog X.w a es) ∧ (a == sysModules) = false ∧ Keyd X.K H1 es ∧ SqT X.K H1 b (q.map kV) ∧ Same F1 H1 ∧ Po W X.K σ F1 H1 (g (n != (atKey es q).isSome)) T := by
  refine po.bind.imp fun d F1 H1 _ g1 po u ru => ?_
  obtain ⟨kvs, ed, po⟩ := getD_po po
  obtain ⟨q, ek, po⟩ := keyD_po po
  obtain ⟨a, es, e1, e2, e3, e4⟩ := rep.at_ i _ ed
  obtain ⟨b, rfl, hb⟩ := keyD_dv (ru.dv hs) ek
  have kv := (e4.mono g1.f).2
  refine ⟨a, e1, b, es, q, rfl, dcTo O (g1.h _ _ e3), e4.1, kv_keyd kv g1.s, sqtMono g1.s hb, g1.s, ?_⟩
  rcases kv_look kv q with ⟨p, w, d, l1, l2, l3, l4⟩ | ⟨l1, l2⟩
  · rw [l1]; rw [l2] at po; exact po
  · rw [l1]; rw [l2] at po; exact po
theorem sDin {n : Bool} {op : CmpOp} (O : Ok c Γ hx X W) (hop : (op = .In ∧ n = false) ∨ (op = .NotIn ∧ n = true)) (hv : okV Γ i x = true) (hk : PE X e (tM c hx X.K W k)) (hs : sf k = true) : PE X (.Compare e [op] [.Name x px] pos) (tM c hx X.K W (.din i k n)) := by
  obtain ⟨h1, h2, h3, h4⟩ := okV_iff O hv
  have hr : OpR X (compareOp op) (rDin X.prog X.w X.K n) := by
    rcases hop with ⟨rfl, rfl⟩ | ⟨rfl, rfl⟩
    · exact opDin O.un1
    · exact opDni O.un1
  have hm : behindInMarks op (.Name x px) = false := by rcases hop with ⟨rfl, _⟩ | ⟨rfl, _⟩ <;> rfl
  refine peImp (pe_cmpR hr hk (pe_var h1 h2 h3 h4) hm) fun σ H Q ⟨ρ, F, rep, po⟩ => ?_
  have po := din_core (hs := hs) (g := fun z => R.ok (PyData.bool z)) O rep po
  refine ⟨ρ, F, rep, po.imp fun d F1 H1 _ g1 q u ru => ?_⟩
  obtain ⟨a, e1, b, es, q, rfl, he, hd, hk', hb, sm, po⟩ := q u ru
  exact ⟨.ref a, e1, a, b, es, q, rfl, rfl, he, hd, hk', hb, po.ok sm _ (Rm.of (.bl _))⟩
theorem tDinT {n : Bool} {op : CmpOp} (O : Ok c Γ hx X W) (hop : (op = .In ∧ n = false) ∨ (op = .NotIn ∧ n = true)) (hv : okV Γ i x = true) (hk : PE X e (tM c hx X.K W k)) (hs : sf k = true) : PT X (.Compare e [op] [.Name x px] pos) (tT c hx X.K W (.din i k n)) := by
  obtain ⟨h1, h2, h3, h4⟩ := okV_iff O hv
  have hr : OpR X (compareOp op) (rDin X.prog X.w X.K n) := by
    rcases hop with ⟨rfl, rfl⟩ | ⟨rfl, rfl⟩
    · exact opDin O.un1
    · exact opDni O.un1
  have hm : behindInMarks op (.Name x px) = false := by rcases hop with ⟨rfl, _⟩ | ⟨rfl, _⟩ <;> rfl
  refine ptImp (pt_cmpR hr hk (pe_var h1 h2 h3 h4) hm) fun σ H Q ⟨ρ, F, rep, po⟩ => ?_
  have e0 : (evE c (.din i k n) ρ).bind tru = ((evE c k ρ).bind fun x => (getD' ρ i).bind fun kvs => (keyD x).bind fun q => R.ok (n != (dlook kvs q).isSome)) := by
    show (((evE c k ρ).bind fun x => (getD' ρ i).bind fun kvs => (keyD x).bind fun q => R.ok (PyData.bool (n != (dlook kvs q).isSome)))).bind tru = _
    cases evE c k ρ with
    | ok d =>
      show (((getD' ρ i).bind fun kvs => (keyD d).bind fun q => R.ok (PyData.bool (n != (dlook kvs q).isSome)))).bind tru = (getD' ρ i).bind fun kvs => (keyD d).bind fun q => R.ok (n != (dlook kvs q).isSome)
      cases getD' ρ i with
      | ok kvs =>
        show ((keyD d).bind fun q => R.ok (PyData.bool (n != (dlook kvs q).isSome))).bind tru = (keyD d).bind fun q => R.ok (n != (dlook kvs q).isSome)
        cases keyD d <;> rfl
      | ex _ => rfl
      | no => rfl
    | ex _ => rfl
    | no => rfl
  have po : Po W X.K σ F H ((evE c (.din i k n) ρ).bind tru) _ := po
  rw [e0] at po
  have po := din_core (hs := hs) (g := fun z => R.ok z) O rep po
  refine ⟨ρ, F, rep, po.imp fun d F1 H1 _ g1 q u ru => ?_⟩
  obtain ⟨a, e1, b, es, q, rfl, he, hd, hk', hb, sm, po⟩ := q u ru
  exact ⟨.ref a, e1, a, b, es, q, rfl, rfl, he, hd, hk', hb, _, rfl, po.ok sm⟩
end
end Wq

end
section
set_option Elab.async false
set_option linter.all false
set_option autoImplicit false
set_option maxRecDepth 100000
set_option maxHeartbeats 1000000
/-! Methods of texts. -/
namespace Wq
open PySem PySem.Spec PyProof.Rows L2
section
variable {c : Cv} {Γ : Cfg} {hx : HX} {X : Cx} {W : WX} {e : Expr} {pos : Pos}
theorem dvs_strs {K : Fg} {F : Hp} : ∀ ys : List Str, Dvs K F (ys.map V.str) (ys.map PyData.str)
  | [] => .nil
  | y :: ys => .cons (.str y) (dvs_strs ys)
theorem strs_dvs {K : Fg} {F : Hp} : ∀ {vs : List V} {ds : List D} {ys : List Str}, Dvs K F vs ds → toStrs ds = some ys → vs = ys.map V.str
  | _, _, ys, .nil, h => by cases h; rfl
  | _, _, ys, .cons (d := d) a r, h => by
    cases d with
    | str s =>
      rw [toStrs] at h
      obtain ⟨zs, h1, rfl⟩ := Option.map_eq_some_iff.mp h
      cases a
      rw [strs_dvs r h1]
      rfl
    | _ => simp [toStrs] at h
theorem mtO_str {k : MK} {d : D} {K : Fg} {F H : Hp} {T : D → Hp → Hp → Prop} {σ : St} {r : R D} (hk : mtT k = true ∨ mtZ k = true) (po : Po W K σ F H (if mtO k d then r else .no) T) : ∃ a, d = .str a ∧ Po W K σ F H r T := by
  split at po
  · rename_i h
    unfold mtO at h
    split at h <;> first | exact ⟨_, rfl, po⟩ | (rcases hk with hk | hk <;> cases hk) | cases h
  · exact po.elim
theorem mtD_split {a : Str} {ds : List D} {K : Fg} {F H : Hp} {T : D → Hp → Hp → Prop} {σ : St} (po : Po W K σ F H (mtD .split (.str a) ds) T) : ∃ b, ds = [.str b] ∧ (b.length == 0) = false ∧ a.length ≤ 1000000 ∧ Po W K σ F H (.ok (.list ((Txt.split a b).map .str))) T := by
  unfold mtD at po
  split at po
  all_goals first | exact po.elim | skip
  all_goals rename_i e1 e2
  all_goals try (cases e1)
  all_goals try (cases e2)
  split at po
  · rename_i hc
    simp only [Bool.and_eq_true, decide_eq_true_eq] at hc
    exact ⟨_, rfl, by simpa using hc.1, hc.2, po⟩
  · exact po.elim
theorem mtD_join {a : Str} {ds : List D} {K : Fg} {F H : Hp} {T : D → Hp → Hp → Prop} {σ : St} (po : Po W K σ F H (mtD .join (.str a) ds) T) : ∃ xs ys, ds = [.list xs] ∧ toStrs xs = some ys ∧ (ys.map (·.length)).sum + ys.length * a.length ≤ 16777216 ∧ Po W K σ F H (.ok (.str (Txt.join a ys))) T := by
  unfold mtD at po
  split at po
  all_goals first | exact po.elim | skip
  all_goals rename_i e1 e2
  all_goals try (cases e1)
  all_goals try (cases e2)
  obtain ⟨ys, e, po⟩ := ofO_bind po
  split at po
  · rename_i hc
    exact ⟨_, ys, rfl, e, of_decide_eq_true hc, po⟩
  · exact po.elim
theorem hd_tl {α : Type} {l : List α} {k : α} (h : l.head? = some k) : l = k :: l.tail := by cases l <;> simp_all
theorem mtD_sindex {a : Str} {ds : List D} {K : Fg} {F H : Hp} {T : D → Hp → Hp → Prop} {σ : St} (po : Po W K σ F H (mtD .sindex (.str a) ds) T) : ∃ b k r, ds = [.str b] ∧ Builtin.Str.occurrences a b 0 a.length 1 = k :: r ∧ Po W K σ F H (.ok (.int (k : Nat))) T := by
  unfold mtD at po
  split at po
  all_goals first | exact po.elim | skip
  all_goals rename_i e1 e2
  all_goals try (cases e1)
  all_goals try (cases e2)
  obtain ⟨k, e, po⟩ := ofO_bind po
  exact ⟨_, k, _, rfl, hd_tl e, po⟩
theorem sMtT {k : MK} {o : Expr} {mo : ME} {es : List Expr} {ms : MEs} {ap : Pos} (O : Ok c Γ hx X W) (hk0 : mtT k = true) (hp : mtPos ap pos = true) (hab : abOk o = true) (ho : PE X o (tM c hx X.K W mo)) (hk : chkEs Γ ms (e :: es) = true) (hl : ms.len < 10) (ha : PA X (e :: es) (tMs c hx X.K W ms)) :
    PE X (.Call (.Attribute o (mkN k) ap) (e :: es) [] pos) (tM c hx X.K W (.mt k mo ms)) := by
  obtain ⟨s1, s2⟩ := chkEs_star (env := X.env) (pos := pos) hk
  have few := chkFewAll (env := X.env) (cpos := pos) hk hl
  cases k with
  | split =>
    refine peImp (pe_bm (cpos := pos) F.plainAttrs_str F.slot_str_split F.type_str_split mt_split ho ha (abBase hab) few hp s1 s2) fun σ H Q ⟨ρ, F, rep, po⟩ => ?_
    have po : Po W X.K σ F H ((evE c mo ρ).bind fun x => if mtO .split x then (evEs c ms ρ).bind fun ds => mtD .split x ds else .no) _ := po
    refine ⟨ρ, F, rep, po.bind.imp fun d F1 H1 _ g1 po v rv => ?_⟩
    obtain ⟨a, rfl, po⟩ := mtO_str (.inl rfl) po
    obtain rfl := rv.rs.str
    refine ⟨rfl, ρ, F1, rep.gr g1, po.bind.imp fun ds F2 H2 _ g2 po ws rws => ?_⟩
    obtain ⟨b, rfl, h1, h2, po⟩ := mtD_split po
    obtain ⟨u, rfl, ru⟩ := paired1 rws.rs
    obtain rfl := ru.str
    refine ⟨a, b, rfl, rfl, h1, by rw [sizeLine_eq]; omega, fun p hp' => ?_⟩
    exact po _ _ (Gr.new g2.s hp') _ (Rm.of (.lst (.inl upd_same) (dvs_strs _)))
  | join =>
    refine peImp (pe_bm (cpos := pos) F.plainAttrs_str F.slot_str_join F.type_str_join mt_join ho ha (abBase hab) few hp s1 s2) fun σ H Q ⟨ρ, F, rep, po⟩ => ?_
    have po : Po W X.K σ F H ((evE c mo ρ).bind fun x => if mtO .join x then (evEs c ms ρ).bind fun ds => mtD .join x ds else .no) _ := po
    refine ⟨ρ, F, rep, po.bind.imp fun d F1 H1 _ g1 po v rv => ?_⟩
    obtain ⟨a, rfl, po⟩ := mtO_str (.inl rfl) po
    obtain rfl := rv.rs.str
    refine ⟨rfl, ρ, F1, rep.gr g1, po.bind.imp fun ds F2 H2 _ g2 po ws rws => ?_⟩
    obtain ⟨xs, ys, rfl, h1, h2, po⟩ := mtD_join po
    obtain ⟨u, rfl, ru⟩ := paired1 rws.rs
    obtain ⟨l, vs, rfl, r1, d1⟩ := ru.list g2.s
    obtain rfl := strs_dvs d1 h1
    exact ⟨a, l, ys, rfl, rfl, .inl (.inl r1), h2, po.ok g2.s _ (Rm.of (.str _))⟩
  | sindex =>
    refine peImp (pe_bm (cpos := pos) F.plainAttrs_str F.slot_str_index F.type_str_index mt_sindex ho ha (abBase hab) few hp s1 s2) fun σ H Q ⟨ρ, F, rep, po⟩ => ?_
    have po : Po W X.K σ F H ((evE c mo ρ).bind fun x => if mtO .sindex x then (evEs c ms ρ).bind fun ds => mtD .sindex x ds else .no) _ := po
    refine ⟨ρ, F, rep, po.bind.imp fun d F1 H1 _ g1 po v rv => ?_⟩
    obtain ⟨a, rfl, po⟩ := mtO_str (.inl rfl) po
    obtain rfl := rv.rs.str
    refine ⟨rfl, ρ, F1, rep.gr g1, po.bind.imp fun ds F2 H2 _ g2 po ws rws => ?_⟩
    obtain ⟨b, k, r, rfl, h1, po⟩ := mtD_sindex po
    obtain ⟨u, rfl, ru⟩ := paired1 rws.rs
    obtain rfl := ru.str
    exact ⟨a, b, k, r, rfl, rfl, h1, po.ok g2.s _ (Rm.of (.int _))⟩
  | _ => cases hk0
theorem sMtZ {k : MK} {o : Expr} {mo : ME} {ap : Pos} (O : Ok c Γ hx X W) (hk0 : mtZ k = true) (hp : mtPos ap pos = true) (hab : abOk o = true) (ho : PE X o (tM c hx X.K W mo)) :
    PE X (.Call (.Attribute o (mkN k) ap) [] [] pos) (tM c hx X.K W (.mt k mo .nil)) := by
  cases k with
  | upper =>
    refine peImp (pe_bm0 (cpos := pos) F.plainAttrs_str F.slot_str_upper F.type_str_upper mt_upper ho (abBase hab) hp) fun σ H Q ⟨ρ, F, rep, po⟩ => ?_
    have po : Po W X.K σ F H ((evE c mo ρ).bind fun x => if mtO .upper x then (evEs c .nil ρ).bind fun ds => mtD .upper x ds else .no) _ := po
    refine ⟨ρ, F, rep, po.bind.imp fun d F1 H1 _ g1 po v rv => ?_⟩
    obtain ⟨a, rfl, po⟩ := mtO_str (.inr rfl) po
    obtain rfl := rv.rs.str
    rw [evEs] at po
    have e : ((R.ok ([] : List D)).bind fun ds => mtD .upper (.str a) ds) = (if decide (a.length ≤ 1000000) then R.ok (PyData.str (Txt.upper a)) else R.no) := rfl
    rw [e] at po
    split at po
    · rename_i hc
      have hc := of_decide_eq_true hc
      exact ⟨rfl, a, rfl, rfl, by omega, po.ok g1.s _ (Rm.of (.str _))⟩
    · exact po.elim
  | _ => cases hk0
theorem mtD_tindex {xs : List D} {ds : List D} {K : Fg} {F H : Hp} {T : D → Hp → Hp → Prop} {σ : St} (po : Po W K σ F H (mtD .tindex (.tuple xs) ds) T) : ∃ b ys k, ds = [.str b] ∧ toStrs xs = some ys ∧ ys.findIdx? (fun y => decide (y = b)) = some k ∧ Po W K σ F H (.ok (.int (k : Nat))) T := by
  unfold mtD at po
  split at po
  all_goals first | exact po.elim | skip
  all_goals rename_i e1 e2
  all_goals try (cases e1)
  all_goals try (cases e2)
  obtain ⟨ys, e, po⟩ := ofO_bind po
  obtain ⟨k, e2, po⟩ := ofO_bind po
  exact ⟨_, ys, k, rfl, e, e2, po⟩
theorem mtO_tup {d : D} {K : Fg} {F H : Hp} {T : D → Hp → Hp → Prop} {σ : St} {r : R D} (po : Po W K σ F H (if mtO .tindex d then r else .no) T) : ∃ a, d = .tuple a ∧ Po W K σ F H r T := by
  split at po
  · rename_i h
    cases d <;> first | exact ⟨_, rfl, po⟩ | cases h
  · exact po.elim
theorem sMtG {k : MK} {o : Expr} {mo : ME} {es : List Expr} {ms : MEs} {ap : Pos} (O : Ok c Γ hx X W) (hk0 : mtG k mo = true) (hp : mtPos ap pos = true) (hab : abOk o = true) (ho : chkE Γ mo o = true) (hk : chkEs Γ ms (e :: es) = true) (hl : ms.len < 10) (ha : PA X (e :: es) (tMs c hx X.K W ms)) :
    PE X (.Call (.Attribute o (mkN k) ap) (e :: es) [] pos) (tM c hx X.K W (.mt k mo ms)) := by
  obtain ⟨s1, s2⟩ := chkEs_star (env := X.env) (pos := pos) hk
  have few := chkFewAll (env := X.env) (cpos := pos) hk hl
  unfold mtG at hk0
  split at hk0
  · rename_i x
    unfold chkE at ho
    split at ho
    · rename_i y p
      obtain ⟨h0, h1⟩ := Bool.and_eq_true_iff.mp ho
      cases of_decide_eq_true h0
      obtain ⟨h1, h2, h3, h4⟩ := okG_iff O h1
      obtain ⟨d, u, v, e1, e2, r, dv, ty⟩ := O.gs x h4
      refine peImp (pe_bm (cpos := pos) F.plainAttrs_tuple F.slot_tuple_index F.type_tuple_index mt_tup_index (pe_glob h1 e2 r h2) ha (abBase hab) few hp s1 s2) fun σ H Q ⟨ρ, F, rep, po⟩ => ?_
      have po : Po W X.K σ F H ((ofO (c.gc.lookup x)).bind fun x => if mtO .tindex x then (evEs c ms ρ).bind fun ds => mtD .tindex x ds else .no) _ := po
      rw [e1] at po
      have po : Po W X.K σ F H (if mtO .tindex d then (evEs c ms ρ).bind fun ds => mtD .tindex d ds else .no) _ := po
      obtain ⟨xs, rfl, po⟩ := mtO_tup po
      obtain ⟨p, o, rfl, t1, t2, t3⟩ := ty _ rfl
      refine ⟨.inr (.inl ⟨rfl, o, t1, t2, t3⟩), ρ, F, rep, po.bind.imp fun ds F2 H2 _ g2 po ws rws => ?_⟩
      obtain ⟨b, ys, j, rfl, h5, h6, po⟩ := mtD_tindex po
      obtain ⟨u, rfl, ru⟩ := paired1 rws.rs
      obtain rfl := ru.str
      obtain ⟨q, vs, e, t4, t5⟩ := (dv H2).tupF
      cases e
      obtain rfl := strs_dvs t5 h5
      obtain ⟨hj, hj1, hj2⟩ := List.findIdx?_eq_some_iff_getElem.mp h6
      refine ⟨p, ys, b, j, rfl, rfl, t4, ?_, fun m hm e => ?_, po.ok g2.s _ (Rm.of (.int _))⟩
      · rw [List.getElem?_eq_getElem hj, of_decide_eq_true hj1]
      · have hm' : m < ys.length := by omega
        rw [List.getElem?_eq_getElem hm'] at e
        exact hj2 m hm (decide_eq_true (Option.some.inj e))
    · cases ho
  · cases hk0
end
end Wq

end
section
set_option Elab.async false
set_option linter.all false
set_option autoImplicit false
set_option maxRecDepth 100000
set_option maxHeartbeats 4000000
/-! What is read as an expression of the small language behaves so. -/
namespace Wq
open PySem PySem.Spec PyProof.Rows L2
section
variable (c : Cv) (hx : HX)
def GE (m : ME) : Prop := ∀ {Γ : Cfg} {X : Cx} {W : WX} {e : Expr}, Ok c Γ hx X W → chkE Γ m e = true → PE X e (tM c hx X.K W m)
def GT (m : ME) : Prop := ∀ {Γ : Cfg} {X : Cx} {W : WX} {e : Expr}, Ok c Γ hx X W → chkE Γ m e = true → PT X e (tT c hx X.K W m)
def GEs (ms : MEs) : Prop := ∀ {Γ : Cfg} {X : Cx} {W : WX} {es : List Expr}, Ok c Γ hx X W → chkEs Γ ms es = true → PA X es (tMs c hx X.K W ms)
def GAn (ms : MEs) : Prop := ∀ {Γ : Cfg} {X : Cx} {W : WX} {es : List Expr} {pos : Pos}, Ok c Γ hx X W → chkEs Γ ms es = true → PE X (.BoolOp .And es pos) (tM c hx X.K W (.and ms))
def GOr (ms : MEs) : Prop := ∀ {Γ : Cfg} {X : Cx} {W : WX} {es : List Expr} {pos : Pos}, Ok c Γ hx X W → chkEs Γ ms es = true → PE X (.BoolOp .Or es pos) (tM c hx X.K W (.or ms))
def GWa (ms : MEs) : Prop := ∀ {Γ : Cfg} {X : Cx} {W : WX} {es : List Expr} {pos : Pos}, Ok c Γ hx X W → chkEs Γ ms es = true → PW X (.BoolOp .And es pos) (tT c hx X.K W (.and ms))
def GWo (ms : MEs) : Prop := ∀ {Γ : Cfg} {X : Cx} {W : WX} {es : List Expr} {pos : Pos}, Ok c Γ hx X W → chkEs Γ ms es = true → PW X (.BoolOp .Or es pos) (tT c hx X.K W (.or ms))
def GO (m : MO) : Prop := ∀ {Γ : Cfg} {X : Cx} {W : WX} {o : Option Expr}, Ok c Γ hx X W → chkO Γ m o = true → PO X o (tO c hx X.K W m)
def GC (m : MO) : Prop := ∀ {Γ : Cfg} {X : Cx} {W : WX} {fs : List Expr}, Ok c Γ hx X W → (match fs with
      | [] => chkC Γ m none
      | [f] => chkC Γ m (some f)
      | _ => false) = true → PTs X fs (tC' c hx X.K W m)
def GI (it : MI) : Prop := ∀ (Γ : Cfg) (X : Cx) (W : WX) (tg e : Expr), Ok c Γ hx X W → chkI Γ it tg e = true → PI X tg e (tI c hx X.K W it) ∧ ∀ x, foldedSetIterable e X.env x = pure x
end
section
variable {c : Cv} {hx : HX}
theorem lcParts {elt : ME} {t : Tg} {cond : MO} {Γ : Cfg} {X : Cx} {W : WX} {x tg : Expr} {fs : List Expr} {scope : Scope} {ws : List Nat} (he : GE c hx elt) (hc : GC c hx cond) (O : Ok c Γ hx X W) (h1 : Γ.hot = false) (h3 : blkC Γ.N Γ.sc scope (ownOf Γ.N ws) = true)
    (h5 : okTg (blkOf Γ scope) t tg = true) (h8 : (match fs with
      | [] => chkC (blkOf Γ scope) cond none
      | [f] => chkC (blkOf Γ scope) cond (some f)
      | _ => false) = true) (h9 : chkE (blkOf Γ scope) elt x = true) :
    (∀ (s : Shared) (H : Hp) (C : Addr) (cl : List (Str × Addr)) (fp : List Addr), PG (X.blk s H scope (compEnvC scope cl C X.env) fp) tg (gM hx X.K t)) ∧
    (∀ (s : Shared) (H : Hp) (C : Addr) (cl : List (Str × Addr)) (fp : List Addr), PTs (X.blk s H scope (compEnvC scope cl C X.env) fp) fs (tC' c hx X.K W0 cond)) ∧
    (∀ (s : Shared) (H : Hp) (C : Addr) (cl : List (Str × Addr)) (fp : List Addr), PE (X.blk s H scope (compEnvC scope cl C X.env) fp) x (tM c hx X.K W0 elt)) := by
  have hu : scope.names.all (fun y => decide (scope.names.lookup y.1 = some y.2)) = true := by
    unfold blkC at h3
    simp only [Bool.and_eq_true] at h3
    exact h3.1.1.2
  exact ⟨fun s H C cl fp => sTg (blkOk O h1 hu) h1 h5, fun s H C cl fp => hc (blkOk O h1 hu) h8, fun s H C cl fp => he (blkOk O h1 hu) h9⟩
mutual
theorem bE : ∀ m : ME, GE c hx m ∧ GT c hx m
  | .var i => by
    have r : GE c hx (.var i) := fun {Γ X W e} O h => by
      cases e with
      | Name x p => exact sVar O h
      | _ => simp [chkE] at h
    exact ⟨r, fun {Γ X W e} O h => by
      have r := r O h
      cases e <;> first | exact tVal r fun _ => rfl | simp [chkE] at h⟩
  | .peek i => by
    have r : GE c hx (.peek i) := fun {Γ X W e} O h => by
      cases e with
      | Name x p => exact sPeek O h
      | _ => simp [chkE] at h
    exact ⟨r, fun {Γ X W e} O h => by
      have r := r O h
      cases e <;> first | exact tVal r fun _ => rfl | simp [chkE] at h⟩
  | .glo x => by
    have r : GE c hx (.glo x) := fun {Γ X W e} O h => by
      cases e with
      | Name y p =>
        simp only [chkE, Bool.and_eq_true, decide_eq_true_eq] at h
        obtain ⟨rfl, h⟩ := h
        exact sGlo O h
      | _ => simp [chkE] at h
    exact ⟨r, fun {Γ X W e} O h => by
      have r := r O h
      cases e <;> first | exact tVal r fun _ => rfl | simp [chkE] at h⟩
  | .non => by
    have r : GE c hx (.non) := fun {Γ X W e} O h => by
      unfold chkE at h
      split at h
      · exact sConst pe_non (fun _ => rfl) fun _ => .non
      · cases h
    exact ⟨r, fun {Γ X W e} O h => ⟨fun _ _ σ H Q I ⟨ρ, F, rep, po⟩ => (show False from po).elim⟩⟩
  | .bl b => by
    have r : GE c hx (.bl b) := fun {Γ X W e} O h => by
      unfold chkE at h
      split at h
      · have := of_decide_eq_true h
        subst this
        exact sConst pe_bl (fun _ => rfl) fun _ => .bl _
      · cases h
    exact ⟨r, fun {Γ X W e} O h => by
      have r := r O h
      cases e <;> first | exact tVal r fun _ => rfl | simp [chkE] at h⟩
  | .int b => by
    have r : GE c hx (.int b) := fun {Γ X W e} O h => by
      unfold chkE at h
      split at h
      · have := of_decide_eq_true h
        subst this
        exact sConst pe_int (fun _ => rfl) fun _ => .int _
      · cases h
    exact ⟨r, fun {Γ X W e} O h => ⟨fun _ _ σ H Q I ⟨ρ, F, rep, po⟩ => (show False from po).elim⟩⟩
  | .str b => by
    have r : GE c hx (.str b) := fun {Γ X W e} O h => by
      unfold chkE at h
      split at h
      · have := of_decide_eq_true h
        subst this
        exact sConst pe_str (fun _ => rfl) fun _ => .str _
      · cases h
    exact ⟨r, fun {Γ X W e} O h => ⟨fun _ _ σ H Q I ⟨ρ, F, rep, po⟩ => (show False from po).elim⟩⟩
  | .neg a => by
    have r : GE c hx (.neg a) := fun {Γ X W e} O h => by
      unfold chkE at h
      split at h
      · exact sNeg ((bE a).1 O h)
      · cases h
    exact ⟨r, fun {Γ X W e} O h => by
      have r := r O h
      unfold chkE at h
      split at h
      · exact tVal r fun _ => rfl
      · cases h⟩
  | .tup es => by
    have r : GE c hx (.tup es) := fun {Γ X W e} O h => by
      unfold chkE at h
      split at h
      · simp only [Bool.and_eq_true, decide_eq_true_eq] at h
        exact sTup ((bEs es).1 O h.2) h.1.1 h.1.2
      · cases h
    exact ⟨r, fun {Γ X W e} O h => by
      have r := r O h
      cases e <;> first | exact tVal r fun _ => rfl | simp [chkE] at h⟩
  | .lst es => by
    have r : GE c hx (.lst es) := fun {Γ X W e} O h => by
      unfold chkE at h
      split at h
      · simp only [Bool.and_eq_true, decide_eq_true_eq] at h
        exact sLst ((bEs es).1 O h.2) h.1.1 h.1.2
      · cases h
    exact ⟨r, fun {Γ X W e} O h => by
      have r := r O h
      cases e <;> first | exact tVal r fun _ => rfl | simp [chkE] at h⟩
  | .bin op a b => by
    have r : GE c hx (.bin op a b) := fun {Γ X W e} O h => by
      unfold chkE at h
      split at h
      · simp only [Bool.and_eq_true] at h
        exact sBin ((bE a).1 O h.1.2) ((bE b).1 O h.2) h.1.1
      · cases h
    exact ⟨r, fun {Γ X W e} O h => by
      have r := r O h
      cases e <;> first | exact tVal r fun _ => rfl | simp [chkE] at h⟩
  | .cmp op a b => by
    have r : GE c hx (.cmp op a b) := fun {Γ X W e} O h => by
      unfold chkE at h
      split at h
      · simp only [Bool.and_eq_true] at h
        exact sCmp O ((bE a).1 O h.1.2) ((bE b).1 O h.2) h.1.1.1 h.1.1.2
      · cases h
    exact ⟨r, fun {Γ X W e} O h => by
      unfold chkE at h
      split at h
      · simp only [Bool.and_eq_true] at h
        exact tCmpT O ((bE a).1 O h.1.2) ((bE b).1 O h.2) h.1.1.1 h.1.1.2
      · cases h⟩
  | .chain o1 o2 a b d => by
    have r : GE c hx (.chain o1 o2 a b d) := fun {Γ X W e} O h => by
      unfold chkE at h
      split at h
      · simp only [Bool.and_eq_true, Bool.not_eq_true'] at h
        obtain ⟨⟨⟨⟨⟨⟨⟨h1, h2⟩, h3⟩, h4⟩, h5⟩, h6⟩, h7⟩, h8⟩ := h
        exact sChain O ((bE a).1 O h6) ((bE b).1 O h7) ((bE d).1 O h8) h1 h2 h5
      · cases h
    exact ⟨r, fun {Γ X W e} O h => by
      unfold chkE at h
      split at h
      · simp only [Bool.and_eq_true, Bool.not_eq_true'] at h
        obtain ⟨⟨⟨⟨⟨⟨⟨h1, h2⟩, h3⟩, h4⟩, h5⟩, h6⟩, h7⟩, h8⟩ := h
        exact tChainT O ((bE a).1 O h6) ((bE b).1 O h7) ((bE d).1 O h8) h1 h2 h5
      · cases h⟩
  | .isN a n => by
    have r : GE c hx (.isN a n) := fun {Γ X W e} O h => by
      unfold chkE at h
      split at h
      · obtain ⟨h1, h2⟩ := Bool.and_eq_true_iff.mp h
        split at h1
        · cases n with
          | true => cases h1
          | false => exact sIsN ((bE a).1 O h2)
        · cases n with
          | false => cases h1
          | true => exact sNotN ((bE a).1 O h2)
        · cases h1
      · cases h
    exact ⟨r, fun {Γ X W e} O h => by
      unfold chkE at h
      split at h
      · obtain ⟨h1, h2⟩ := Bool.and_eq_true_iff.mp h
        split at h1
        · cases n with
          | true => cases h1
          | false => exact tIsN' ((bE a).1 O h2)
        · cases n with
          | false => cases h1
          | true => exact tNotN' ((bE a).1 O h2)
        · cases h1
      · cases h⟩
  | .isB a b n => by
    have r : GE c hx (.isB a b n) := fun {Γ X W e} O h => by
      unfold chkE at h
      split at h
      · simp only [Bool.and_eq_true, decide_eq_true_eq] at h
        obtain ⟨⟨h0, h1⟩, h2⟩ := h
        subst h0
        split at h1
        · cases n with
          | true => cases h1
          | false => exact sIsB (.inl ⟨rfl, rfl⟩) ((bE a).1 O h2)
        · cases n with
          | false => cases h1
          | true => exact sIsB (.inr ⟨rfl, rfl⟩) ((bE a).1 O h2)
        · cases h1
      · cases h
    exact ⟨r, fun {Γ X W e} O h => by
      unfold chkE at h
      split at h
      · simp only [Bool.and_eq_true, decide_eq_true_eq] at h
        obtain ⟨⟨h0, h1⟩, h2⟩ := h
        subst h0
        split at h1
        · cases n with
          | true => cases h1
          | false => exact tIsB' (.inl ⟨rfl, rfl⟩) ((bE a).1 O h2)
        · cases n with
          | false => cases h1
          | true => exact tIsB' (.inr ⟨rfl, rfl⟩) ((bE a).1 O h2)
        · cases h1
      · cases h⟩
  | .and es => by
    have r : GE c hx (.and es) := fun {Γ X W e} O h => by
      unfold chkE at h
      split at h
      · exact (bEs es).2.1 O h
      · cases h
    exact ⟨r, fun {Γ X W e} O h => by
      unfold chkE at h
      split at h
      · exact ((bEs es).2.2.2.1 O h).pt
      · cases h⟩
  | .or es => by
    have r : GE c hx (.or es) := fun {Γ X W e} O h => by
      unfold chkE at h
      split at h
      · exact (bEs es).2.2.1 O h
      · cases h
    exact ⟨r, fun {Γ X W e} O h => by
      unfold chkE at h
      split at h
      · exact ((bEs es).2.2.2.2 O h).pt
      · cases h⟩
  | .not a => by
    have r : GE c hx (.not a) := fun {Γ X W e} O h => by
      unfold chkE at h
      split at h
      · exact sNot ((bE a).1 O h)
      · cases h
    exact ⟨r, fun {Γ X W e} O h => by
      unfold chkE at h
      split at h
      · exact tNotT ((bE a).2 O h)
      · cases h⟩
  | .ife t a b => by
    have r : GE c hx (.ife t a b) := fun {Γ X W e} O h => by
      unfold chkE at h
      split at h
      · simp only [Bool.and_eq_true] at h
        obtain ⟨⟨⟨⟨h1, h2⟩, h3⟩, h4⟩, h5⟩ := h
        exact sIfe ((bE t).2 O h3) ((bE a).1 O h4) ((bE b).1 O h5) h1 h2
      · cases h
    exact ⟨r, fun {Γ X W e} O h => by
      unfold chkE at h
      split at h
      · simp only [Bool.and_eq_true] at h
        obtain ⟨⟨⟨⟨h1, h2⟩, h3⟩, h4⟩, h5⟩ := h
        exact tIfeT ((bE t).2 O h3) ((bE a).2 O h4) ((bE b).2 O h5)
      · cases h⟩
  | .idx a b => by
    have r : GE c hx (.idx a b) := fun {Γ X W e} O h => by
      unfold chkE at h
      split at h
      · simp only [Bool.and_eq_true] at h
        exact sIdx ((bE a).1 O h.1.2) ((bE b).1 O h.2) h.1.1
      · cases h
    exact ⟨r, fun {Γ X W e} O h => by
      have r := r O h
      cases e <;> first | exact tVal r fun _ => rfl | simp [chkE] at h⟩
  | .sl a lo hi => by
    have r : GE c hx (.sl a lo hi) := fun {Γ X W e} O h => by
      unfold chkE at h
      split at h
      · simp only [Bool.and_eq_true] at h
        exact sSl ((bE a).1 O h.1.1) ((bO lo).1 O h.1.2) ((bO hi).1 O h.2)
      · cases h
    exact ⟨r, fun {Γ X W e} O h => by
      have r := r O h
      cases e <;> first | exact tVal r fun _ => rfl | simp [chkE] at h⟩
  | .rev a => by
    have r : GE c hx (.rev a) := fun {Γ X W e} O h => by
      unfold chkE at h
      split at h
      · exact sRev ((bE a).1 O h)
      · cases h
    exact ⟨r, fun {Γ X W e} O h => by
      have r := r O h
      cases e <;> first | exact tVal r fun _ => rfl | simp [chkE] at h⟩
  | .odds a => by
    have r : GE c hx (.odds a) := fun {Γ X W e} O h => by
      unfold chkE at h
      split at h
      · exact sOdd ((bE a).1 O h)
      · cases h
    exact ⟨r, fun {Γ X W e} O h => by
      have r := r O h
      cases e <;> first | exact tVal r fun _ => rfl | simp [chkE] at h⟩
  | .call f es => by
    have r : GE c hx (.call f es) := fun {Γ X W e} O h => by
      unfold chkE at h
      split at h
      · simp only [Bool.and_eq_true, Bool.not_eq_true', decide_eq_true_eq] at h
        obtain ⟨⟨⟨⟨h1, h2⟩, h3⟩, h4⟩, h5⟩ := h
        subst h2
        exact sCall O h1 h3 h4 h5 ((bEs es).1 O h5)
      · cases h
    exact ⟨r, fun {Γ X W e} O h => by
      have r := r O h
      cases e <;> first | exact tVal r fun _ => rfl | simp [chkE] at h⟩
  | .callS fs ix es => by
    have r : GE c hx (.callS fs ix es) := fun {Γ X W e} O h => by
      unfold chkE at h
      split at h
      · simp only [Bool.and_eq_true, Bool.not_eq_true', decide_eq_true_eq] at h
        obtain ⟨⟨⟨⟨⟨⟨h1, h2⟩, h3⟩, h4⟩, h5⟩, h6⟩, h7⟩ := h
        exact sCallS O h1 h2 h3 h4 h5 ((bE ix).1 O h6) h7 ((bEs es).1 O h7)
      · cases h
    exact ⟨r, fun {Γ X W e} O h => by
      have r := r O h
      cases e <;> first | exact tVal r fun _ => rfl | simp [chkE] at h⟩
  | .callX f i => by
    have r : GE c hx (.callX f i) := fun {Γ X W e} O h => by
      unfold chkE at h
      split at h
      · simp only [Bool.and_eq_true, decide_eq_true_eq] at h
        obtain ⟨⟨⟨h1, h2⟩, h3⟩, h4⟩ := h
        subst h2
        exact sCallX O h1 h3 h4
      · cases h
    exact ⟨r, fun {Γ X W e} O h => by
      have r := r O h
      cases e <;> first | exact tVal r fun _ => rfl | simp [chkE] at h⟩
  | .bi b es => by
    have r : GE c hx (.bi b es) := fun {Γ X W e} O h => by
      unfold chkE at h
      split at h
      · simp only [Bool.and_eq_true, decide_eq_true_eq] at h
        obtain ⟨⟨⟨h1, h2⟩, h3⟩, h4⟩ := h
        subst h1
        exact sBi O h2 h3 h4 ((bEs es).1 O h4)
      · cases h
    exact ⟨r, fun {Γ X W e} O h => by
      have r := r O h
      cases e <;> first | exact tVal r fun _ => rfl | simp [chkE] at h⟩
  | .isi a t => by
    have r : GE c hx (.isi a t) := fun {Γ X W e} O h => by
      unfold chkE at h
      split at h
      · simp only [Bool.and_eq_true, decide_eq_true_eq] at h
        obtain ⟨⟨⟨⟨⟨h1, h2⟩, h3⟩, h4⟩, h5⟩, h6⟩ := h
        subst h1 h3
        exact sIsi O h2 h4 h5 ((bE a).1 O h6)
      · cases h
    exact ⟨r, fun {Γ X W e} O h => by
      have r := r O h
      cases e <;> first | exact tVal r fun _ => rfl | simp [chkE] at h⟩
  | .isx i k => by
    have r : GE c hx (.isx i k) := fun {Γ X W e} O h => by
      unfold chkE at h
      split at h
      · simp only [Bool.and_eq_true, decide_eq_true_eq] at h
        obtain ⟨⟨⟨⟨⟨⟨h1, h2⟩, h3⟩, h4⟩, h5⟩, h6⟩, h7⟩ := h
        subst h2 h5
        exact sIsx O h1 h3 h4 h6 (by simpa using h7)
      · cases h
    exact ⟨r, fun {Γ X W e} O h => by
      have r := r O h
      cases e <;> first | exact tVal r fun _ => rfl | simp [chkE] at h⟩
  | .lenset a => by
    have r : GE c hx (.lenset a) := fun {Γ X W e} O h => by
      unfold chkE at h
      split at h
      · simp only [Bool.and_eq_true, Bool.not_eq_true', decide_eq_true_eq] at h
        obtain ⟨⟨⟨⟨⟨⟨h1, h2⟩, h3⟩, h4⟩, h5⟩, h6⟩, h7⟩ := h
        subst h2 h4
        exact sLenset O h1 h3 h5 h6 ((bE a).1 O h7)
      · cases h
    exact ⟨r, fun {Γ X W e} O h => by
      have r := r O h
      cases e <;> first | exact tVal r fun _ => rfl | simp [chkE] at h⟩
  | .sortset a => by
    have r : GE c hx (.sortset a) := fun {Γ X W e} O h => by
      unfold chkE at h
      split at h
      · simp only [Bool.and_eq_true, Bool.not_eq_true', decide_eq_true_eq] at h
        obtain ⟨⟨⟨⟨⟨⟨h1, h2⟩, h3⟩, h4⟩, h5⟩, h6⟩, h7⟩ := h
        subst h2 h4
        exact sSortset O h1 h3 h5 h6 ((bE a).1 O h7)
      · cases h
    exact ⟨r, fun {Γ X W e} O h => by
      have r := r O h
      cases e <;> first | exact tVal r fun _ => rfl | simp [chkE] at h⟩
  | .lrange a => by
    have r : GE c hx (.lrange a) := fun {Γ X W e} O h => by
      unfold chkE at h
      split at h
      · simp only [Bool.and_eq_true, Bool.not_eq_true', decide_eq_true_eq] at h
        obtain ⟨⟨⟨⟨⟨⟨h1, h2⟩, h3⟩, h4⟩, h5⟩, h6⟩, h7⟩ := h
        subst h2 h4
        exact sLrange O h1 h3 h5 h6 ((bE a).1 O h7)
      · cases h
    exact ⟨r, fun {Γ X W e} O h => by
      have r := r O h
      cases e <;> first | exact tVal r fun _ => rfl | simp [chkE] at h⟩
  | .lrange2 a b => by
    have r : GE c hx (.lrange2 a b) := fun {Γ X W e} O h => by
      unfold chkE at h
      split at h
      · simp only [Bool.and_eq_true, Bool.not_eq_true', decide_eq_true_eq] at h
        obtain ⟨⟨⟨⟨⟨⟨⟨⟨h1, h2⟩, h3⟩, h4⟩, h5⟩, h6⟩, h7⟩, h8⟩, h9⟩ := h
        subst h2 h4
        exact sLrange2 O h1 h3 h5 h6 h7 ((bE a).1 O h8) ((bE b).1 O h9)
      · cases h
    exact ⟨r, fun {Γ X W e} O h => by
      have r := r O h
      cases e <;> first | exact tVal r fun _ => rfl | simp [chkE] at h⟩
  | .trange a => by
    have r : GE c hx (.trange a) := fun {Γ X W e} O h => by
      unfold chkE at h
      split at h
      · simp only [Bool.and_eq_true, Bool.not_eq_true', decide_eq_true_eq] at h
        obtain ⟨⟨⟨⟨⟨⟨h1, h2⟩, h3⟩, h4⟩, h5⟩, h6⟩, h7⟩ := h
        subst h2 h4
        exact sTrange O h1 h3 h5 h6 ((bE a).1 O h7)
      · cases h
    exact ⟨r, fun {Γ X W e} O h => by
      have r := r O h
      cases e <;> first | exact tVal r fun _ => rfl | simp [chkE] at h⟩
  | .lzip a b => by
    have r : GE c hx (.lzip a b) := fun {Γ X W e} O h => by simp [chkE] at h
    exact ⟨r, fun {Γ X W e} O h => by simp [chkE] at h⟩
  | .mt k o es => by
    have r : GE c hx (.mt k o es) := fun {Γ X W e} O h => by
      unfold chkE at h
      split at h
      · simp only [Bool.and_eq_true, decide_eq_true_eq] at h
        obtain ⟨⟨⟨⟨⟨⟨h1, h2⟩, h3⟩, h4⟩, h5⟩, h6⟩, h7⟩ := h
        subst h1
        rcases Bool.or_eq_true_iff.mp h2 with h2 | h2
        rcases Bool.or_eq_true_iff.mp h2 with h2 | h2
        · exact sMt O h2 h3 h4 ((bE o).1 O h6) h7 h5 ((bEs es).1 O h7)
        · exact sMtT O h2 h3 h4 ((bE o).1 O h6) h7 h5 ((bEs es).1 O h7)
        · exact sMtG O h2 h3 h4 h6 h7 h5 ((bEs es).1 O h7)
      · simp only [Bool.and_eq_true, decide_eq_true_eq] at h
        obtain ⟨⟨⟨⟨⟨h1, h2⟩, h3⟩, h4⟩, h5⟩, h6⟩ := h
        subst h1
        split at h5
        · exact sMtZ O h2 h3 h4 ((bE o).1 O h6)
        · cases h5
      · cases h
    exact ⟨r, fun {Γ X W e} O h => by
      have r := r O h
      cases e <;> first | exact tVal r fun _ => rfl | simp [chkE] at h⟩
  | .dget1 i k => by
    have r : GE c hx (.dget1 i k) := fun {Γ X W e} O h => by
      unfold chkE at h
      split at h
      · simp only [Bool.and_eq_true, decide_eq_true_eq] at h
        obtain ⟨⟨⟨⟨⟨h1, h2⟩, h3⟩, h4⟩, h5⟩, h6⟩ := h
        subst h1
        exact sDget1 O h3 h2 h4 ((bE k).1 O h6) h5
      · cases h
    exact ⟨r, fun {Γ X W e} O h => by
      have r := r O h
      cases e <;> first | exact tVal r fun _ => rfl | simp [chkE] at h⟩
  | .dget2 i k v => by
    have r : GE c hx (.dget2 i k v) := fun {Γ X W e} O h => by
      unfold chkE at h
      split at h
      · simp only [Bool.and_eq_true, decide_eq_true_eq] at h
        obtain ⟨⟨⟨⟨⟨⟨⟨⟨h1, h2⟩, h3⟩, h4⟩, h5⟩, h6⟩, h7⟩, h8⟩, h9⟩ := h
        subst h1
        exact sDget2 O h3 h2 h4 h5 ((bE k).1 O h8) ((bE v).1 O h9) h6 h7
      · cases h
    exact ⟨r, fun {Γ X W e} O h => by
      have r := r O h
      cases e <;> first | exact tVal r fun _ => rfl | simp [chkE] at h⟩
  | .ditem i k => by
    have r : GE c hx (.ditem i k) := fun {Γ X W e} O h => by
      unfold chkE at h
      split at h
      · simp only [Bool.and_eq_true] at h
        obtain ⟨⟨⟨h1, h2⟩, h3⟩, h4⟩ := h
        exact sDitem O h2 ((bE k).1 O h4) h3 h1
      · cases h
    exact ⟨r, fun {Γ X W e} O h => by
      have r := r O h
      cases e <;> first | exact tVal r fun _ => rfl | simp [chkE] at h⟩
  | .din i k n => by
    have r : GE c hx (.din i k n) := fun {Γ X W e} O h => by
      unfold chkE at h
      split at h
      · simp only [Bool.and_eq_true] at h
        obtain ⟨⟨⟨h1, h2⟩, h3⟩, h4⟩ := h
        split at h1
        · cases n with
          | true => cases h1
          | false => exact sDin O (.inl ⟨rfl, rfl⟩) h2 ((bE k).1 O h4) h3
        · cases n with
          | false => cases h1
          | true => exact sDin O (.inr ⟨rfl, rfl⟩) h2 ((bE k).1 O h4) h3
        · cases h1
      · cases h
    exact ⟨r, fun {Γ X W e} O h => by
      unfold chkE at h
      split at h
      · simp only [Bool.and_eq_true] at h
        obtain ⟨⟨⟨h1, h2⟩, h3⟩, h4⟩ := h
        split at h1
        · cases n with
          | true => cases h1
          | false => exact tDinT O (.inl ⟨rfl, rfl⟩) h2 ((bE k).1 O h4) h3
        · cases n with
          | false => cases h1
          | true => exact tDinT O (.inr ⟨rfl, rfl⟩) h2 ((bE k).1 O h4) h3
        · cases h1
      · cases h⟩
  | .lc elt t it cond ws => by
    have r : GE c hx (.lc elt t it cond ws) := fun {Γ X W e} O h => by
      unfold chkE at h
      split at h
      · rename_i x tg i fs scope pos
        simp only [Bool.and_eq_true, Bool.not_eq_true', decide_eq_true_eq] at h
        obtain ⟨⟨⟨⟨⟨⟨⟨⟨h1, h2⟩, h3⟩, h4⟩, h5⟩, h6⟩, h7⟩, h8⟩, h9⟩ := h
        obtain ⟨p1, p2, p3⟩ := lcParts (bE elt).1 (bO cond).2 O h1 h3 h5 h8 h9
        have r := pe_lc (pos := pos) (O.calm h1) O.nd (bI it _ _ _ _ _ O h7).1 (blkOk_by (by rw [O.nN, O.sc]; exact h3)) p1 p2 p3 (bI it _ _ _ _ _ O h7).2
        rw [h4] at r
        exact peImp r fun σ H Q q => lcBody h2 h6 q
      · cases h
    exact ⟨r, fun {Γ X W e} O h => by
      have r := r O h
      cases e <;> first | exact tVal r fun _ => rfl | simp [chkE] at h⟩
theorem bEs : ∀ ms : MEs, GEs c hx ms ∧ GAn c hx ms ∧ GOr c hx ms ∧ GWa c hx ms ∧ GWo c hx ms
  | .nil => by
    refine ⟨fun {Γ X W es} O h => ?_, fun {Γ X W es pos} O h => ⟨fun _ _ σ H Q I ⟨ρ, F, rep, po⟩ => (show False from po).elim⟩, fun {Γ X W es pos} O h => ⟨fun _ _ σ H Q I ⟨ρ, F, rep, po⟩ => (show False from po).elim⟩,
      fun {Γ X W es pos} O h => ⟨fun _ _ _ σ H Q I ⟨ρ, F, rep, po⟩ => (show False from po).elim⟩, fun {Γ X W es pos} O h => ⟨fun _ _ _ σ H Q I ⟨ρ, F, rep, po⟩ => (show False from po).elim⟩⟩
    cases es with
    | nil => exact sNil
    | cons _ _ => simp [chkEs] at h
  | .cons m ms => by
    have hm := bE m
    have hs := bEs ms
    refine ⟨fun {Γ X W es} O h => ?_, fun {Γ X W es pos} O h => ?_, fun {Γ X W es pos} O h => ?_, fun {Γ X W es pos} O h => ?_, fun {Γ X W es pos} O h => ?_⟩
    all_goals
      cases es with
      | nil => simp [chkEs] at h
      | cons e es => ?_
    · simp only [chkEs, Bool.and_eq_true] at h
      exact sCons (hm.1 O h.1.2) (hs.1 O h.2) h.1.1
    all_goals
      obtain ⟨h1, h2⟩ := Bool.and_eq_true_iff.mp (show (nst e && chkE Γ m e && chkEs Γ ms es) = true by simpa [chkEs] using h)
      have h1 := (Bool.and_eq_true_iff.mp h1).2
    · cases ms with
      | nil => cases es with
        | nil => exact sAnd1 (hm.1 O h1)
        | cons _ _ => simp [chkEs] at h2
      | cons m2 ms => cases es with
        | nil => simp [chkEs] at h2
        | cons e2 es => exact sAnd (hm.1 O h1) (hs.2.1 O h2)
    · cases ms with
      | nil => cases es with
        | nil => exact sOr1 (hm.1 O h1)
        | cons _ _ => simp [chkEs] at h2
      | cons m2 ms => cases es with
        | nil => simp [chkEs] at h2
        | cons e2 es => exact sOr (hm.1 O h1) (hs.2.2.1 O h2)
    · cases ms with
      | nil => cases es with
        | nil => exact wAnd1 (hm.2 O h1)
        | cons _ _ => simp [chkEs] at h2
      | cons m2 ms => cases es with
        | nil => simp [chkEs] at h2
        | cons e2 es => exact wAnd (hm.2 O h1) (hs.2.2.2.1 O h2)
    · cases ms with
      | nil => cases es with
        | nil => exact wOr1 (hm.2 O h1)
        | cons _ _ => simp [chkEs] at h2
      | cons m2 ms => cases es with
        | nil => simp [chkEs] at h2
        | cons e2 es => exact wOr (hm.2 O h1) (hs.2.2.2.2 O h2)
theorem bO : ∀ m : MO, GO c hx m ∧ GC c hx m
  | .none => by
    refine ⟨fun {Γ X W o} O h => ?_, fun {Γ X W fs} O h => ?_⟩
    · cases o with
      | none => exact sNoO
      | some _ => simp [chkO] at h
    · match fs, h with
      | [], h => exact sNoC
      | [f], h => simp [chkC] at h
      | _ :: _ :: _, h => simp at h
  | .some m => by
    have hm := bE m
    refine ⟨fun {Γ X W o} O h => ?_, fun {Γ X W fs} O h => ?_⟩
    · cases o with
      | none => simp [chkO] at h
      | some e =>
        simp only [chkO] at h
        exact sSomeO (hm.1 O h)
    · match fs, h with
      | [], h => simp [chkC] at h
      | [f], h =>
        simp only [chkC] at h
        exact sSomeC (hm.2 O h)
      | _ :: _ :: _, h => simp at h
theorem bI : ∀ it : MI, GI c hx it
  | .seq a => by
    intro Γ X W tg e O h
    simp only [chkI, Bool.and_eq_true] at h
    exact ⟨piSeq ((bE a).1 O h.2), iterOk_fold h.1⟩
  | .rng a => by
    intro Γ X W tg e O h
    unfold chkI at h
    split at h
    · simp only [Bool.and_eq_true, decide_eq_true_eq] at h
      obtain ⟨⟨⟨h1, h2⟩, h3⟩, h4⟩ := h
      subst h1
      exact ⟨piRng O h2 h3 ((bE a).1 O h4), fun _ => rfl⟩
    · cases h
  | .rng2 a b => by
    intro Γ X W tg e O h
    unfold chkI at h
    split at h
    · simp only [Bool.and_eq_true, decide_eq_true_eq] at h
      obtain ⟨⟨⟨⟨⟨h1, h2⟩, h3⟩, h4⟩, h5⟩, h6⟩ := h
      subst h1
      exact ⟨piRng2 O h2 h3 h4 ((bE a).1 O h5) ((bE b).1 O h6), fun _ => rfl⟩
    · cases h
  | .enum a => by
    intro Γ X W tg e O h
    unfold chkI at h
    split at h
    · simp only [Bool.and_eq_true, decide_eq_true_eq] at h
      obtain ⟨⟨⟨⟨⟨h0, h1⟩, h2⟩, h3⟩, h4⟩, h5⟩ := h
      subst h1
      cases tg with
      | Tuple elts k pt => exact ⟨piEnum O h2 h3 h4 ((bE a).1 O h5), fun _ => rfl⟩
      | _ => cases h0
    · cases h
  | .zip a b => by
    intro Γ X W tg e O h
    unfold chkI at h
    split at h
    · simp only [Bool.and_eq_true, decide_eq_true_eq] at h
      obtain ⟨⟨⟨⟨⟨⟨⟨⟨h0, h1⟩, h2⟩, h3⟩, h4⟩, h5⟩, h6⟩, h7⟩, h8⟩ := h
      subst h1
      cases tg with
      | Tuple elts k pt => exact ⟨piZip O h2 h3 h4 h5 h6 ((bE a).1 O h7) ((bE b).1 O h8), fun _ => rfl⟩
      | _ => cases h0
    · cases h
end
end
end Wq

end
section
set_option Elab.async false
set_option linter.all false
set_option autoImplicit false
set_option maxRecDepth 100000
set_option maxHeartbeats 4000000
/-! Statements. -/
namespace Wq
open PySem PySem.Spec PyProof.Rows L2
/-- the state within a def: how it lies to what was there at its start -/
structure Rb (hx : HX) (K : Fg) (Fo Ho F H : Hp) (σ : St) (ρ : En) : Prop where
  rep : Rep hx K F H σ ρ
  gr : Gr Fo Ho F H
  ow : ∀ (j : Nat) (a : Addr), ownd ρ[j]? = true → σ[j]? = some (some (.ref a)) → Ho a = none
/-- how a statement is to end -/
def PoS (hx : HX) (W : WX) (K : Fg) (D : Ends) (Fo Ho F : Hp) : Fl → Prop
  | .nx ρ => ∀ σ' F' H', Rb hx K Fo Ho F' H' σ' ρ → Same F F' → D.nx σ' H'
  | .rt d => ∀ v F' H', Gr Fo Ho F' H' → Dv K F' v d → D.rt v H'
  | .ex k ρ => ∀ σ' F' H', Rb hx K Fo Ho F' H' σ' ρ → Same F F' → W (.ref (He.ga K k)) none σ' H'
  | .no => False
def tS (c : Cv) (hx : HX) (K : Fg) (W : WX) (m : MS) : TS := fun D σ H => ∃ Fo Ho F ρ, Rb hx K Fo Ho F H σ ρ ∧ PoS hx W K D Fo Ho F (exS c m ρ)
def tSs (c : Cv) (hx : HX) (K : Fg) (W : WX) (m : MSs) : TS := fun D σ H => ∃ Fo Ho F ρ, Rb hx K Fo Ho F H σ ρ ∧ PoS hx W K D Fo Ho F (exSs c m ρ)
section
variable {hx : HX} {W : WX} {K : Fg} {D D' : Ends} {Fo Ho F F' H H' : Hp} {σ : St} {ρ : En}
theorem PoS.mono {r : Fl} (h : PoS hx W K D Fo Ho F r) (s : Same F F') : PoS hx W K D Fo Ho F' r := by
  cases r with
  | nx ρ => exact fun σ' F2 H2 rb s2 => h σ' F2 H2 rb (s.trans s2)
  | rt d => exact h
  | ex k ρ => exact fun σ' F2 H2 rb s2 => h σ' F2 H2 rb (s.trans s2)
  | no => exact h
theorem Rb.step (rb : Rb hx K Fo Ho F H σ ρ) (g : Gr F H F' H') : Rb hx K Fo Ho F' H' σ ρ := ⟨rb.rep.gr g, rb.gr.trans g, rb.ow⟩
/-- an expression ahead of the rest -/
theorem PoS.fl {α : Type} {x : R α} {f : α → Fl} (rb : Rb hx K Fo Ho F H σ ρ) (h : PoS hx W K D Fo Ho F (x.fl ρ f)) :
    Po W K σ F H x fun a F1 H1 => Rb hx K Fo Ho F1 H1 σ ρ ∧ PoS hx W K D Fo Ho F1 (f a) := by
  cases x with
  | ok a => exact fun F1 H1 g => ⟨rb.step g, PoS.mono h g.f⟩
  | ex k => exact fun F1 H1 g => h σ F1 H1 (rb.step g) g.f
  | no => exact h
theorem Rb.setVal (rb : Rb hx K Fo Ho F H σ ρ) {i : Nat} {v : V} {d : Wq.D} (hv : Dv K F v d) : Rb hx K Fo Ho F H (σ.set i (some v)) (ρ.set i (.val d)) := by
  refine ⟨rb.rep.setVal hv, rb.gr, fun j a e1 e2 => ?_⟩
  rw [getElem?_set] at e1 e2
  by_cases c : j = i ∧ i < ρ.length
  · rw [if_pos c] at e1
    cases e1
  · have ln := rb.rep.len
    rw [if_neg c] at e1
    rw [if_neg (fun z => c ⟨z.1, by omega⟩)] at e2
    exact rb.ow j a e1 e2
/-- a new list of one's own -/
theorem Rb.setOwn (rb : Rb hx K Fo Ho F H σ ρ) {i : Nat} {p : Addr} {vs : List V} {ds : List Wq.D} (hp : H p = none) (hv : Dvs K F vs ds) :
    Rb hx K Fo Ho F (upd H p (.lst vs)) (σ.set i (some (.ref p))) (ρ.set i (.own ds)) := by
  have g := Gr.loose (o := .lst vs) rb.rep.s hp
  have rep1 := rb.rep.gr g
  refine ⟨rep1.set ⟨p, vs, rfl, rb.rep.s.free hp, upd_same, hv⟩ fun _ j hj hj2 e => ?_, rb.gr.trans g, fun j a e1 e2 => ?_⟩
  · obtain ⟨a, o, e1, e2, e3⟩ := rb.rep.ownAt hj2
    rw [e] at e1
    cases e1
    rw [hp] at e3
    cases e3
  · have ln := rb.rep.len
    rw [getElem?_set] at e1 e2
    by_cases c : j = i ∧ i < ρ.length
    · rw [if_pos ⟨c.1, by omega⟩] at e2
      cases e2
      exact rb.gr.h.free hp
    · rw [if_neg c] at e1
      rw [if_neg (fun z => c ⟨z.1, by omega⟩)] at e2
      exact rb.ow j a e1 e2
/-- a list of one's own is settled -/
theorem Rb.frz (rb : Rb hx K Fo Ho F H σ ρ) {i : Nat} {ds : List Wq.D} (e : ρ[i]? = some (.own ds)) : ∃ F', Same F F' ∧ Rb hx K Fo Ho F' H σ (ρ.set i (.val (.list ds))) := by
  obtain ⟨a, vs, h1, h2, h3, h4⟩ := rb.rep.at_ i _ e
  have ho : Ho a = none := rb.ow i a (by rw [e]; rfl) h1
  have sF : Same F (upd F a (.lst vs)) := same_upd h2
  have il : i < ρ.length := (List.getElem?_eq_some_iff.mp e).1
  refine ⟨upd F a (.lst vs), sF, ⟨?_, ?_, ?_⟩⟩
  · refine ⟨fun b o eb => ?_, by simp [rb.rep.len], fun j x ej => ?_, fun j k e1 e2 e3 => ?_⟩
    · by_cases z : b = a
      · subst z
        rw [upd_same] at eb
        rw [← eb]
        exact h3
      · rw [upd_ne z] at eb
        exact rb.rep.s b o eb
    · rw [getElem?_set] at ej
      by_cases c : j = i ∧ i < ρ.length
      · rw [if_pos c] at ej
        cases ej
        obtain ⟨rfl, _⟩ := c
        exact ⟨_, h1, .lst (.inl upd_same) (h4.mono sF)⟩
      · rw [if_neg c] at ej
        have q := rb.rep.at_ j x ej
        have nj : j ≠ i := fun z => c ⟨z, il⟩
        cases x with
        | emp => trivial
        | val d =>
          obtain ⟨v, q1, q2⟩ := q
          exact ⟨v, q1, q2.mono sF⟩
        | exc k => exact q
        | own xs =>
          obtain ⟨b, ws, q1, q2, q3, q4⟩ := q
          refine ⟨b, ws, q1, ?_, q3, q4.mono sF⟩
          rw [upd_ne (fun z => nj (rb.rep.dis j i (by rw [ej]; rfl) (by rw [e]; rfl) (by rw [q1, h1, z])))]
          exact q2
        | dic kvs =>
          obtain ⟨b, ws, q1, q2, q3, q4⟩ := q
          refine ⟨b, ws, q1, ?_, q3, q4.mono sF⟩
          rw [upd_ne (fun z => nj (rb.rep.dis j i (by rw [ej]; rfl) (by rw [e]; rfl) (by rw [q1, h1, z])))]
          exact q2
    · rw [getElem?_set] at e1 e2
      by_cases c1 : j = i ∧ i < ρ.length
      · rw [if_pos c1] at e1; cases e1
      · by_cases c2 : k = i ∧ i < ρ.length
        · rw [if_pos c2] at e2; cases e2
        · rw [if_neg c1] at e1
          rw [if_neg c2] at e2
          exact rb.rep.dis j k e1 e2 e3
  · refine ⟨rb.gr.f.trans sF, rb.gr.h, fun b o eb => ?_, fun b o eb => ?_⟩
    · by_cases z : b = a
      · subst z
        rw [upd_same] at eb
        rw [← eb]
        exact h3
      · rw [upd_ne z] at eb
        exact rb.rep.s b o eb
    · by_cases z : b = a
      · subst z
        exact .inr ho
      · rw [upd_ne z] at eb
        exact rb.gr.n b o eb
  · intro j b e1 e2
    rw [getElem?_set] at e1
    by_cases c1 : j = i ∧ i < ρ.length
    · rw [if_pos c1] at e1; cases e1
    · rw [if_neg c1] at e1
      exact rb.ow j b e1 e2
/-- a list of one's own is lengthened -/
theorem Rb.app (rb : Rb hx K Fo Ho F H σ ρ) {i : Nat} {ds es : List Wq.D} {a : Addr} {vs ws : List V} (e : ρ[i]? = some (.own ds)) (h1 : σ[i]? = some (some (.ref a))) (h3 : H a = some (.lst vs)) (hv : Dvs K F vs ds) (hw : Dvs K F ws es) :
    Rb hx K Fo Ho F (upd H a (.lst (vs ++ ws))) σ (ρ.set i (.own (ds ++ es))) := by
  have ho : Ho a = none := rb.ow i a (by rw [e]; rfl) h1
  have hF : F a = none := by
    obtain ⟨a', _, q1, q2, _⟩ := rb.rep.at_ i _ e
    rw [h1] at q1
    cases q1
    exact q2
  have il : i < ρ.length := (List.getElem?_eq_some_iff.mp e).1
  have sm : Same F (upd H a (.lst (vs ++ ws))) := fun b o eb => by
    rw [upd_ne (fun z => by rw [z, hF] at eb; cases eb)]
    exact rb.rep.s b o eb
  refine ⟨⟨sm, by simp [rb.rep.len], fun j x ej => ?_, fun j k e1 e2 e3 => ?_⟩, ⟨rb.gr.f, fun b o eb => ?_, sm, rb.gr.n⟩, fun j b e1 e2 => ?_⟩
  · rw [getElem?_set] at ej
    by_cases c : j = i ∧ i < ρ.length
    · rw [if_pos c] at ej
      cases ej
      obtain ⟨rfl, _⟩ := c
      exact ⟨a, _, h1, hF, upd_same, hv.append hw⟩
    · rw [if_neg c] at ej
      have q := rb.rep.at_ j x ej
      have nj : j ≠ i := fun z => c ⟨z, il⟩
      cases x with
      | emp => trivial
      | val d => exact q
      | exc k => exact q
      | own xs =>
        obtain ⟨b, us, q1, q2, q3, q4⟩ := q
        refine ⟨b, us, q1, q2, ?_, q4⟩
        rw [upd_ne (fun z => nj (rb.rep.dis j i (by rw [ej]; rfl) (by rw [e]; rfl) (by rw [q1, h1, z])))]
        exact q3
      | dic kvs =>
        obtain ⟨b, us, q1, q2, q3, q4⟩ := q
        refine ⟨b, us, q1, q2, ?_, q4⟩
        rw [upd_ne (fun z => nj (rb.rep.dis j i (by rw [ej]; rfl) (by rw [e]; rfl) (by rw [q1, h1, z])))]
        exact q3
  · have key : ∀ j, ownd (ρ.set i (.own (ds ++ es)))[j]? = true → ownd ρ[j]? = true := fun j z => by
      rw [getElem?_set] at z
      by_cases c : j = i ∧ i < ρ.length
      · rw [c.1, e]; rfl
      · rw [if_neg c] at z
        exact z
    exact rb.rep.dis j k (key j e1) (key k e2) e3
  · rw [upd_ne (fun z => by rw [z, ho] at eb; cases eb)]
    exact rb.gr.h b o eb
  · rw [getElem?_set] at e1
    by_cases c : j = i ∧ i < ρ.length
    · rw [c.1] at e2
      rw [h1] at e2
      cases e2
      exact ho
    · rw [if_neg c] at e1
      exact rb.ow j b e1 e2
end
theorem psImp {X : Cx} {st : Stmt} {t t' : TS} (h : PS X st t) (i : ∀ D σ H, t' D σ H → t D σ H) : PS X st t' := ⟨fun pins s σ H D I q => h.run pins s σ H D I (i D σ H q)⟩
theorem pssImp {X : Cx} {st : List Stmt} {t t' : TS} (h : PSs X st t) (i : ∀ D σ H, t' D σ H → t D σ H) : PSs X st t' := ⟨fun pins s σ H D I q => h.run pins s σ H D I (i D σ H q)⟩
section
variable {c : Cv} {Γ : Cfg} {hx : HX} {X : Cx} {W : WX} {e tg : Expr} {me : ME} {pos : Pos}
theorem noSwap {t : Option Expr} {l : Nat} {env : Env} (h : isLc e = false) : swapsWith e t l env = pure false := by
  cases e <;> first | rfl | cases h
/-- x = e, (x, y) = e -/
theorem gmOf {K : Fg} {D : Ends} {Fo Ho F1 H1 : Hp} {σ : St} {ρ : En} {t : Tg} {d : Wq.D} {v : V} (rb : Rb hx K Fo Ho F1 H1 σ ρ) (dv : Dv K F1 v d) (po : PoS hx W K D Fo Ho F1 ((bindT t d ρ).fl ρ .nx)) : gM hx K t v σ H1 D.nx := by
  cases q : bindT t d ρ with
  | no => rw [q] at po; exact po.elim
  | ex k => exact absurd q (by
      cases t with
      | nm i => exact fun z => by cases z
      | tp is =>
        have key : ∀ (is : List Nat) (ds : List Wq.D) (ρ : En), setAll is ds ρ ≠ .ex k := fun is => by
          induction is with
          | nil => intro ds ρ z; cases ds <;> cases z
          | cons i is ih => intro ds ρ z; cases ds with
            | nil => cases z
            | cons d ds => exact ih ds _ z
        cases d <;> first | exact key _ _ _ | exact fun z => by cases z)
  | ok ρ' =>
    rw [q] at po
    refine ⟨ρ, F1, d, ρ', rb.rep, dv, q, fun σ' rep' hw => po σ' F1 H1 ⟨rep', rb.gr, ?_⟩ (fun _ _ z => z)⟩
    exact own_bind q rb hw
where
  own_bind {K : Fg} {Fo Ho F1 H1 : Hp} {σ σ' : St} {ρ ρ' : En} {t : Tg} {d : Wq.D} (q : bindT t d ρ = .ok ρ') (rb : Rb hx K Fo Ho F1 H1 σ ρ) (hw : ∀ ws, tgIn t ws = true → L2.wipe σ' ws = L2.wipe σ ws) : ∀ (j : Nat) (a : Addr), ownd ρ'[j]? = true → σ'[j]? = some (some (.ref a)) → Ho a = none := by
    intro j a e1 e2
    have wip : ∀ (ws : List Nat) (τ : St), j ∉ ws → (L2.wipe τ ws)[j]? = τ[j]? := fun ws => by
      induction ws with
      | nil => intro τ _; rfl
      | cons w ws ih =>
        intro τ hn
        show ((L2.wipe τ ws).set w none)[j]? = τ[j]?
        rw [List.getElem?_set_ne (fun z => hn (by simp [z]))]
        exact ih τ fun z => hn (by simp [z])
    have out : ∀ (is : List Nat) (ds : List Wq.D) (ρ ρ' : En), setAll is ds ρ = .ok ρ' → ownd ρ'[j]? = true → ownd ρ[j]? = true ∧ (j ∉ is ∨ ρ.length ≤ j) := fun is => by
      induction is with
      | nil =>
        intro ds ρ ρ' e o
        cases ds with
        | nil => cases e; exact ⟨o, .inl (by simp)⟩
        | cons _ _ => cases e
      | cons i is ih =>
        intro ds ρ ρ' e o
        cases ds with
        | nil => cases e
        | cons d ds =>
          obtain ⟨h1, h2⟩ := ih ds _ _ e o
          rw [getElem?_set] at h1
          rw [List.length_set] at h2
          by_cases cc : j = i ∧ i < ρ.length
          · rw [if_pos cc] at h1; cases h1
          · rw [if_neg cc] at h1
            refine ⟨h1, ?_⟩
            rcases h2 with h2 | h2
            · by_cases ji : j = i
              · exact .inr (by have := fun z => cc ⟨ji, z⟩; omega)
              · exact .inl (by simp [ji, h2])
            · exact .inr h2
    have fin : ∀ (is : List Nat), tgIn t is = true → ownd ρ[j]? = true → (j ∉ is ∨ ρ.length ≤ j) → Ho a = none := fun is ht h1 h2 => by
      rcases h2 with h2 | h2
      · have := wip is σ' h2
        rw [hw is ht, wip is σ h2] at this
        exact rb.ow j a h1 (by rw [this]; exact e2)
      · rw [List.getElem?_eq_none h2] at h1
        cases h1
    cases t with
    | nm i =>
      cases q
      obtain ⟨h1, h2⟩ := out [i] [d] ρ _ rfl e1
      exact fin [i] (by simp [tgIn]) h1 h2
    | tp is =>
      cases d with
      | tuple ds =>
        obtain ⟨h1, h2⟩ := out is ds ρ ρ' q e1
        exact fin is (by simp [tgIn]) h1 h2
      | _ => cases q
theorem swap_lc {elt : Expr} {gs : List Comprehension} {scope : Scope} {p px : Pos} {x : Str} {l : Nat} {env : Env} : (swapsWith (.ListComp elt gs scope p) (some (.Name x px)) l env = pure true ∧ env.scope.names.lookup x = some .local) ∨ swapsWith (.ListComp elt gs scope p) (some (.Name x px)) l env = pure false := by
  have key : ∃ b : Bool, swapsWith (.ListComp elt gs scope p) (some (.Name x px)) l env = pure b ∧ (b = true → env.scope.names.lookup x = some .local) := by
    refine ⟨env.blockKind == .function && env.kindOf x == some .local && px.line == (Expr.ListComp elt gs scope p).pos.line && !(scope.names.any fun (n, k) => n == x && (k == .local || k == .cell)), rfl, fun h => ?_⟩
    simp only [Bool.and_eq_true] at h
    exact eq_of_beq h.1.1.2
  obtain ⟨b, h, h2⟩ := key
  cases b with
  | true => exact .inl ⟨h, h2 rfl⟩
  | false => exact .inr h
/-- x = [.. for ..] -/
theorem stLc {elt : ME} {t : Tg} {it : MI} {cond : MO} {ws : List Nat} {i : Nat} {x : Str} {px : Pos} (O : Ok c Γ hx X W) (hn : okS Γ i x = true) (h : chkE Γ (.lc elt t it cond ws) e = true) : PS X (.Assign [.Name x px] e pos) (tS c hx X.K W (.asg (.nm i) (.lc elt t it cond ws))) := by
  obtain ⟨k1, k2, k3⟩ := okS_iff O hn
  have go : ∀ {te : TE}, (∀ σ H Q, tM c hx X.K W (.lc elt t it cond ws) σ H Q → te σ H Q) → ∀ D σ H, tS c hx X.K W (.asg (.nm i) (.lc elt t it cond ws)) D σ H → tAsg te (gName i) D σ H := fun hi D σ H q => by
    obtain ⟨Fo, Ho, F, ρ, rb, po⟩ := q
    have po : PoS hx W X.K D Fo Ho F ((evE c (.lc elt t it cond ws) ρ).fl ρ fun d => (bindT (.nm i) d ρ).fl ρ .nx) := po
    refine hi _ _ _ ⟨ρ, F, rb.rep, (po.fl rb).imp fun d F1 H1 _ _ ⟨rb1, po1⟩ v rv => ?_⟩
    exact po1 _ F1 H1 (rb1.setVal (rv.dv rfl)) fun _ _ z => z
  have he := (bE (c := c) (hx := hx) (.lc elt t it cond ws)).1 O h
  unfold chkE at h
  split at h
  · rename_i x' tg i' fs scope pos'
    simp only [Bool.and_eq_true, Bool.not_eq_true', decide_eq_true_eq] at h
    obtain ⟨⟨⟨⟨⟨⟨⟨⟨h1, h2⟩, h3⟩, h4⟩, h5⟩, h6⟩, h7⟩, h8⟩, h9⟩ := h
    rcases swap_lc (elt := x') (gs := [⟨tg, i', fs, 0⟩]) (scope := scope) (p := pos') (px := px) (x := x) (l := pos.line) (env := X.env) with ⟨hs, hl⟩ | hs
    · obtain ⟨p1, p2, p3⟩ := lcParts (bE (c := c) (hx := hx) elt).1 (bO cond).2 O h1 h3 h5 h8 h9
      have r := ps_setLc (pos := pos') (spos := pos) (O.calm h1) O.nd k1 hl hs (bI (c := c) (hx := hx) it _ _ _ _ _ O h7).1 (blkOk_by (by rw [O.nN, O.sc]; exact h3)) p1 p2 p3 (bI it _ _ _ _ _ O h7).2
      rw [h4] at r
      exact psImp r (go fun σ H Q q => lcBody h2 h6 q)
    · exact psImp (ps_set (pos := pos) O.nd k1 k2 he hs k3) (go fun σ H Q q => q)
  · cases h
theorem asg_core {m : ME} {t : Tg} {D : Ends} {σ : St} {H : Hp} (hs : sf m = true) (q : tS c hx X.K W (.asg t m) D σ H) : tM c hx X.K W m σ H fun v H1 => gM hx X.K t v σ H1 D.nx := by
  obtain ⟨Fo, Ho, F, ρ, rb, po⟩ := q
  have po : PoS hx W X.K D Fo Ho F ((evE c m ρ).fl ρ fun d => (bindT t d ρ).fl ρ .nx) := po
  exact ⟨ρ, F, rb.rep, (po.fl rb).imp fun d F1 H1 _ _ ⟨rb1, po1⟩ v rv => gmOf rb1 (rv.dv hs) po1⟩
theorem stAsgN {m : ME} {i : Nat} {x : Str} {px : Pos} (O : Ok c Γ hx X W) (hn : okS Γ i x = true) (hs : sf m = true) (hl : isLc e = false) (he : PE X e (tM c hx X.K W m)) : PS X (.Assign [.Name x px] e pos) (tS c hx X.K W (.asg (.nm i) m)) := by
  obtain ⟨k1, k2, k3⟩ := okS_iff O hn
  refine psImp (ps_set (pos := pos) O.nd k1 k2 he (noSwap hl) k3) fun D σ H q => ?_
  obtain ⟨Fo, Ho, F, ρ, rb, po⟩ := q
  have po : PoS hx W X.K D Fo Ho F ((evE c m ρ).fl ρ fun d => (bindT (.nm i) d ρ).fl ρ .nx) := po
  exact ⟨ρ, F, rb.rep, (po.fl rb).imp fun d F1 H1 _ _ ⟨rb1, po1⟩ v rv => po1 _ F1 H1 (rb1.setVal (rv.dv hs)) fun _ _ z => z⟩
theorem noSwapT {ts : List Expr} {k : Nat} {p : Pos} {l : Nat} {env : Env} : swapsWithSole [.Tuple ts k p] e l env = pure false := by
  cases e <;> rfl
theorem noStores {ts : List Expr} {k : Nat} {p : Pos} {env : Env} (h : isTupE e = false) : swappedStores [.Tuple ts k p] e env = pure none := by
  cases e <;> first | rfl | cases h
theorem stAsgT {m : ME} {is : List Nat} (O : Ok c Γ hx X W) (hh : Γ.hot = false) (hn : okTg Γ (.tp is) tg = true) (hs : sf m = true) (hl : isTupE e = false) (he : PE X e (tM c hx X.K W m)) : PS X (.Assign [tg] e pos) (tS c hx X.K W (.asg (.tp is) m)) := by
  have hg := sTg O hh hn
  cases tg with
  | Tuple ts k p => exact psImp (ps_asg (pos := pos) he hg noSwapT (noStores hl) rfl) fun D σ H q => asg_core hs q
  | _ => cases hn
/-- x = [..], a list of one's own -/
theorem stAsgL {ms : MEs} {i : Nat} {x : Str} {px p : Pos} {es : List Expr} (O : Ok c Γ hx X W) (hn : okS Γ i x = true) (hs : sfs ms = true) (hlen : ms.len ≤ 1000) (he : PA X es (tMs c hx X.K W ms)) : PS X (.Assign [.Name x px] (.List es p) pos) (tS c hx X.K W (.asgL i ms)) := by
  obtain ⟨k1, k2, k3⟩ := okS_iff O hn
  refine psImp (ps_set (pos := pos) O.nd k1 k2 (pe_lst he) rfl k3) fun D σ H q => ?_
  obtain ⟨Fo, Ho, F, ρ, rb, po⟩ := q
  have po : PoS hx W X.K D Fo Ho F ((evEs c ms ρ).fl ρ fun ds => .nx (ρ.set i (.own ds))) := po
  refine ⟨ρ, F, rb.rep, (po.fl rb).imp fun ds F1 H1 e1 _ ⟨rb1, po1⟩ vs rvs => ?_⟩
  have r := rvs.dvs hs
  have hz := sizeLine_big
  have l1 := evEs_len e1
  have l2 := r.length
  refine ⟨by omega, fun p hp => ?_⟩
  exact po1 _ F1 _ (rb1.setOwn hp r) fun _ _ z => z
/-- x = a + b, a list of one's own -/
theorem stAsgA {ma mb : ME} {i : Nat} {x : Str} {px p : Pos} {y z : Expr} (O : Ok c Γ hx X W) (hn : okS Γ i x = true) (ha : PE X y (tM c hx X.K W ma)) (hb : PE X z (tM c hx X.K W mb)) : PS X (.Assign [.Name x px] (.BinOp y .Add z p) pos) (tS c hx X.K W (.asgA i ma mb)) := by
  obtain ⟨k1, k2, k3⟩ := okS_iff O hn
  refine psImp (ps_set (pos := pos) O.nd k1 k2 (pe_op catL ha hb) rfl k3) fun D σ H q => ?_
  obtain ⟨Fo, Ho, F, ρ, rb, po⟩ := q
  have po : PoS hx W X.K D Fo Ho F ((evE c ma ρ).fl ρ fun x => (evE c mb ρ).fl ρ fun y => match x, y with
    | .list xs, .list ys => if xs.length + ys.length ≤ LIM then .nx (ρ.set i (.own (xs ++ ys))) else .no
    | _, _ => .no) := po
  refine ⟨ρ, F, rb.rep, (po.fl rb).imp fun d F1 H1 _ g1 ⟨rb1, po1⟩ v rv => ⟨ρ, F1, rb1.rep, (po1.fl rb1).imp fun e F2 H2 _ g2 ⟨rb2, po2⟩ w rw => ?_⟩⟩
  split at po2
  · split at po2
    · rename_i hl
      obtain ⟨l, xs, e1, r1, d1⟩ := (rv.rs.gr g2).list g2.s
      obtain ⟨l2, ys, e2, r2, d2⟩ := rw.rs.list g2.s
      refine ⟨l, l2, xs, ys, e1, e2, r1, r2, by rw [d1.length, d2.length, sizeLine_eq]; exact hl, fun p hp => ?_⟩
      exact po2 _ F2 _ (rb2.setOwn hp (d1.append d2)) fun _ _ z => z
    · exact po2.elim
  · exact po2.elim
/-! ### append, extend -/
theorem mtBase {o : Expr} {n : Str} {env : Env} {x : Str} {p : Pos} (h : o = .Name x p) : attributeBase o n env (eval o env) = eval o env := by subst h; rfl
theorem oneFew {cpos : Pos} {y : Expr} {env : Env} (hn : nst y = true) : ((backTo cpos (starEach [y] env)).all (fun x => !x.1) && (backToKw cpos (keywordEach [] env)).all (fun x => x.1.isSome)
      && decide ([y].length + ([] : List Keyword).length + (if ([] : List Keyword).isEmpty then 0 else 1) < 30)) = true := by
  rw [nst_star hn]
  rfl
theorem mtExt : MtR X "list.extend" (fun x vs H Q => ∃ l b xs zs, x = .ref l ∧ vs = [.ref b] ∧ H l = some (.lst xs) ∧ Rd H b (.lst zs) ∧ xs.length + zs.length ≤ sizeLine ∧ Q .non (upd H l (.lst (xs ++ zs)))) := by
  intro pins s σ H x vs v us Q I rx rv h
  obtain ⟨l, b, xs, zs, rfl, rfl, hH, hB, hz, q⟩ := h
  cases rx
  obtain ⟨u, rfl, ru⟩ := rv.one
  cases ru
  obtain ⟨z, its, n, r, hl, e⟩ := I.lstM hH
  obtain ⟨z2, its2, n2, r2, e2⟩ := lstRd I hB
  have hl2 := r2.length
  have hsz : its.toArray.size + its2.toArray.size ≤ sizeLine := by rw [List.size_toArray, List.size_toArray]; omega
  have hlong : ¬ (!its.toArray.isEmpty && Builtin.List.listTooLong (its.toArray.size + its2.toArray.size)) = true := by
    rw [notLongL hsz, Bool.and_false]
    exact Bool.false_ne_true
  refine call_meets F.slot_list_extend ⟨_, e, rfl⟩ F.entry_list_extend (F.args_list_extend_2 _ _)
    (AutoSeq1.list_extend_list_list_0 l its.toArray n b its2.toArray n2 hlong (by rw [List.size_toArray]; omega) (by omega)) ⟨e, e2, ?_⟩
  refine ⟨.non, _, I.lset (its' := its ++ its2) hH e (by simp) (r.append r2) ?_, rfl, q⟩
  rw [List.length_append]
  omega
theorem appE_own {ρ : En} {i : Nat} {ys : List Wq.D} {K : Fg} {D : Ends} {Fo Ho F : Hp} (po : PoS hx W K D Fo Ho F (appE ρ i ys)) : ∃ xs, ρ[i]? = some (.own xs) ∧ xs.length + ys.length < LIM ∧ PoS hx W K D Fo Ho F (.nx (ρ.set i (.own (xs ++ ys)))) := by
  unfold appE at po
  split at po
  · rename_i xs e
    split at po
    · rename_i hl
      exact ⟨xs, e, hl, po⟩
    · exact po.elim
  · exact po.elim
theorem ownL_own {ρ : En} {i : Nat} {K : Fg} {D : Ends} {Fo Ho F : Hp} {r : Fl} (po : PoS hx W K D Fo Ho F (if ownL ρ i then r else .no)) : (∃ xs, ρ[i]? = some (.own xs)) ∧ PoS hx W K D Fo Ho F r := by
  split at po
  · rename_i h
    unfold ownL at h
    split at h
    · exact ⟨⟨_, by assumption⟩, po⟩
    · cases h
  · exact po.elim
theorem stApp {i : Nat} {x : Str} {px ap p2 : Pos} {y : Expr} {m : ME} (O : Ok c Γ hx X W) (hv : okV Γ i x = true) (hp : mtPos ap p2 = true) (hn : nst y = true) (hs : sf m = true) (he : PE X y (tM c hx X.K W m)) :
    PS X (.Expr (.Call (.Attribute (.Name x px) "append" ap) [y] [] p2) pos) (tS c hx X.K W (.app i m)) := by
  obtain ⟨h1, h2, h3, h4⟩ := okV_iff O hv
  have hA : PA X [y] _ := pa_cons he pa_nil (nst_star hn)
  have hm := pe_bm (X := X) F.plainAttrs_list F.slot_list_append F.type_list_append mt_append (pe_var (pos := px) h1 h2 h3 h4) hA rfl (oneFew hn) hp (nst_star hn) rfl
  refine psImp (ps_expr (pos := pos) hm rfl) fun D σ H q => ?_
  obtain ⟨Fo, Ho, F, ρ, rb, po0⟩ := q
  obtain ⟨⟨xs, ex⟩, po⟩ := ownL_own (show PoS hx W X.K D Fo Ho F (if ownL ρ i then (evE c m ρ).fl ρ fun d => appE ρ i [d] else .no) from po0)
  have pl := po.fl rb
  obtain ⟨a, vs, q1, q2, q3, q4⟩ := rb.rep.at_ i _ ex
  refine ⟨.ref a, q1, .inl ⟨rfl, vs, .inl (.inl q3)⟩, ρ, F, rb.rep, pl.imp fun d F1 H1 _ g1 ⟨rb1, po1⟩ v rv => ?_⟩
  obtain ⟨xs', ex', hl, po2⟩ := appE_own po1
  rw [ex] at ex'
  cases ex'
  have l1 := q4.length
  have hz : LIM = sizeLine := sizeLine_eq.symm
  refine ⟨a, vs, v, rfl, rfl, g1.h _ _ q3, by rw [← hz, l1]; simp at hl; omega, ?_⟩
  exact po2 _ F1 _ (rb1.app ex q1 (g1.h _ _ q3) (q4.mono g1.f) (.cons (rv.dv hs) .nil)) fun _ _ z => z
theorem stExt {i : Nat} {x : Str} {px ap p2 : Pos} {y : Expr} {m : ME} (O : Ok c Γ hx X W) (hv : okV Γ i x = true) (hp : mtPos ap p2 = true) (hn : nst y = true) (hs : sf m = true) (he : PE X y (tM c hx X.K W m)) :
    PS X (.Expr (.Call (.Attribute (.Name x px) "extend" ap) [y] [] p2) pos) (tS c hx X.K W (.ext i m)) := by
  obtain ⟨h1, h2, h3, h4⟩ := okV_iff O hv
  have hA : PA X [y] _ := pa_cons he pa_nil (nst_star hn)
  have hm := pe_bm (X := X) F.plainAttrs_list F.slot_list_extend F.type_list_extend mtExt (pe_var (pos := px) h1 h2 h3 h4) hA rfl (oneFew hn) hp (nst_star hn) rfl
  refine psImp (ps_expr (pos := pos) hm rfl) fun D σ H q => ?_
  obtain ⟨Fo, Ho, F, ρ, rb, po0⟩ := q
  obtain ⟨⟨xs, ex⟩, po⟩ := ownL_own (show PoS hx W X.K D Fo Ho F (if ownL ρ i then (evE c m ρ).fl ρ fun d => match d with
    | .list ys => appE ρ i ys
    | _ => .no
    else .no) from po0)
  have pl := po.fl rb
  obtain ⟨a, vs, q1, q2, q3, q4⟩ := rb.rep.at_ i _ ex
  refine ⟨.ref a, q1, .inl ⟨rfl, vs, .inl (.inl q3)⟩, ρ, F, rb.rep, pl.imp fun d F1 H1 _ g1 ⟨rb1, po1⟩ v rv => ?_⟩
  split at po1
  · obtain ⟨xs', ex', hl, po2⟩ := appE_own po1
    rw [ex] at ex'
    cases ex'
    obtain ⟨b, zs, rfl, rz, dz⟩ := (rv.dv hs).lstF
    have l1 := q4.length
    have l2 := dz.length
    have hz : LIM = sizeLine := sizeLine_eq.symm
    refine ⟨a, b, vs, zs, rfl, rfl, g1.h _ _ q3, rdMono g1.s rz, by rw [← hz, l1, l2]; omega, ?_⟩
    exact po2 _ F1 _ (rb1.app ex q1 (g1.h _ _ q3) (q4.mono g1.f) dz) fun _ _ z => z
  · exact po1.elim
/-! ### small statements -/
theorem stExp {m : ME} (hl : isLc e = false) (he : PE X e (tM c hx X.K W m)) : PS X (.Expr e pos) (tS c hx X.K W (.exp m)) := by
  refine psImp (ps_expr (pos := pos) he (noSwap hl)) fun D σ H q => ?_
  obtain ⟨Fo, Ho, F, ρ, rb, po⟩ := q
  have po : PoS hx W X.K D Fo Ho F ((evE c m ρ).fl ρ fun _ => .nx ρ) := po
  exact ⟨ρ, F, rb.rep, (po.fl rb).imp fun d F1 H1 _ _ ⟨rb1, po1⟩ v rv => po1 σ F1 H1 rb1 fun _ _ z => z⟩
theorem stRet {m : ME} (hs : sf m = true) (he : PE X e (tM c hx X.K W m)) : PS X (.Return (some e) pos) (tS c hx X.K W (.ret m)) := by
  refine psImp (ps_ret (pos := pos) he) fun D σ H q => ?_
  obtain ⟨Fo, Ho, F, ρ, rb, po⟩ := q
  have po : PoS hx W X.K D Fo Ho F ((evE c m ρ).fl ρ .rt) := po
  exact ⟨ρ, F, rb.rep, (po.fl rb).imp fun d F1 H1 _ _ ⟨rb1, po1⟩ v rv => po1 v F1 H1 rb1.gr (rv.dv hs)⟩
theorem stIf {m : ME} {a b : MSs} {x y : List Stmt} (hc : PT X e (tT c hx X.K W m)) (ha : PSs X x (tSs c hx X.K W a)) (hb : PSs X y (tSs c hx X.K W b)) : PS X (.If e x y pos) (tS c hx X.K W (.ifs m a b)) := by
  refine psImp (ps_if (pos := pos) hc ha hb) fun D σ H q => ?_
  obtain ⟨Fo, Ho, F, ρ, rb, po⟩ := q
  have po : PoS hx W X.K D Fo Ho F (((evE c m ρ).bind tru).fl ρ fun k => if k then exSs c a ρ else exSs c b ρ) := po
  refine ⟨ρ, F, rb.rep, (po.fl rb).imp fun k F1 H1 _ _ ⟨rb1, po1⟩ => ?_⟩
  cases k with
  | true => exact ⟨Fo, Ho, F1, ρ, rb1, po1⟩
  | false => exact ⟨Fo, Ho, F1, ρ, rb1, po1⟩
theorem stRais {k m : Str} {j : Nat} {p1 p2 p3 : Pos} (O : Ok c Γ hx X W) (hh : Γ.hot = false) (hg : okG Γ k Γ.xs = true) : PS X (.Raise (some (.Call (.Name k p1) [.Constant (.str m) j p2] [] p3)) none pos) (tS c hx X.K W (.rais k)) := by
  obtain ⟨h1, h2, h3, h4⟩ := okG_iff O hg
  obtain ⟨x1, x2, x3, x4, x5⟩ := O.xs k h4
  refine psImp (L2N.ps_raise (pos := pos) (O.calm hh) O.tk (L2N.pmk_own PySem.F.excBase_ValueError x2 x1 x3 (raises_own x4 x5) h1 h2)) fun D σ H q => ?_
  obtain ⟨Fo, Ho, F, ρ, rb, po⟩ := q
  exact po σ F H rb fun _ _ z => z
/-! ### blocks -/
theorem stNil : PSs X [] (tSs c hx X.K W .nil) := pssImp pss_nil fun D σ H q => by
  obtain ⟨Fo, Ho, F, ρ, rb, po⟩ := q
  exact po σ F H rb fun _ _ z => z
theorem exSs_cons {s : MS} {ss : MSs} {ρ : En} : exSs c (.cons s ss) ρ = match exS c s ρ with
    | .nx ρ' => exSs c ss ρ'
    | r => r := by
  rw [exSs]
  all_goals (cases exS c s ρ <;> rfl)
theorem seqPo {K : Fg} {D : Ends} {Fo Ho F : Hp} {r : Fl} {ss : MSs} (po : PoS hx W K D Fo Ho F (match r with
    | .nx ρ' => exSs c ss ρ'
    | r => r)) : PoS hx W K { D with nx := tSs c hx K W ss D } Fo Ho F r := by
  cases r with
  | nx ρ' => exact fun σ' F' H' rb s => ⟨Fo, Ho, F', ρ', rb, PoS.mono po s⟩
  | rt d => exact po
  | ex k ρ' => exact po
  | no => exact po
theorem stCons {s : MS} {ss : MSs} {x : Stmt} {xs : List Stmt} (h1 : PS X x (tS c hx X.K W s)) (h2 : PSs X xs (tSs c hx X.K W ss)) : PSs X (x :: xs) (tSs c hx X.K W (.cons s ss)) := by
  refine pssImp (pss_cons h1 h2) fun D σ H q => ?_
  obtain ⟨Fo, Ho, F, ρ, rb, po⟩ := q
  rw [exSs_cons] at po
  exact ⟨Fo, Ho, F, ρ, rb, seqPo po⟩
theorem stFrz {i : Nat} {ss : MSs} {xs : List Stmt} (h2 : PSs X xs (tSs c hx X.K W ss)) : PSs X xs (tSs c hx X.K W (.cons (.frz i) ss)) := by
  refine pssImp h2 fun D σ H q => ?_
  obtain ⟨Fo, Ho, F, ρ, rb, po⟩ := q
  rw [exSs_cons] at po
  have po : PoS hx W X.K D Fo Ho F (match frzE ρ i with
    | .nx ρ' => exSs c ss ρ'
    | r => r) := po
  unfold frzE at po
  cases q : ρ[i]? with
  | none => rw [q] at po; exact po.elim
  | some x =>
    rw [q] at po
    cases x with
    | own ds =>
      obtain ⟨F', s, rb'⟩ := rb.frz q
      exact ⟨Fo, Ho, F', _, rb', PoS.mono po s⟩
    | val d => exact ⟨Fo, Ho, F, _, rb, po⟩
    | _ => exact po.elim
/-! ### loops -/
/-- what is not wanted any more is forgotten -/
theorem wipe_at {ρ : En} : ∀ {is : List Nat} {j : Nat} {x : Sl}, (Wq.wipe ρ is)[j]? = some x → x = .emp ∨ ρ[j]? = some x
  | [], _, _, e => .inr e
  | i :: is, j, x, e => by
    have e : ((Wq.wipe ρ is).set i .emp)[j]? = some x := e
    rw [getElem?_set] at e
    split at e
    · cases e
      exact .inl rfl
    · exact wipe_at e
theorem wipe_len {ρ : En} : ∀ {is : List Nat}, (Wq.wipe ρ is).length = ρ.length
  | [] => rfl
  | i :: is => by
    show ((Wq.wipe ρ is).set i .emp).length = _
    rw [List.length_set]
    exact wipe_len
theorem wipe_own {ρ : En} {is : List Nat} {j : Nat} (h : ownd (Wq.wipe ρ is)[j]? = true) : ownd ρ[j]? = true := by
  cases q : (Wq.wipe ρ is)[j]? with
  | none => rw [q] at h; cases h
  | some x =>
    rcases wipe_at q with z | z
    · rw [q, z] at h; cases h
    · rw [z, ← q]; exact h
theorem Rb.fgt {K : Fg} {Fo Ho F H : Hp} {σ : St} {ρ : En} (rb : Rb hx K Fo Ho F H σ ρ) (is : List Nat) : Rb hx K Fo Ho F H σ (Wq.wipe ρ is) := by
  refine ⟨⟨rb.rep.s, by rw [wipe_len]; exact rb.rep.len, fun j x e => ?_, fun j k e1 e2 e3 => rb.rep.dis j k (wipe_own e1) (wipe_own e2) e3⟩, rb.gr, fun j a e1 e2 => rb.ow j a (wipe_own e1) e2⟩
  rcases wipe_at e with z | z
  · subst z; trivial
  · exact rb.rep.at_ j x z
theorem stFgt {is : List Nat} {ss : MSs} {xs : List Stmt} (h2 : PSs X xs (tSs c hx X.K W ss)) : PSs X xs (tSs c hx X.K W (.cons (.fgt is) ss)) := by
  refine pssImp h2 fun D σ H q => ?_
  obtain ⟨Fo, Ho, F, ρ, rb, po⟩ := q
  rw [exSs_cons] at po
  have po : PoS hx W X.K D Fo Ho F (exSs c ss (Wq.wipe ρ is)) := po
  exact ⟨Fo, Ho, F, _, rb.fgt is, po⟩
theorem stFor {t : Tg} {it : MI} {b : MSs} {body : List Stmt} {iter : Expr} (O : Ok c Γ hx X W) (hp : PassesOwn (model X.prog X.w) X.A X.env X.xe) (hh : Γ.hot = false) (ht : okTg Γ t tg = true) (hi : PI X tg iter (tI c hx X.K W it)) (hf : ∀ x, foldedSetIterable iter X.env x = pure x) (hs : sfI it = true) (hb : PSs X body (tSs c hx X.K W b)) :
    PS X (.For tg iter body [] pos) (tS c hx X.K W (.for_ t it b)) := by
  refine psImp (ps_for (pos := pos) hp (O.calm hh) hi (sTg O hh ht) hb hf) fun D σ H q => ?_
  obtain ⟨Fo, Ho, F, ρ, rb, po⟩ := q
  have po : PoS hx W X.K D Fo Ho F ((evI c it ρ).fl ρ fun xs => forLoop (fun x ρ => (bindT t x ρ).fl ρ fun ρ' => exSs c b ρ') xs ρ) := po
  refine ⟨ρ, F, rb.rep, (po.fl rb).imp fun xs F1 H1 _ g1 ⟨rb1, po1⟩ J G Y wk _ => ?_⟩
  refine for_it wk.w (fun i σi Hi => ∃ Fi ρi, Rb hx X.K Fo Ho Fi Hi σi ρi ∧ Same F1 Fi ∧ PoS hx W X.K D Fo Ho Fi (forLoop (fun x ρ => (bindT t x ρ).fl ρ fun ρ' => exSs c b ρ') (xs.drop i) ρi)) ⟨F1, ρ, rb1, fun _ _ z => z, po1⟩ (fun i σi Hi _ ⟨Fi, ρi, rbi, si, _⟩ => wk.st hs Fi Hi si rbi.rep.s) ?_ ?_
  · rintro i x σi Hi Hj hi' ⟨Fi, ρi, rbi, si, poi⟩ y
    obtain ⟨Fj, d, gj, e1, dx⟩ := wk.y i Fi Hi x Hj hi' (.inl hs) si rbi.rep.s y
    have rbj := rbi.step gj
    have e2 : xs.drop i = d :: xs.drop (i + 1) := by
      rw [List.drop_eq_getElem_cons hi']
      rw [List.getElem?_eq_getElem hi'] at e1
      cases e1
      rfl
    rw [e2] at poi
    have poj := PoS.mono poi gj.f
    have poj : PoS hx W X.K D Fo Ho Fj (match ((bindT t d ρi).fl ρi fun ρ' => exSs c b ρ') with
      | .nx ρ' => forLoop (fun x ρ => (bindT t x ρ).fl ρ fun ρ' => exSs c b ρ') (xs.drop (i + 1)) ρ'
      | r => r) := poj
    cases qb : bindT t d ρi with
    | no => rw [qb] at poj; exact poj.elim
    | ex k => exact absurd qb (bindT_ex)
    | ok ρ' =>
      rw [qb] at poj
      refine ⟨ρi, Fj, d, ρ', rbj.rep, dx, qb, fun σ' rep' hw => ?_⟩
      refine ⟨Fo, Ho, Fj, ρ', ⟨rep', rbj.gr, gmOf.own_bind qb rbj hw⟩, ?_⟩
      have poj : PoS hx W X.K D Fo Ho Fj (match exSs c b ρ' with
        | .nx ρ' => forLoop (fun x ρ => (bindT t x ρ).fl ρ fun ρ' => exSs c b ρ') (xs.drop (i + 1)) ρ'
        | r => r) := poj
      cases qe : exSs c b ρ' with
      | nx ρ2 =>
        rw [qe] at poj
        exact fun σ2 F2 H2 rb2 s2 => ⟨F2, ρ2, rb2, (si.trans gj.f).trans s2, PoS.mono poj s2⟩
      | rt d => rw [qe] at poj; exact poj
      | ex k ρ2 => rw [qe] at poj; exact poj
      | no => rw [qe] at poj; exact poj
  · rintro σi Hi ⟨Fi, ρi, rbi, si, poi⟩
    rw [List.drop_length] at poi
    exact poi σi Fi Hi rbi fun _ _ z => z
where
  bindT_ex {t : Tg} {d : Wq.D} {ρ : En} {k : Str} : bindT t d ρ ≠ .ex k := by
    cases t with
    | nm i => exact fun z => by cases z
    | tp is =>
      have key : ∀ (is : List Nat) (ds : List Wq.D) (ρ : En), setAll is ds ρ ≠ .ex k := fun is => by
        induction is with
        | nil => intro ds ρ z; cases ds <;> cases z
        | cons i is ih => intro ds ρ z; cases ds with
          | nil => cases z
          | cons d ds => exact ih ds _ z
      cases d <;> first | exact key _ _ _ | exact fun z => by cases z
theorem stWhl {m : ME} {b : MSs} {body : List Stmt} (hp : PassesOwn (model X.prog X.w) X.A X.env X.xe) (hc : PT X e (tT c hx X.K W m)) (hb : PSs X body (tSs c hx X.K W b)) : PS X (.While e body [] pos) (tS c hx X.K W (.whl m b)) := by
  refine psImp (ps_while (pos := pos) hp hc hb) fun D σ H q => ?_
  obtain ⟨Fo, Ho, F, ρ, rb, po⟩ := q
  refine ⟨fun n σi Hi => ∃ Fi ρi, Rb hx X.K Fo Ho Fi Hi σi ρi ∧ PoS hx W X.K D Fo Ho Fi (whLoop (fun ρ => (evE c m ρ).bind tru) (exSs c b) n ρi), ⟨1000, F, ρ, rb, po⟩, ?_⟩
  rintro n σi Hi ⟨Fi, ρi, rbi, poi⟩
  cases n with
  | zero => exact poi.elim
  | succ n =>
    have poi : PoS hx W X.K D Fo Ho Fi (((evE c m ρi).bind tru).fl ρi fun k => if k then (match exSs c b ρi with
      | .nx ρ' => whLoop (fun ρ => (evE c m ρ).bind tru) (exSs c b) n ρ'
      | r => r) else .nx ρi) := poi
    refine ⟨ρi, Fi, rbi.rep, (poi.fl rbi).imp fun k F1 H1 _ g1 ⟨rb1, po1⟩ => ?_⟩
    cases k with
    | false => exact po1 σi F1 H1 rb1 fun _ _ z => z
    | true =>
      rw [if_pos rfl] at po1 ⊢
      refine ⟨fun σ' H' => ∃ F' ρ', Rb hx X.K Fo Ho F' H' σ' ρ' ∧ PoS hx W X.K D Fo Ho F' (whLoop (fun ρ => (evE c m ρ).bind tru) (exSs c b) n ρ'), fun σ' H' h => ⟨n, Nat.lt_succ_self n, h⟩, Fo, Ho, F1, ρi, rb1, ?_⟩
      cases qe : exSs c b ρi with
      | nx ρ2 =>
        rw [qe] at po1
        exact fun σ2 F2 H2 rb2 s2 => ⟨F2, ρ2, rb2, PoS.mono po1 s2⟩
      | rt d => rw [qe] at po1; exact po1
      | ex k ρ2 => rw [qe] at po1; exact po1
      | no => rw [qe] at po1; exact po1
/-! ### refusals that are caught -/
theorem takes0 {a : Addr} {pn : List (Addr × Obj)} : L2N.Takes (X.suite a pn) W0 := fun u s' x => by
  obtain ⟨_, _, _, _, _, _, _, _, _, _, _, _, _, _, _, _, z⟩ := x
  exact z.elim
/-- a frame of its own -/
structure Own (X : Cx) : Prop where
  ps : PassesOwn (model X.prog X.w) X.A X.env X.xe
  stk : X.stack = X.env :: X.outer
  frm : X.env.frame = some X.env.locals
theorem Rep.hxTo {hx' : HX} {K : Fg} {F H : Hp} {σ : St} {ρ : En} (h : Rep hx K F H σ ρ) (hP : hx.P = hx'.P) (hw : hx.w = hx'.w) (hh : ∀ (j : Nat) (z : Str), ρ[j]? = some (.exc z) → ∀ q, hx q z → hx' q z) : Rep hx' K F H σ ρ := by
  refine ⟨h.s, h.len, fun j x e => ?_, h.dis⟩
  have r := h.at_ j x e
  cases x with
  | exc z =>
    obtain ⟨q, e1, e2⟩ := r
    exact ⟨q, e1, hh j z e q e2⟩
  | emp => exact r
  | val d => exact r
  | own d => exact r
  | dic d =>
    obtain ⟨a, es, e1, e2, e3, e4⟩ := r
    exact ⟨a, es, e1, e2, by rw [← hP, ← hw]; exact e3, e4⟩
theorem noX_not {ρ : En} (h : noX ρ = true) {j : Nat} {z : Str} (e : ρ[j]? = some (.exc z)) : False := by
  have := List.all_eq_true.mp h _ (List.mem_of_getElem? e)
  cases this
theorem set_none {α : Type} {l : List (Option α)} {i j : Nat} {v : α} (e : (l.set i none)[j]? = some (some v)) : l[j]? = some (some v) ∧ j ≠ i := by
  rw [getElem?_set] at e
  split at e
  · cases e
  · rename_i h
    refine ⟨e, fun z => h ⟨z, ?_⟩⟩
    subst z
    exact (List.getElem?_eq_some_iff.mp e).1
theorem Rb.clear {K : Fg} {Fo Ho F H : Hp} {σ : St} {ρ : En} (rb : Rb hx K Fo Ho F H σ ρ) (i : Nat) : Rb hx K Fo Ho F H (σ.set i none) (ρ.set i .emp) := by
  have ln := rb.rep.len
  have key : ∀ j : Nat, ¬ (j = i ∧ i < ρ.length) → (σ.set i none)[j]? = σ[j]? ∧ (ρ.set i .emp)[j]? = ρ[j]? := fun j h => by
    rw [getElem?_set, getElem?_set, if_neg h, if_neg fun z => h ⟨z.1, by omega⟩]
    exact ⟨rfl, rfl⟩
  have own : ∀ j : Nat, ownd (ρ.set i .emp)[j]? = true → ¬ (j = i ∧ i < ρ.length) := fun j e h => by
    rw [getElem?_set, if_pos h] at e
    cases e
  refine ⟨⟨rb.rep.s, by simp [ln], fun j x e => ?_, fun j k e1 e2 e3 => ?_⟩, rb.gr, fun j a e1 e2 => ?_⟩
  · by_cases h : j = i ∧ i < ρ.length
    · rw [getElem?_set, if_pos h] at e
      cases e
      trivial
    · obtain ⟨k1, k2⟩ := key j h
      rw [k2] at e
      rw [k1]
      exact rb.rep.at_ j x e
  · obtain ⟨k1, k2⟩ := key j (own j e1)
    obtain ⟨k3, k4⟩ := key k (own k e2)
    rw [k2] at e1
    rw [k4] at e2
    rw [k1, k3] at e3
    exact rb.rep.dis j k e1 e2 e3
  · obtain ⟨k1, k2⟩ := key j (own j e1)
    rw [k2] at e1
    rw [k1] at e2
    exact rb.ow j a e1 e2
theorem stTry {b hd : MSs} {k n : Str} {i : Nat} {body suite : List Stmt} {b0 : Stmt} {np p2 : Pos} (O : Ok c Γ hx X W) (S : Own X) (hh : Γ.hot = false) (hg : okG Γ k Γ.xs = true) (hi : Γ.N[i]? = some n) (hln : kLoc Γ n = true)
    (hb : ∀ (W' : WX) (pn : List (Addr × Obj)) (xe : Value → Shared → Prop), L2N.Takes (X.tr pn xe) W' → PassesOwn (model X.prog X.w) X.A X.env xe → PSs (X.tr pn xe) body (tSs c hx X.K W' b))
    (hs : ∀ (a : Addr) (oe : Obj) (z : Str) (pn : List (Addr × Obj)), z ∈ Γ.xs → L2N.Zn (.ref (He.ga X.K z)) none oe → (∃ vs, oe.data = .fields vs) → PSs (X.suite a ((a, oe) :: pn)) (b0 :: suite) (tSs c ⟨fun q y => q = a ∧ y = z, hx.P, hx.w⟩ X.K W0 hd)) :
    PS X (.Try body [.ExceptHandler (some (.Name k np)) (some n) (b0 :: suite) p2] [] [] pos) (tS c hx X.K W (.try_ b k i hd)) := by
  obtain ⟨h1, h2, h3, h4⟩ := okG_iff O hg
  obtain ⟨x1, x2, x3, x4, x5⟩ := O.xs k h4
  have hln : X.env.kindOf n = some .local := by
    show X.env.scope.names.lookup n = _
    rw [O.sc]
    exact of_decide_eq_true hln
  refine psImp (L2N.ps_try_as (pos := pos) (np := np) (c := .ref (He.ga X.K k)) (i := i) (tb := fun W' => tSs c hx X.K W' b) (ts := fun a cls d D σ H => ∃ z, z ∈ Γ.xs ∧ cls = .ref (He.ga X.K z) ∧ d = none ∧ tSs c ⟨fun q y => q = a ∧ y = z, hx.P, hx.w⟩ X.K W0 hd D σ H) S.stk S.frm O.nd (by rw [O.nN]; exact hi) hln ⟨h1, h2, .inl x1⟩ O.tk hb ?_) fun D σ H q => ?_
  · intro a oe cls d pn hz hf
    refine ⟨fun pins s σ H D I ⟨z, hz1, e1, e2, q⟩ => ?_⟩
    subst e1 e2
    exact (hs a oe z pn hz1 hz hf).run pins s σ H D I q
  · obtain ⟨Fo, Ho, F, ρ, rb, po⟩ := q
    refine ⟨Fo, Ho, F, ρ, rb, ?_⟩
    have po : PoS hx W X.K D Fo Ho F (match exSs c b ρ with
      | .ex z ρ' => if c.xs.contains z then (if c.sub z k then (match exSs c hd (ρ'.set i (.exc z)) with
          | .nx ρ'' => if noX (ρ''.set i .emp) then .nx (ρ''.set i .emp) else .no
          | .rt d => .rt d
          | _ => .no) else .ex z ρ') else .no
      | r => r) := po
    cases qe : exSs c b ρ with
    | nx ρ2 => rw [qe] at po; exact po
    | rt d => rw [qe] at po; exact po
    | no => rw [qe] at po; exact po
    | ex z ρ2 =>
      rw [qe] at po
      dsimp only at po
      split at po
      · rename_i hz
        have hz : z ∈ Γ.xs := by
          rw [O.cx] at hz
          simpa using hz
        intro σ2 F2 H2 rb2 s2
        obtain ⟨_, _, ks⟩ := O.ek z hz
        refine ⟨c.sub z k, (ks k h4).2, fun e a ha => ?_, fun e => ?_⟩
        · rw [if_pos e] at po
          have rep3 : Rep ⟨fun q y => q = a ∧ y = z, hx.P, hx.w⟩ X.K F2 H2 σ2 ρ2 := rb2.rep.hxTo rfl rfl fun j y _ q hq => absurd hq (O.hxn hh q y)
          have rep4 := rep3.set (i := i) (v := .ref a) (x := .exc z) ⟨a, rfl, rfl, rfl⟩ fun z => by cases z
          refine ⟨z, hz, rfl, rfl, Fo, Ho, F2, ρ2.set i (.exc z), ⟨rep4, rb2.gr, fun j q e1 e2 => ?_⟩, ?_⟩
          · rw [getElem?_set] at e1 e2
            by_cases hc : j = i ∧ i < ρ2.length
            · rw [if_pos hc] at e1
              cases e1
            · have ln := rb2.rep.len
              rw [if_neg hc] at e1
              rw [if_neg fun z => hc ⟨z.1, by omega⟩] at e2
              exact rb2.ow j q e1 e2
          · cases qh : exSs c hd (ρ2.set i (.exc z)) with
            | nx ρ3 =>
              rw [qh] at po
              dsimp only at po
              split at po
              · rename_i hn
                intro σ3 F3 H3 rb3 s3
                have rb4 := rb3.clear i
                exact po _ F3 H3 ⟨rb4.rep.hxTo rfl rfl fun j y e q hq => absurd e fun e => noX_not hn e, rb4.gr, rb4.ow⟩ (s2.trans s3)
              · exact po.elim
            | rt d => rw [qh] at po; exact po
            | ex _ _ => rw [qh] at po; exact po.elim
            | no => rw [qh] at po; exact po.elim
        · rw [if_neg (by rw [e]; exact Bool.false_ne_true)] at po
          exact po σ2 F2 H2 rb2 s2
      · exact po.elim
theorem trOk {pn : List (Addr × Obj)} {xe : Value → Shared → Prop} {W' : WX} (O : Ok c Γ hx X W) (hh : Γ.hot = false) (tk : L2N.Takes (X.tr pn xe) W') : Ok c Γ hx (X.tr pn xe) W' :=
  ⟨O.nN, O.nd, O.sc, O.un, O.calm, O.fl, O.calls, O.hxn, O.cx, O.ve, O.ek, fun z => absurd (hh.symm.trans z) Bool.false_ne_true, O.callx, O.free, O.gs, O.xs, tk, O.hp⟩
theorem suiteOk {a : Addr} {oe : Obj} {z : Str} {pn : List (Addr × Obj)} (O : Ok c Γ hx X W) (hz : z ∈ Γ.xs) (h : L2N.Zn (.ref (He.ga X.K z)) none oe) (hf : ∃ vs, oe.data = .fields vs) : Ok c { Γ with hot := true } ⟨fun q y => q = a ∧ y = z, hx.P, hx.w⟩ (X.suite a ((a, oe) :: pn)) W0 := by
  obtain ⟨vs, hv⟩ := hf
  refine ⟨O.nN, O.nd, O.sc, O.un, (fun z => by cases z), O.fl, (fun z => by cases z), (fun z => by cases z), O.cx, O.ve, O.ek, fun _ => ?_, fun f hf => ?_, O.free, O.gs, O.xs, takes0, O.hp⟩
  · refine ⟨(a, oe), z, ⟨rfl, vs, hv, ?_⟩, List.mem_cons_self, ⟨hz, h.1, h.2.1, vs, hv⟩, fun q y hq => hq⟩
    exact h.2.2 vs hv
  · obtain ⟨k, ad, fd, ps, room, r⟩ := O.callx f hf
    exact ⟨k, ad, fd, ps, ⟨room.dp, room.un⟩, r⟩
/-! ### dicts of one's own -/
section
variable {K : Fg} {D : Ends} {Fo Ho F H : Hp} {σ : St} {ρ : En} {p : Addr}
/-- a loose thing that no name holds is written -/
theorem Rb.over (rb : Rb hx K Fo Ho F H σ ρ) {o : HO} (hF : F p = none) (hO : Ho p = none) (hno : ∀ j : Nat, ownd ρ[j]? = true → σ[j]? ≠ some (some (.ref p))) : Rb hx K Fo Ho F (upd H p o) σ ρ := by
  have sm : Same F (upd H p o) := fun b u eb => by
    rw [upd_ne (fun z => by rw [z, hF] at eb; cases eb)]
    exact rb.rep.s b u eb
  refine ⟨⟨sm, rb.rep.len, fun j x ej => ?_, rb.rep.dis⟩, ⟨rb.gr.f, fun b u eb => ?_, sm, rb.gr.n⟩, rb.ow⟩
  · have q := rb.rep.at_ j x ej
    cases x with
    | emp => trivial
    | val d => exact q
    | exc k => exact q
    | own xs =>
      obtain ⟨b, us, q1, q2, q3, q4⟩ := q
      refine ⟨b, us, q1, q2, ?_, q4⟩
      rw [upd_ne (fun z => hno j (by rw [ej]; rfl) (by rw [q1, z]))]
      exact q3
    | dic kvs =>
      obtain ⟨b, us, q1, q2, q3, q4⟩ := q
      refine ⟨b, us, q1, q2, ?_, q4⟩
      rw [upd_ne (fun z => hno j (by rw [ej]; rfl) (by rw [q1, z]))]
      exact q3
  · rw [upd_ne (fun z => by rw [z, hO] at eb; cases eb)]
    exact rb.gr.h b u eb
/-- a dict is held by a name -/
theorem Rb.holdD (rb : Rb hx K Fo Ho F H σ ρ) {i : Nat} {es : List Ent} {kvs : List (List Key × Wq.D)} (hF : F p = none) (hO : Ho p = none) (hH : H p = some (dcO hx.P hx.w p es)) (kv : Kvs K F p es kvs) (hno : ∀ j : Nat, ownd ρ[j]? = true → σ[j]? ≠ some (some (.ref p))) :
    Rb hx K Fo Ho F H (σ.set i (some (.ref p))) (ρ.set i (.dic kvs)) := by
  refine ⟨rb.rep.set ⟨p, es, rfl, hF, hH, kv⟩ fun _ j _ hj2 => hno j hj2, rb.gr, fun j a e1 e2 => ?_⟩
  have ln := rb.rep.len
  rw [getElem?_set] at e1 e2
  by_cases c : j = i ∧ i < ρ.length
  · rw [if_pos ⟨c.1, by omega⟩] at e2
    cases e2
    exact hO
  · rw [if_neg c] at e1
    rw [if_neg (fun z => c ⟨z.1, by omega⟩)] at e2
    exact rb.ow j a e1 e2
/-- a dict of one's own gets another value -/
theorem Rb.putD (rb : Rb hx K Fo Ho F H σ ρ) {i : Nat} {es' : List Ent} {kvs kvs' : List (List Key × Wq.D)} (e : ρ[i]? = some (.dic kvs)) (h1 : σ[i]? = some (some (.ref p))) (kv : Kvs K F p es' kvs') :
    Rb hx K Fo Ho F (upd H p (dcO hx.P hx.w p es')) σ (ρ.set i (.dic kvs')) := by
  have ho : Ho p = none := rb.ow i p (by rw [e]; rfl) h1
  have hF : F p = none := by
    obtain ⟨a', _, q1, q2, _⟩ := rb.rep.at_ i _ e
    rw [h1] at q1
    cases q1
    exact q2
  have il : i < ρ.length := (List.getElem?_eq_some_iff.mp e).1
  have sm : Same F (upd H p (dcO hx.P hx.w p es')) := fun b o eb => by
    rw [upd_ne (fun z => by rw [z, hF] at eb; cases eb)]
    exact rb.rep.s b o eb
  refine ⟨⟨sm, by simp [rb.rep.len], fun j x ej => ?_, fun j k e1 e2 e3 => ?_⟩, ⟨rb.gr.f, fun b o eb => ?_, sm, rb.gr.n⟩, fun j b e1 e2 => ?_⟩
  · rw [getElem?_set] at ej
    by_cases c : j = i ∧ i < ρ.length
    · rw [if_pos c] at ej
      cases ej
      obtain ⟨rfl, _⟩ := c
      exact ⟨p, es', h1, hF, upd_same, kv⟩
    · rw [if_neg c] at ej
      have q := rb.rep.at_ j x ej
      have nj : j ≠ i := fun z => c ⟨z, il⟩
      cases x with
      | emp => trivial
      | val d => exact q
      | exc k => exact q
      | own xs =>
        obtain ⟨b, us, q1, q2, q3, q4⟩ := q
        refine ⟨b, us, q1, q2, ?_, q4⟩
        rw [upd_ne (fun z => nj (rb.rep.dis j i (by rw [ej]; rfl) (by rw [e]; rfl) (by rw [q1, h1, z])))]
        exact q3
      | dic kvs =>
        obtain ⟨b, us, q1, q2, q3, q4⟩ := q
        refine ⟨b, us, q1, q2, ?_, q4⟩
        rw [upd_ne (fun z => nj (rb.rep.dis j i (by rw [ej]; rfl) (by rw [e]; rfl) (by rw [q1, h1, z])))]
        exact q3
  · have key : ∀ j, ownd (ρ.set i (.dic kvs'))[j]? = true → ownd ρ[j]? = true := fun j z => by
      rw [getElem?_set] at z
      by_cases c : j = i ∧ i < ρ.length
      · rw [c.1, e]; rfl
      · rw [if_neg c] at z
        exact z
    exact rb.rep.dis j k (key j e1) (key k e2) e3
  · rw [upd_ne (fun z => by rw [z, ho] at eb; cases eb)]
    exact rb.gr.h b o eb
  · rw [getElem?_set] at e1
    by_cases c : j = i ∧ i < ρ.length
    · rw [c.1] at e2
      rw [h1] at e2
      cases e2
      exact ho
    · rw [if_neg c] at e1
      exact rb.ow j b e1 e2
end
theorem keyD_fl {K : Fg} {D : Ends} {Fo Ho F : Hp} {ρ : En} {d : Wq.D} {f : List Key → Fl} (po : PoS hx W K D Fo Ho F ((keyD d).fl ρ f)) : ∃ q, keyD d = .ok q ∧ PoS hx W K D Fo Ho F (f q) := by
  cases e : keyD d with
  | ok q => rw [e] at po; exact ⟨q, rfl, po⟩
  | ex k =>
    cases d with
    | tuple xs => simp only [keyD] at e; cases z : toKeys xs <;> rw [z] at e <;> cases e
    | _ => cases e
  | no => rw [e] at po; exact po.elim
theorem getD_fl {K : Fg} {D : Ends} {Fo Ho F : Hp} {ρ : En} {i : Nat} {f : List (List Key × Wq.D) → Fl} (po : PoS hx W K D Fo Ho F ((getD' ρ i).fl ρ f)) : ∃ kvs, ρ[i]? = some (.dic kvs) ∧ PoS hx W K D Fo Ho F (f kvs) := by
  unfold getD' at po
  split at po
  · exact ⟨_, by assumption, po⟩
  · exact po.elim
theorem no_own {K : Fg} {Fo Ho F H : Hp} {σ : St} {ρ : En} {p : Addr} (rb : Rb hx K Fo Ho F H σ ρ) (hp : H p = none) : ∀ j : Nat, ownd ρ[j]? = true → σ[j]? ≠ some (some (.ref p)) := fun j hj e => by
  obtain ⟨a, o, e1, _, e3⟩ := rb.rep.ownAt hj
  rw [e] at e1
  cases e1
  rw [hp] at e3
  cases e3
theorem stDnew {i : Nat} {x : Str} {px p0 : Pos} (O : Ok c Γ hx X W) (hn : okS Γ i x = true) : PS X (.Assign [.Name x px] (.Dict [] [] p0) pos) (tS c hx X.K W (.dnew i)) := by
  obtain ⟨k1, k2, k3⟩ := okS_iff O hn
  refine psImp (ps_set (pos := pos) O.nd k1 k2 peDnew rfl k3) fun D σ H q => ?_
  obtain ⟨Fo, Ho, F, ρ, rb, po⟩ := q
  have po : PoS hx W X.K D Fo Ho F (.nx (ρ.set i (.dic []))) := po
  intro p hp hm
  have g := Gr.loose (o := dcO X.prog X.w p []) rb.rep.s hp
  refine po _ F _ ((rb.step g).holdD (es := []) (rb.rep.s.free hp) (rb.gr.h.free hp) ?_ ⟨hm, .nil⟩ (no_own rb hp)) fun _ _ z => z
  rw [O.hp.1, O.hp.2]
  exact upd_same
theorem stDnew1 {i : Nat} {x : Str} {px p0 : Pos} {ke ve : Expr} {k v : ME} (O : Ok c Γ hx X W) (hn : okS Γ i x = true) (hsk : sf k = true) (hsv : sf v = true) (hk : PE X ke (tM c hx X.K W k)) (hv : PE X ve (tM c hx X.K W v)) : PS X (.Assign [.Name x px] (.Dict [some ke] [ve] p0) pos) (tS c hx X.K W (.dnew1 i k v)) := by
  obtain ⟨k1, k2, k3⟩ := okS_iff O hn
  refine psImp (ps_set (pos := pos) O.nd k1 k2 (peDnew1 O.un1 hk hv) rfl k3) fun D σ H q => ?_
  obtain ⟨Fo, Ho, F, ρ, rb, po⟩ := q
  have po : PoS hx W X.K D Fo Ho F ((evE c k ρ).fl ρ fun x => (evE c v ρ).fl ρ fun y => (keyD x).fl ρ fun q => .nx (ρ.set i (.dic [(q, y)]))) := po
  intro p hp hm
  have g := Gr.loose (o := dcO X.prog X.w p []) rb.rep.s hp
  have hF : F p = none := rb.rep.s.free hp
  have rb1 := rb.step g
  refine ⟨ρ, F, rb1.rep, (po.fl rb1).imp fun d F1 H1 _ g1 ⟨rb2, po1⟩ u ru => ⟨ρ, F1, rb2.rep, (po1.fl rb2).imp fun d2 F2 H2 _ g2 ⟨rb3, po2⟩ w rw => ?_⟩⟩
  obtain ⟨q, ek, po3⟩ := keyD_fl po2
  obtain ⟨b, rfl, hb⟩ := keyD_dv ((ru.dv hsk).mono g2.f) ek
  have g12 := g1.trans g2
  have hH : H2 p = some (dcO X.prog X.w p []) := g12.h _ _ upd_same
  have hF2 : F2 p = none := by
    cases z : F2 p with
    | none => rfl
    | some o =>
      rcases g12.n p o z with z | z
      · rw [hF] at z; cases z
      · rw [upd_same] at z; cases z
  refine ⟨b, q, rfl, hH, sqtMono g2.s hb, fun r rr => ?_⟩
  have hO : Ho p = none := rb.gr.h.free hp
  have rb4 := rb3.over (o := dcO hx.P hx.w p [(q, b, r)]) hF2 hO (no_own rb hp)
  have := po3 _ F2 _ (rb4.holdD (i := i) (es := [(q, b, r)]) (kvs := [(q, d2)]) hF2 hO upd_same ⟨hm, .cons ⟨rfl, hb, w, rr, rw.dv hsv⟩ .nil⟩ (no_own rb hp)) fun _ _ z => z
  rw [O.hp.1, O.hp.2] at this
  exact this
theorem stDput {i : Nat} {x : Str} {px p0 : Pos} {ke ve : Expr} {k v : ME} (O : Ok c Γ hx X W) (hn : okV Γ i x = true) (hpl : plainIx ke = true) (hsk : sf k = true) (hsv : sf v = true) (hl : isLc ve = false) (hk : PE X ke (tM c hx X.K W k)) (hv : PE X ve (tM c hx X.K W v)) : PS X (.Assign [.Subscript (.Name x px) ke p0] ve pos) (tS c hx X.K W (.dput i k v)) := by
  obtain ⟨h1, h2, h3, h4⟩ := okV_iff O hn
  refine psImp (psDput O.un1 (pe_var h1 h2 h3 h4) hk hv (noSwap hl)) fun D σ H q => ?_
  obtain ⟨Fo, Ho, F, ρ, rb, po⟩ := q
  have po : PoS hx W X.K D Fo Ho F ((evE c v ρ).fl ρ fun y => (getD' ρ i).fl ρ fun kvs => (evE c k ρ).fl ρ fun x => (keyD x).fl ρ fun q => if kvs.length < 100000 then .nx (ρ.set i (.dic (dputL kvs q y))) else .no) := po
  refine ⟨ρ, F, rb.rep, (po.fl rb).imp fun y F1 H1 _ g1 ⟨rb1, po1⟩ w rw => ?_⟩
  obtain ⟨kvs, ed, po1⟩ := getD_fl po1
  obtain ⟨a, es, e1, e2, e3, e4⟩ := rb1.rep.at_ i _ ed
  refine ⟨.ref a, e1, ρ, F1, rb1.rep, (po1.fl rb1).imp fun d F2 H2 _ g2 ⟨rb2, po2⟩ u ru => ?_⟩
  obtain ⟨q, ek, po2⟩ := keyD_fl po2
  obtain ⟨b, rfl, hb⟩ := keyD_dv (ru.dv hsk) ek
  have kv := e4.mono g2.f
  have hz := sizeLine_big
  have ln := Paired.length kv.2
  split at po2
  · refine ⟨a, b, es, q, rfl, rfl, dcTo O (g2.h _ _ e3), kv_keyd kv.2 g2.s, sqtMono g2.s hb, by omega, fun r rr nd => ?_⟩
    have := po2 _ F2 _ (rb2.putD (es' := storedH es q b r) ed e1 ⟨kv.1, kv_put kv.2 nd hb rr ((rw.dv hsv).mono g2.f)⟩) fun _ _ z => z
    rw [O.hp.1, O.hp.2] at this
    exact this
  · exact po2.elim
/-! ### all of them -/
mutual
theorem bS : ∀ (m : MS) {hx : HX} {Γ : Cfg} {X : Cx} {W : WX} {st : Stmt}, Ok c Γ hx X W → Own X → chkS Γ m st = true → PS X st (tS c hx X.K W m)
  | .frz i, hx, Γ, X, W, st, O, hp, h => by simp [chkS] at h
  | .fgt is, hx, Γ, X, W, st, O, hp, h => by simp [chkS] at h
  | .asg t m, hx, Γ, X, W, st, O, hp, h => by
    unfold chkS at h
    split at h
    · rename_i tg e pos
      simp only [Bool.and_eq_true] at h
      obtain ⟨⟨⟨h1, h2⟩, h3⟩, h4⟩ := h
      cases t with
      | nm i =>
        cases tg with
        | Name x px =>
          by_cases hl : isLc e = false
          · exact stAsgN O h2 h1 hl ((bE m).1 O h3)
          · cases m with
            | lc elt t it cond ws => exact stLc O h2 h3
            | _ =>
              exfalso
              apply hl
              cases e <;> first | rfl | (simp [chkE] at h3; done)
        | _ => cases h2
      | tp is =>
        simp only [Bool.and_eq_true, Bool.not_eq_true'] at h4
        exact stAsgT O h4.1 h2 h1 h4.2 ((bE m).1 O h3)
    · cases h
  | .asgL i ms, hx, Γ, X, W, st, O, hp, h => by
    unfold chkS at h
    split at h
    · simp only [Bool.and_eq_true, decide_eq_true_eq] at h
      obtain ⟨⟨⟨h1, h2⟩, h3⟩, h4⟩ := h
      exact stAsgL O h1 h2 h3 ((bEs ms).1 O h4)
    · cases h
  | .asgA i a b, hx, Γ, X, W, st, O, hp, h => by
    unfold chkS at h
    split at h
    · simp only [Bool.and_eq_true] at h
      obtain ⟨⟨h1, h2⟩, h3⟩ := h
      exact stAsgA O h1 ((bE a).1 O h2) ((bE b).1 O h3)
    · cases h
  | .app i m, hx, Γ, X, W, st, O, hp, h => by
    unfold chkS at h
    split at h
    · simp only [Bool.and_eq_true, decide_eq_true_eq] at h
      obtain ⟨⟨⟨⟨⟨h1, h2⟩, h3⟩, h4⟩, h5⟩, h6⟩ := h
      subst h1
      exact stApp O h3 h2 h4 h5 ((bE m).1 O h6)
    · cases h
  | .ext i m, hx, Γ, X, W, st, O, hp, h => by
    unfold chkS at h
    split at h
    · simp only [Bool.and_eq_true, decide_eq_true_eq] at h
      obtain ⟨⟨⟨⟨⟨h1, h2⟩, h3⟩, h4⟩, h5⟩, h6⟩ := h
      subst h1
      exact stExt O h3 h2 h4 h5 ((bE m).1 O h6)
    · cases h
  | .dnew i, hx, Γ, X, W, st, O, hp, h => by
    unfold chkS at h
    split at h
    · exact stDnew O h
    · cases h
  | .dnew1 i k v, hx, Γ, X, W, st, O, hp, h => by
    unfold chkS at h
    split at h
    · simp only [Bool.and_eq_true] at h
      obtain ⟨⟨⟨⟨h1, h2⟩, h3⟩, h4⟩, h5⟩ := h
      exact stDnew1 O h1 h2 h3 ((bE k).1 O h4) ((bE v).1 O h5)
    · cases h
  | .dput i k v, hx, Γ, X, W, st, O, hp, h => by
    unfold chkS at h
    split at h
    · simp only [Bool.and_eq_true, Bool.not_eq_true'] at h
      obtain ⟨⟨⟨⟨⟨⟨h1, h2⟩, h3⟩, h4⟩, h5⟩, h6⟩, h7⟩ := h
      exact stDput O h1 h2 h3 h4 h5 ((bE k).1 O h6) ((bE v).1 O h7)
    · cases h
  | .exp m, hx, Γ, X, W, st, O, hp, h => by
    unfold chkS at h
    split at h
    · simp only [Bool.and_eq_true, Bool.not_eq_true'] at h
      exact stExp h.1 ((bE m).1 O h.2)
    · cases h
  | .ret m, hx, Γ, X, W, st, O, hp, h => by
    unfold chkS at h
    split at h
    · simp only [Bool.and_eq_true] at h
      exact stRet h.1 ((bE m).1 O h.2)
    · cases h
  | .ifs m a b, hx, Γ, X, W, st, O, hp, h => by
    unfold chkS at h
    split at h
    · simp only [Bool.and_eq_true] at h
      exact stIf ((bE m).2 O h.1.1) (bSs a O hp h.1.2) (bSs b O hp h.2)
    · cases h
  | .for_ t it b, hx, Γ, X, W, st, O, hp, h => by
    unfold chkS at h
    split at h
    · simp only [Bool.and_eq_true, Bool.not_eq_true'] at h
      obtain ⟨⟨⟨⟨⟨h1, h2⟩, h3⟩, h4⟩, h5⟩, h6⟩ := h
      obtain ⟨p1, p2⟩ := bI (c := c) (hx := hx) it _ _ _ _ _ O h4
      exact stFor O hp.ps h1 h2 p1 p2 h5 (bSs b O hp h6)
    · cases h
  | .whl m b, hx, Γ, X, W, st, O, hp, h => by
    unfold chkS at h
    split at h
    · simp only [Bool.and_eq_true] at h
      exact stWhl hp.ps ((bE m).2 O h.1) (bSs b O hp h.2)
    · cases h
  | .rais k, hx, Γ, X, W, st, O, hp, h => by
    unfold chkS at h
    split at h
    · simp only [Bool.and_eq_true, Bool.not_eq_true', decide_eq_true_eq] at h
      obtain ⟨⟨h1, h2⟩, h3⟩ := h
      subst h2
      exact stRais O h1 h3
    · cases h
  | .try_ b k i hd, hx, Γ, X, W, st, O, hp, h => by
    unfold chkS at h
    split at h
    · simp only [Bool.and_eq_true, Bool.not_eq_true', decide_eq_true_eq] at h
      obtain ⟨⟨⟨⟨⟨⟨h1, h2⟩, h3⟩, h4⟩, h5⟩, h6⟩, h7⟩ := h
      subst h2
      refine stTry O hp h1 h3 h4 h5 (fun W' pn xe tk pa => bSs b (trOk O h1 tk) ⟨pa, hp.stk, hp.frm⟩ h6) fun a oe z pn hz hn hf => bSs hd (suiteOk O hz hn hf) ⟨PassesOwn.never, hp.stk, hp.frm⟩ h7
    · cases h
theorem bSs : ∀ (m : MSs) {hx : HX} {Γ : Cfg} {X : Cx} {W : WX} {st : List Stmt}, Ok c Γ hx X W → Own X → chkSs Γ m st = true → PSs X st (tSs c hx X.K W m)
  | .nil, hx, Γ, X, W, st, O, hp, h => by
    cases st with
    | nil => exact stNil
    | cons _ _ => simp [chkSs] at h
  | .cons s ss, hx, Γ, X, W, st, O, hp, h => by
    by_cases hf : ∃ i, s = .frz i
    · obtain ⟨i, rfl⟩ := hf
      simp only [chkSs] at h
      exact stFrz (bSs ss O hp h)
    by_cases hg : ∃ is, s = .fgt is
    · obtain ⟨is, rfl⟩ := hg
      simp only [chkSs] at h
      exact stFgt (bSs ss O hp h)
    · have key : ∃ x xs, st = x :: xs ∧ chkS Γ s x = true ∧ chkSs Γ ss xs = true := by
        cases st with
        | nil => cases s <;> first | (simp [chkSs] at h; done) | exact absurd ⟨_, rfl⟩ hf | exact absurd ⟨_, rfl⟩ hg
        | cons x xs =>
          refine ⟨x, xs, rfl, ?_⟩
          cases s <;> first | exact absurd ⟨_, rfl⟩ hf | exact absurd ⟨_, rfl⟩ hg | (simp only [chkSs, Bool.and_eq_true] at h; exact h)
      obtain ⟨x, xs, rfl, h1, h2⟩ := key
      exact stCons (bS s O hp h1) (bSs ss O hp h2)
end
end
end Wq

end
section
set_option Elab.async false
set_option linter.all false
set_option autoImplicit false
set_option maxRecDepth 100000
set_option maxHeartbeats 4000000
/-! Defs. -/
namespace Wq
open PySem PySem.Spec PyProof.Rows L2
/-- a def of the row's top, and what it is read as -/
structure Df where
  nm : Str
  st : Stmt
  fd : Fd
  hot : Bool
def Df.ps (d : Df) : List Str := d.fd.N.take d.fd.np
def Df.cfg (fs hs gs xs : List Str) (d : Df) : Cfg := { N := d.fd.N, fs := fs, hs := hs, gs := gs, xs := xs, hot := d.hot, sc := defScope d.st, fl := none }
/-- defs by whether they take the held refusal -/
def coldN (ds : List Df) : List Str := (ds.filter fun d => !d.hot).map (·.nm)
def hotN (ds : List Df) : List Str := (ds.filter fun d => d.hot).map (·.nm)
def nodupB : List Str → Bool
  | [] => true
  | x :: xs => !xs.contains x && nodupB xs
theorem nodupB_ok : ∀ {l : List Str}, nodupB l = true → l.Nodup
  | [], _ => List.nodup_nil
  | x :: xs, h => by
    simp only [nodupB, Bool.and_eq_true, Bool.not_eq_true', List.contains_eq_mem, decide_eq_false_iff_not] at h
    exact List.nodup_cons.mpr ⟨h.1, nodupB_ok h.2⟩
def kindF : ScopeKind → Bool
  | .function => true
  | _ => false
def freeK : NameKind → Bool
  | .free => true
  | _ => false
def locK : Option NameKind → Bool
  | some .local => true
  | some .cell => true
  | _ => false
/-- a def's scope -/
def scB (d : Df) : Bool := kindF (defScope d.st).kind && !(defScope d.st).isCoroutine && !(defScope d.st).isGenerator && nodupB d.fd.N && decide (d.fd.np ≤ d.fd.N.length) &&
  (d.ps.all fun x => locK ((defScope d.st).names.lookup x)) && (defScope d.st).names.all fun y => !freeK y.2
theorem scB_ok {d : Df} (h : scB d = true) : FnScope d.fd.N d.ps (defScope d.st) := by
  unfold scB at h
  simp only [Bool.and_eq_true, Bool.not_eq_true', decide_eq_true_eq, List.all_eq_true] at h
  obtain ⟨⟨⟨⟨⟨⟨h1, h2⟩, h3⟩, h4⟩, h5⟩, h6⟩, h7⟩ := h
  refine ⟨?_, h2, h3, nodupB_ok h4, ?_, fun x hx => ?_, fun y hy e => ?_⟩
  · cases q : (defScope d.st).kind <;> rw [q] at h1 <;> first | rfl | cases h1
  · unfold Df.ps
    rw [List.length_take, Nat.min_eq_left h5]
  · have := h6 x hx
    unfold locK at this
    split at this
    · exact .inl (by assumption)
    · exact .inr (by assumption)
    · cases this
  · have := h7 y hy
    rw [e] at this
    cases this
def dfB (fs hs gs xs : List Str) (d : Df) : Bool := scB d && (!d.hot || decide (d.fd.np = 1)) && chkSs (d.cfg fs hs gs xs) d.fd.body (defBody d.st)
/-- arguments by their places -/
def BindOk (d : Df) : Prop := ∀ (kV doc pm : Value) (an : Option Addr) (cdv ct : Value) (us : List Value), us.length = d.ps.length → bindArgs (PySem.W.fnOf d.nm d.nm (defArgs d.st) (defBody d.st) (defScope d.st) .none kV doc pm an cdv ct) ⟨us, []⟩ = pure (d.ps.zip us)
abbrev FnP (K : Fg) (d : Df) (fd : FuncData) : Prop := FunD K d.nm d.nm (defArgs d.st) (defBody d.st) (defScope d.st) [] [] (He.ga K d.nm) fd
/-- what the module's top has left -/
structure Top (K : Fg) (mg : Str → Option Value) (ds : List Df) (gs xs : List Str) (gc : List (Str × D)) (sub : Str → Str → Bool) : Prop where
  free : ∀ b ∈ bnames, mg b = none
  ve : ∀ x ∈ xs, sub x "ValueError" = true
  ek : ∀ x ∈ xs, ExcC K (He.ga K x) ∧ PySem.W.kitOne K (.ref (He.ga K x)) (.type "ValueError") = some true ∧ ∀ y ∈ xs, PySem.W.kitOne K (.ref (He.ga K x)) (.ref (He.ga K y)) = some (sub x y) ∧ PySem.W.exmOne K (.ref (He.ga K x)) (.ref (He.ga K y)) = some (sub x y)
  gs : ∀ x ∈ gs, ∃ d u v, gc.lookup x = some d ∧ mg x = some u ∧ RelV v u ∧ (∀ F, Dv K F v d) ∧ ∀ ds, d = .tuple ds → tyT K v
  xs : ∀ x ∈ xs, mg x = some (.ref (He.ga K x)) ∧ PySem.W.excIn K (He.ga K x) He.veBase "ValueError.__new__" = true ∧ PySem.W.keepIn K (.ref (He.ga K x)) = true ∧
    PySem.W.subIn K (.ref (He.ga K x)) (.type "BaseException") = some true ∧ PySem.W.typeIn K (.ref (He.ga K x)) = some (.type "type")
  fn : ∀ d ∈ ds, mg d.nm = some (.ref (He.ga K d.nm)) ∧ ∃ fd, FnP K d fd
def ftOf (ds : List Df) : FT := ds.map fun d => (d.nm, d.fd)
theorem ft_lookup : ∀ {ds : List Df} {d : Df}, nodupB (ds.map (·.nm)) = true → d ∈ ds → (ftOf ds).lookup d.nm = some d.fd
  | e :: ds, d, h, hm => by
    simp only [List.map_cons, nodupB, Bool.and_eq_true, Bool.not_eq_true', List.contains_eq_mem, decide_eq_false_iff_not] at h
    show ((e.nm, e.fd) :: ftOf ds).lookup d.nm = _
    rcases List.mem_cons.mp hm with rfl | hm
    · simp
    · have ne : d.nm ≠ e.nm := fun z => h.1 (by rw [← z]; exact List.mem_map_of_mem hm)
      rw [List.lookup_cons, beq_eq_false_iff_ne.mpr ne]
      exact ft_lookup h.2 hm
theorem cvN_gc {T : FT} {gc : List (Str × D)} {sub : Str → Str → Bool} {xs : List Str} : ∀ k, (cvN T gc sub xs k).gc = gc
  | 0 => rfl
  | _ + 1 => rfl
theorem cvN_sub {T : FT} {gc : List (Str × D)} {sub : Str → Str → Bool} {xs : List Str} : ∀ k, (cvN T gc sub xs k).sub = sub
  | 0 => rfl
  | _ + 1 => rfl
theorem cvN_xs {T : FT} {gc : List (Str × D)} {sub : Str → Str → Bool} {xs : List Str} : ∀ k, (cvN T gc sub xs k).xs = xs
  | 0 => rfl
  | _ + 1 => rfl
def hx0 (P : Program) (w : World) : HX := ⟨fun _ _ => False, P, w⟩
theorem start_rep {P : Program} {w : World} {K : Fg} {F H : Hp} {N : List Str} (sm : Same F H) {vs : List V} {ds : List D} (hd : Dvs K F vs ds) : Rep (hx0 P w) K F H (start N vs) (startE N.length ds) := by
  have ln := hd.length
  have nown : ∀ j, ownd (startE N.length ds)[j]? = false := fun j => by
    unfold startE
    by_cases hj : j < (ds.map Sl.val).length
    · rw [List.getElem?_append_left hj, List.getElem?_map]
      cases ds[j]? <;> rfl
    · rw [List.getElem?_append_right (by omega), List.getElem?_replicate]
      split <;> rfl
  refine ⟨sm, ?_, fun i x e => ?_, fun i j e1 _ _ => by rw [nown] at e1; cases e1⟩
  · unfold L2.start startE
    simp [ln]
  · unfold startE at e
    unfold L2.start
    by_cases hi : i < ds.length
    · rw [List.getElem?_append_left (by simpa using hi), List.getElem?_map] at e
      obtain ⟨d, e1, e2⟩ := Option.map_eq_some_iff.mp e
      subst e2
      obtain ⟨v, e3, e4⟩ := hd.get e1
      refine ⟨v, ?_, e4⟩
      rw [List.getElem?_append_left (by simp; omega), List.getElem?_map, e3]
      rfl
    · rw [List.getElem?_append_right (by simp; omega), List.getElem?_replicate] at e
      split at e
      · cases e
        trivial
      · cases e
section
variable {P : Program} {w : World} {K : Fg} {mg : Str → Option Value} {base : Heap} {ds : List Df} {gs xs : List Str} {gc : List (Str × D)} {sub : Str → Str → Bool}
theorem fnOk_len {c : Str → List D → R D} {n : Nat} {f : Str} (hc : ∀ l, c f l ≠ .no → l.length = n) : ∀ vs H Q E, spF K c f vs H Q E → vs.length = n := fun vs H Q E ⟨F, ds, sm, dv, po⟩ => by
  rw [dv.length]
  refine hc ds fun z => ?_
  rw [z] at po
  exact po
/-- a def that takes the held refusal: the rule -/
theorem fnE_of {CX : CXT} {N ps : List Str} {k : Nat} {d : Df} {fd : FuncData} {sp : (Addr × Obj) → Sp} (Fp : FnP K d fd) (S : FnScope N ps (defScope d.st)) (len : ∀ p vs H Q E, sp p vs H Q E → vs.length = ps.length)
    (hbody : ∀ (cdv : Value) (A : Around) (outer : List Env) (s : Shared) (H : Hp) (vs : List V) (Q : VK) (E : XK) (p : Addr × Obj), L2H.Hot1 A p → L2H.RoomH k (A.deeper (envOfC d.nm (defScope d.st) s.heap.objs.size (He.ga K d.nm) cdv)) → sp p vs H Q E →
      ∃ t, PSs (L2H.cxH CX P w K mg base N d.nm (defScope d.st) (He.ga K d.nm) cdv A outer s H E p) (defBody d.st) t ∧ t { nx := fun _ H1 => Q .non H1, rt := Q } (L2.start N vs) H) :
    FnE P w K mg base CX (k + 1) (He.ga K d.nm) fd ps sp := by
  obtain ⟨oc, od, dV, kV, doc, pm, an, cdv, ct, osl, rfl, lk, hcd, _, _⟩ := Fp.ex
  refine ⟨len, fun A outer s H args us vs Q E p room hot1 hp1 e0 hbd rv hs1 => ?_⟩
  have hln := len _ _ _ _ _ hs1
  have kin : K.In s.heap := e0.mod.kin.keeps fun b o e => (e0.bs b o e).1
  have nolim : s.heap.NoLimit := e0.mod.nolimit.keeps fun b o e => (e0.bs b o e).1
  have kinds : ∀ y ∈ ps.zip us, (defScope d.st).names.lookup y.1 = some .local ∨ ((defScope d.st).names.lookup y.1 = some .cell ∧ ((cellsFrom (s.heap.objs.size + 1) (defScope d.st).names []).lookup y.1).isSome = true) := fun y hy => by
    obtain ⟨n, v⟩ := y
    rcases S.par n (List.of_mem_zip hy).1 with q | q
    · exact .inl q
    · exact .inr ⟨q, PySem.W.cellsFrom_some _ _ _ (.inl q)⟩
  refine codeAny_call_function room.depth (kin _ _ lk) rfl S.co S.gen rfl (PySem.W.codeRec_of kin hcd) (hbd _ _ _ _ ?_)
  refine wpAny_newFunctionEnv_cells S.kind kinds fun env he s1 x1 => ?_
  subst he
  refine ⟨nolim.keeps x1.toInCall.keep, codeAny_func ?_⟩
  obtain ⟨t, ht, hq⟩ := hbody cdv A outer s H vs Q E p hot1 (room.deeper _) hs1
  have I1 : L2.Inv (L2H.cxH CX P w K mg base N d.nm (defScope d.st) (He.ga K d.nm) cdv A outer s H E p) [] (L2.start N vs) H s1 := L2H.inv_startH S hp1 e0 hln rv x1
  refine wpAny_mono (ht.run [] s1 (L2.start N vs) H _ I1 hq) (fun fl s2 hs => ?_) fun e s2 hs => hs
  cases fl with
  | ret u =>
    obtain ⟨v, σ2, H2, J, r2, q2⟩ := hs
    exact ⟨v, H2, J.os, J.bare, J.base, J.hok, r2, q2⟩
  | next =>
    obtain ⟨σ2, H2, J, q2⟩ := hs
    exact ⟨.non, H2, J.os, J.bare, J.base, J.hok, rfl, q2⟩
  | brk =>
    obtain ⟨_, _, _, q2⟩ := hs
    exact q2.elim
  | cont =>
    obtain ⟨_, _, _, q2⟩ := hs
    exact q2.elim
theorem startX_rep {P : Program} {w : World} {K : Fg} {F H : Hp} {N : List Str} {a : Addr} {z : Str} (sm : Same F H) : Rep ⟨fun q y => q = a ∧ y = z, P, w⟩ K F H (L2.start N [.ref a]) (Sl.exc z :: List.replicate (N.length - 1) Sl.emp) := by
  have nown : ∀ j : Nat, ownd (Sl.exc z :: List.replicate (N.length - 1) Sl.emp)[j]? = false := fun j => by
    cases j with
    | zero => rfl
    | succ j =>
      rw [List.getElem?_cons_succ, List.getElem?_replicate]
      split <;> rfl
  refine ⟨sm, ?_, fun i x e => ?_, fun i j e1 _ _ => by rw [nown] at e1; cases e1⟩
  · unfold L2.start
    simp
  · cases i with
    | zero =>
      cases e
      exact ⟨a, rfl, rfl, rfl⟩
    | succ i =>
      rw [List.getElem?_cons_succ, List.getElem?_replicate] at e
      split at e
      · cases e
        trivial
      · cases e
theorem fnAll (hn : nodupB (ds.map (·.nm)) = true) (hchk : ∀ d ∈ ds, dfB (coldN ds) (hotN ds) gs xs d = true) (hb : ∀ d ∈ ds, BindOk d) (T : Top K mg ds gs xs gc sub) :
    ∀ (k : Nat) (d : Df) (fd : FuncData), d ∈ ds → FnP K d fd → (d.hot = false → FnOk P w K mg base (L2N.CX P w) k (He.ga K d.nm) fd d.ps (spF K (cvN (ftOf ds) gc sub xs k).cal d.nm)) ∧
      (d.hot = true → FnE P w K mg base (L2N.CX P w) k (He.ga K d.nm) fd d.ps (spE K xs (cvN (ftOf ds) gc sub xs k).calx d.nm))
  | 0, d, fd, hd, F => ⟨fun _ => ⟨fun vs H Q E ⟨_, _, _, _, po⟩ => po.elim, fun A outer s H args us vs Q E _ _ _ _ ⟨_, _, _, _, po⟩ => po.elim⟩, fun _ => ⟨fun p vs H Q E ⟨_, _, _, _, _, po⟩ => po.elim, fun A outer s H args us vs Q E p _ _ _ _ _ _ ⟨_, _, _, _, _, po⟩ => po.elim⟩⟩
  | k + 1, d, fd, hd, F => by
    obtain ⟨c12, c2⟩ := Bool.and_eq_true_iff.mp (hchk d hd)
    obtain ⟨c1, c3⟩ := Bool.and_eq_true_iff.mp c12
    have S := scB_ok c1
    have lk := ft_lookup hn hd
    have cal : ∀ l, (cvN (ftOf ds) gc sub xs (k + 1)).cal d.nm l = if l.length = d.fd.np then endR (exSs (cvN (ftOf ds) gc sub xs k) d.fd.body (startE d.fd.N.length l)) else .no := fun l => by
      show (match (ftOf ds).lookup d.nm with
        | some fd => if l.length = fd.np then endR (exSs (cvN (ftOf ds) gc sub xs k) fd.body (startE fd.N.length l)) else .no
        | none => .no) = _
      rw [lk]
    have calx : ∀ z, (cvN (ftOf ds) gc sub xs (k + 1)).calx d.nm z = if d.fd.np = 1 then endR (exSs (cvN (ftOf ds) gc sub xs k) d.fd.body (Sl.exc z :: List.replicate (d.fd.N.length - 1) Sl.emp)) else .no := fun z => by
      show (match (ftOf ds).lookup d.nm with
        | some fd => if fd.np = 1 then endR (exSs (cvN (ftOf ds) gc sub xs k) fd.body (Sl.exc z :: List.replicate (fd.N.length - 1) Sl.emp)) else .no
        | none => .no) = _
      rw [lk]
    have hps : d.ps.length = d.fd.np := by
      have := congrArg List.length S.pre
      have h5 : d.fd.np ≤ d.fd.N.length := by
        unfold scB at c1
        simp only [Bool.and_eq_true, decide_eq_true_eq] at c1
        exact c1.1.1.2
      show (d.fd.N.take d.fd.np).length = _
      rw [List.length_take, Nat.min_eq_left h5]
    have rec_ : ∀ f ∈ hotN ds, ∃ d' fd', d' ∈ ds ∧ f = d'.nm ∧ mg f = some (.ref (He.ga K d'.nm)) ∧ FnP K d' fd' ∧ FnE P w K mg base (L2N.CX P w) k (He.ga K d'.nm) fd' d'.ps (spE K xs (cvN (ftOf ds) gc sub xs k).calx f) := fun f hf => by
      obtain ⟨d', hd', rfl⟩ := List.mem_map.mp hf
      obtain ⟨m1, m2⟩ := List.mem_filter.mp hd'
      obtain ⟨g1, fd', F'⟩ := T.fn d' m1
      exact ⟨d', fd', m1, rfl, g1, F', (fnAll hn hchk hb T k d' fd' m1 F').2 m2⟩
    refine ⟨fun hh => F.ok S (fnOk_len fun l hl => ?_) fun cdv A outer s H vs Q E hr h => ?_, fun hh => fnE_of F S (fun p vs H Q E h => ?_) fun cdv A outer s H vs Q E p hot1 hr h => ?_⟩
    · rw [cal] at hl
      split at hl
      · rw [hps]; assumption
      · exact absurd rfl hl
    · obtain ⟨F0, l, sm, dv, po⟩ := h
      refine ⟨tSs (cvN (ftOf ds) gc sub xs k) (hx0 P w) K (fun cls d _ H => E cls d H) d.fd.body, ?_, ?_⟩
      · refine bSs (Γ := d.cfg (coldN ds) (hotN ds) gs xs) d.fd.body ⟨rfl, S.nd, rfl, ?_, fun _ => rfl, fun _ _ => rfl, fun _ f hf => ?_, fun _ _ _ z => z, cvN_xs k, ?_, ?_, fun z => ?_, fun f hf => ?_, T.free, ?_, T.xs, ?_, ⟨rfl, rfl⟩⟩ ⟨PassesOwn.leaving, rfl, rfl⟩ c2
        · have := hr.un
          show (A.deeper _).units + 70 < cLine
          omega
        · obtain ⟨d', hd', rfl⟩ := List.mem_map.mp hf
          obtain ⟨m1, m2⟩ := List.mem_filter.mp hd'
          obtain ⟨g1, fd', F'⟩ := T.fn d' m1
          exact ⟨k, _, fd', d'.ps, hr, g1, F'.kp, F'.bindsN (hb d' m1), (fnAll hn hchk hb T k d' fd' m1 F').1 (by simpa using m2)⟩
        · rw [cvN_sub]
          exact T.ve
        · rw [cvN_sub]
          exact T.ek
        · exact absurd (hh.symm.trans z) Bool.false_ne_true
        · obtain ⟨d', fd', m1, rfl, g1, F', e⟩ := rec_ f hf
          exact ⟨k, _, fd', d'.ps, L2H.roomH_of hr, g1, F'.kp, F'.bindsN (hb d' m1), e⟩
        · rw [cvN_gc]
          exact T.gs
        · exact L2N.takes_of rfl rfl rfl rfl
      · rw [cal] at po
        split at po
        · refine ⟨F0, H, F0, startE d.fd.N.length l, ⟨start_rep sm dv, Gr.refl sm, fun j a e1 e2 => ?_⟩, ?_⟩
          · have r := (start_rep (P := P) (w := w) (N := d.fd.N) sm dv)
            unfold startE at e1
            by_cases hj : j < (l.map Sl.val).length
            · rw [List.getElem?_append_left hj, List.getElem?_map] at e1
              cases q : l[j]? with
              | none => rw [q] at e1; cases e1
              | some _ => rw [q] at e1; cases e1
            · rw [List.getElem?_append_right (by omega), List.getElem?_replicate] at e1
              split at e1 <;> cases e1
          · exact fnEnd po
        · exact po.elim
    · obtain ⟨z, F0, rfl, _, _, po⟩ := h
      rw [calx] at po
      split at po
      · rw [hps]
        simp [*]
      · exact po.elim
    · obtain ⟨z, F0, rfl, ie, sm, po⟩ := h
      refine ⟨tSs (cvN (ftOf ds) gc sub xs k) ⟨fun q y => q = p.1 ∧ y = z, P, w⟩ K (fun cls d _ H => E cls d H) d.fd.body, ?_, ?_⟩
      · refine bSs (Γ := d.cfg (coldN ds) (hotN ds) gs xs) d.fd.body ⟨rfl, S.nd, rfl, ?_, fun y => ?_, fun _ _ => rfl, fun y => ?_, fun y => ?_, cvN_xs k, ?_, ?_, fun _ => ?_, fun f hf => ?_, T.free, ?_, T.xs, ?_, ⟨rfl, rfl⟩⟩ ⟨PassesOwn.leaving, rfl, rfl⟩ c2
        · have := hr.un
          show (A.deeper _).units + 70 < cLine
          omega
        · exact absurd (y.symm.trans hh) Bool.false_ne_true
        · exact absurd (y.symm.trans hh) Bool.false_ne_true
        · exact absurd (y.symm.trans hh) Bool.false_ne_true
        · rw [cvN_sub]
          exact T.ve
        · rw [cvN_sub]
          exact T.ek
        · exact ⟨p, z, hot1, List.mem_cons_self, ie, fun q y hq => hq⟩
        · obtain ⟨d', fd', m1, rfl, g1, F', e⟩ := rec_ f hf
          exact ⟨k, _, fd', d'.ps, hr, g1, F'.kp, F'.bindsN (hb d' m1), e⟩
        · rw [cvN_gc]
          exact T.gs
        · exact L2N.takes_of rfl rfl rfl rfl
      · rw [calx] at po
        split at po
        · refine ⟨F0, H, F0, _, ⟨startX_rep sm, Gr.refl sm, fun j a e1 e2 => ?_⟩, ?_⟩
          · cases j with
            | zero => cases e1
            | succ j =>
              rw [List.getElem?_cons_succ, List.getElem?_replicate] at e1
              split at e1 <;> cases e1
          · exact fnEnd po
        · exact po.elim
where
  fnEnd {hx : HX} {E : XK} {Q : VK} {F0 H : Hp} {r : Fl} (po : Po (fun cls d _ H' => E cls d H') K [] F0 H (endR r) fun d F' H' => ∀ v, Dv K F' v d → Q v H') : PoS hx (fun cls d _ H => E cls d H) K { nx := fun _ H' => Q .non H', rt := Q } F0 H F0 r := by
    cases r with
    | nx ρ => exact fun σ' F' H' rb _ => po F' H' rb.gr _ .non
    | rt r => exact fun v F' H' g dv => po F' H' g v dv
    | ex c ρ => exact fun σ' F' H' rb _ => po F' H' rb.gr
    | no => exact po
end
end Wq

end
section
set_option Elab.async false
set_option linter.all false
set_option autoImplicit false
set_option maxRecDepth 100000
set_option maxHeartbeats 4000000
/-! The head: what the module's top leaves, and a law's end. -/
namespace Wq
open PySem PySem.Spec PyProof.Rows L2
def Df.dd (d : Df) : He.DefD := ⟨(d.nm, none), d.nm, d.nm, defArgs d.st, defBody d.st, defScope d.st, [], []⟩
/-- no list stands in the written part -/
def noLst (K : Fg) : Bool := K.all fun p => match p.2.cls with
  | .type c => !(c == "list")
  | _ => true
def flatDv : D → Option He.Dv
  | .int i => some (.int i)
  | .str s => some (.str s)
  | _ => none
def flatDvs : List D → Option (List He.Dv)
  | [] => some []
  | x :: xs => (flatDv x).bind fun y => (flatDvs xs).map fun ys => y :: ys
def tyB (K : Fg) (x : Str) : Bool := match K.lookup (He.ga K x) with
  | some ⟨.type c, none, _, _⟩ => decide (c = "tuple")
  | _ => false
theorem tyB_ok {K : Fg} {x : Str} (h : tyB K x = true) : tyT K (.ref (He.ga K x)) := by
  unfold tyB at h
  split at h
  · rename_i c d s e
    exact ⟨_, _, rfl, e, congrArg Value.type (of_decide_eq_true h), rfl⟩
  · cases h
def gOk (K : Fg) (p : Str × D) : Bool := match p.2 with
  | .int i => (He.Fa.int p.1 i).ok K
  | .str z => (He.Fa.str p.1 z).ok K
  | .tuple ds => (match flatDvs ds with
    | some l => (He.Fa.glo p.1).ok K && (He.tupB K p.1 l && tyB K p.1)
    | none => false)
  | _ => false
/-- what the class of a refusal must say -/
def excB (K : Fg) (a : Addr) : Bool := decide (PySem.W.findIn K (.ref a) "__getattribute__" = some (some (.builtin "BaseException.__getattribute__"))) && decide (PySem.W.findIn K (.ref a) "__getattr__" = some none) &&
  decide (PySem.W.subIn K (.ref a) (.type "BaseException") = some true) && PySem.W.hasDictIn K a && decide (PySem.W.findIn K (.ref a) "__class__" = some (some (.builtin "object.__class__"))) &&
  decide (PySem.W.specialIn K (.builtin "object.__class__") "__get__" = some (some (.builtin "getset_descriptor.__get__"))) && decide (PySem.W.takesIn K (.builtin "object.__class__") = some true) && decide (PySem.W.mroIn K a (.type "object") = some true)
theorem excB_ok {K : Fg} {a : Addr} (h : excB K a = true) : ExcC K a := by
  unfold excB at h
  simp only [Bool.and_eq_true, decide_eq_true_eq] at h
  obtain ⟨⟨⟨⟨⟨⟨⟨h1, h2⟩, h3⟩, h4⟩, h5⟩, h6⟩, h7⟩, h8⟩ := h
  exact ⟨h1, h2, h3, h4, h5, h6, h7, h8⟩
/-- one refusal's class under another's, or not -/
def sub0 (x y : Str) : Bool := (x == y) || (y == ("SquareError" : Str)) || (y == ("ValueError" : Str))
def veB (K : Fg) (x : Str) : Bool := decide (PySem.W.kitOne K (.ref (He.ga K x)) (.type "ValueError") = some true)
def exB (K : Fg) (x y : Str) : Bool := decide (PySem.W.kitOne K (.ref (He.ga K x)) (.ref (He.ga K y)) = some (sub0 x y)) && decide (PySem.W.exmOne K (.ref (He.ga K x)) (.ref (He.ga K y)) = some (sub0 x y))
def okW (ds : List Df) (gc : List (Str × D)) (xs : List Str) (K : Fg) : Bool :=
  noLst K && (gc.all fun p => gOk K p) && (xs.all fun x => (He.Fa.glo x).ok K && (He.Fa.exc x).ok K) && (xs.all fun x => excB K (He.ga K x) && veB K x && xs.all fun y => exB K x y) &&
    (bnames.all fun b => (He.Fa.free b).ok K) && (ds.all fun d => (He.Fa.glo d.nm).ok K) && ds.all fun d => d.dd.ok K
def obsW (ds : List Df) (gc : List (Str × D)) (xs : List Str) (K : Fg) : He.AlD := (okW ds gc xs K, ds.map fun d => He.fnW K (d.nm, none))
def valW (ds : List Df) : He.AlD := (true, ds.map fun d => d.dd.val)
def obsWG (n : Nat) (ds : List Df) (gc : List (Str × D)) (xs : List Str) (g : Addr → Option Obj) : He.AlD := obsW ds gc xs (He.frG g (He.asD g n))
def hookW (n : Nat) (ds : List Df) (gc : List (Str × D)) (xs : List Str) : PySem.W.Hook where
  α := He.AlD
  obs := fun s => obsWG n ds gc xs s.heap.get?
  val := fun _ => valW ds
  says := fun _ h => ∃ K : PySem.W.Frag, K.In h ∧ obsW ds gc xs K = valW ds
  of := fun _ _ e => ⟨_, He.frG_in, e⟩
  keeps := fun _ _ _ ⟨K, hK, c⟩ k => ⟨K, PySem.W.Frag.In.keeps hK k, c⟩
theorem obsWG_eq {n : Nat} {ds : List Df} {gc : List (Str × D)} {xs : List Str} {g : Addr → Option Obj} {s : Shared} (h : ∀ a, g a = s.heap.get? a) : obsWG n ds gc xs g = (hookW n ds gc xs).obs s := by
  have e : g = s.heap.get? := funext h
  rw [e] <;> rfl
section
variable {K : Fg} {mg : Str → Option Value} {h : Heap} {ds : List Df} {gc : List (Str × D)} {xs : List Str}
theorem flat_ok : ∀ {l : List D} {r : List He.Dv}, flatDvs l = some r → ∀ F : Hp, Dvs K F (r.map (He.Dv.v K)) l
  | [], r, e, F => by
    cases e
    exact .nil
  | x :: l, r, e, F => by
    simp only [flatDvs, Option.bind_eq_some_iff, Option.map_eq_some_iff] at e
    obtain ⟨y, e1, ys, e2, rfl⟩ := e
    refine .cons ?_ (flat_ok e2 F)
    cases x with
    | int i => cases e1; exact .int i
    | str i => cases e1; exact .str i
    | _ => cases e1
theorem gc_ok (X : K.In h) (G : h.Ns mainGlobals mg) {x : Str} {d : D} (hg : gOk K (x, d) = true) : ∃ u v, mg x = some u ∧ RelV v u ∧ (∀ F, Dv K F v d) ∧ ∀ ds, d = .tuple ds → tyT K v := by
  unfold gOk at hg
  cases d with
  | int i =>
    obtain ⟨t, e⟩ := He.int_ok X G hg
    exact ⟨_, .int i, e, ⟨t, rfl⟩, fun _ => .int i, fun _ z => by cases z⟩
  | str i =>
    obtain ⟨t, e⟩ := He.str_ok X G hg
    exact ⟨_, .str i, e, ⟨t, rfl⟩, fun _ => .str i, fun _ z => by cases z⟩
  | tuple l =>
    have hg : (match flatDvs l with
      | some l => (He.Fa.glo x).ok K && (He.tupB K x l && tyB K x)
      | none => false) = true := hg
    cases q : flatDvs l with
    | none => rw [q] at hg; cases hg
    | some r =>
      rw [q] at hg
      obtain ⟨h1, h2⟩ := Bool.and_eq_true_iff.mp hg
      obtain ⟨h2, h3⟩ := Bool.and_eq_true_iff.mp h2
      exact ⟨_, .ref (He.ga K x), He.glo_ok X G h1, rfl, fun F => .tup (He.tupB_ok h2 F) (flat_ok q F), fun _ _ => tyB_ok h3⟩
  | _ => cases hg
theorem lookup_mem {α β : Type} [BEq α] [LawfulBEq α] {x : α} : ∀ {l : List (α × β)}, x ∈ l.map (·.1) → ∃ d, l.lookup x = some d ∧ (x, d) ∈ l
  | [], h => by cases h
  | (y, d) :: l, h => by
    by_cases e : x = y
    · subst e
      exact ⟨d, by simp, by simp⟩
    · rcases List.mem_cons.mp h with z | z
      · exact absurd z e
      · obtain ⟨d', h1, h2⟩ := lookup_mem z
        refine ⟨d', ?_, by simp [h2]⟩
        rw [List.lookup_cons, beq_eq_false_iff_ne.mpr e]
        exact h1
theorem top_of (X : K.In h) (G : h.Ns mainGlobals mg) (c : obsW ds gc xs K = valW ds) : Top K mg ds (gc.map (·.1)) xs gc sub0 ∧ noLst K = true := by
  have c1 : okW ds gc xs K = true := congrArg (·.1) c
  have c2 : ds.map (fun d => He.fnW K (d.nm, none)) = ds.map fun d => d.dd.val := congrArg (·.2) c
  unfold okW at c1
  simp only [Bool.and_eq_true, List.all_eq_true] at c1
  obtain ⟨⟨⟨⟨⟨⟨k1, k2⟩, k3⟩, k4⟩, k5⟩, k6⟩, k7⟩ := c1
  refine ⟨⟨fun b hb => He.free_ok X G (k5 b hb), fun x _ => ?_, fun x hx => ?_, fun x hx => ?_, fun x hx => ?_, fun d hd => ?_⟩, k1⟩
  · unfold sub0
    simp
  · obtain ⟨⟨h1, h2⟩, h3⟩ := k4 x hx
    refine ⟨excB_ok h1, of_decide_eq_true h2, fun y hy => ?_⟩
    obtain ⟨h4, h5⟩ := Bool.and_eq_true_iff.mp (h3 y hy)
    exact ⟨of_decide_eq_true h4, of_decide_eq_true h5⟩
  · obtain ⟨d, h1, h2⟩ := lookup_mem hx
    obtain ⟨u, v, g1, g2, g3, g4⟩ := gc_ok X G (k2 _ h2)
    exact ⟨d, u, v, h1, g1, g2, g3, g4⟩
  · obtain ⟨h1, h2⟩ := k3 x hx
    obtain ⟨e1, e2, e3, e4⟩ := He.exc_ok h2
    exact ⟨He.glo_ok X G h1, e1, e2, e3, e4⟩
  · refine ⟨He.glo_ok X G (k6 d hd), ?_⟩
    have e : He.fnW K (d.nm, none) = d.dd.val := by
      obtain ⟨i, hi⟩ := List.getElem?_of_mem hd
      have := congrArg (·[i]?) c2
      simp only [List.getElem?_map, hi, Option.map_some, Option.some.injEq] at this
      exact this
    exact He.DefD.funD (d := d.dd) e (k7 d hd)
end
/-- the script as data -/
def scr (ns : List Int) : D := .list (ns.map .int)
theorem dvs_ints {K : Fg} {F : Hp} : ∀ ns : List Int, Dvs K F (ns.map V.int) (ns.map PyData.int)
  | [] => .nil
  | n :: ns => .cons (.int n) (dvs_ints ns)
theorem mem_of_look {β : Type} {a : Addr} {o : β} : ∀ {l : List (Addr × β)}, l.lookup a = some o → (a, o) ∈ l
  | [], e => by cases e
  | (b, u) :: l, e => by
    rw [List.lookup_cons] at e
    split at e
    · rename_i hb
      cases e
      rw [eq_of_beq hb]
      simp
    · exact List.mem_cons_of_mem _ (mem_of_look e)
theorem noLst_no {K : Fg} {a : Addr} {o : Obj} (h : noLst K = true) (e : K.lookup a = some o) : o.cls ≠ .type "list" := fun z => by
  have := List.all_eq_true.mp h (a, o) (mem_of_look e)
  simp only [z] at this
  cases this
/-- what a law's proof has to show: at each script it evaluates to True -/
theorem law_sp {K : Fg} {c : Str → List D → R D} (hn : noLst K = true) (hl : ∀ ns : List Int, ns.length ≤ 63 → c "law" [scr ns] = .ok (.bool true)) (H : Hp) (a : Addr) (ns : List Int) (hlen : ns.length ≤ 63) (hS : SqL K H a (ns.map V.int)) :
    spF K c "law" [.ref a] H (fun v _ => v = .bl true) fun _ _ _ => False := by
  have sm : Same H H := fun _ _ z => z
  refine ⟨H, [scr ns], sm, .cons (.lst ?_ (dvs_ints ns)) .nil, ?_⟩
  · rcases hS with r | ⟨o, its, n, e, hc, _⟩
    · exact r
    · exact absurd hc (noLst_no hn e)
  · rw [hl ns hlen]
    intro F' H' _ v dv
    cases dv
    rfl
theorem fn0 {P : Program} {w : World} {K : Fg} {mg : Str → Option Value} {base : Heap} {k : Nat} {f : Addr} {fd : FuncData} {ps : List Str} {sp : Sp} (F : FnOk P w K mg base (L2N.CX P w) k f fd ps sp) :
    FnOk P w K mg base CX0 k f fd ps (fun vs H Q _ => sp vs H Q fun _ _ _ => False) := by
  refine ⟨fun vs H Q E h => F.len vs H Q _ h, fun A outer s H args us vs Q E hr e0 hb rv h => codeAny_mono (F.run A outer s H args us vs Q _ hr e0 hb rv h) fun r s' q => ?_⟩
  cases r with
  | ok fl =>
    cases fl with
    | ret u => exact q
    | _ => exact q
  | error e =>
    obtain ⟨_, _, _, _, _, _, _, _, _, _, _, _, z⟩ := q
    exact z.elim
/-- a law's end -/
theorem law_of {l : PySem.W.OpenLaw} {q : Program} {loose : List Str} {XP : (Str → Option Value) → Heap → Prop} {d : DefRec} {n lv : Nat} {ds : List Df} {gc : List (Str × D)} {xs : List Str} {dl : Df}
    (hm : l.most = some 63) (hdf : d.params.defaults = []) (hr : Room lv callerA) (hd : d.name = ("law" : Str)) (hdl : dl ∈ ds) (hcold : dl.hot = false) (hnm : dl.nm = ("law" : Str)) (hps : dl.ps = [("script" : Str)])
    (hn : nodupB (ds.map (·.nm)) = true) (hchk : ∀ d ∈ ds, dfB (coldN ds) (hotN ds) (gc.map (·.1)) xs d = true) (hb : ∀ d ∈ ds, BindOk d)
    (hl : ∀ ns : List Int, ns.length ≤ 63 → (cvN (ftOf ds) gc sub0 xs lv).cal "law" [scr ns] = .ok (.bool true)) :
    PySem.W.WalkO q loose XP (hookW n ds gc xs).says l.row.toRowW d [] (fun f vs => PySem.call f vs) := by
  refine L2.walk_ofE (l := l) (n := 63) (k := lv) (x := "script") (CX := CX0) hm (by rw [sizeLine_eq]; decide) hdf hr ?_ (fun _ _ _ _ z => z)
  intro w mg fa h Y G hmg
  obtain ⟨K, KX, c⟩ := Y
  obtain ⟨T, nl⟩ := top_of KX G c
  obtain ⟨g1, fd, F⟩ := T.fn dl hdl
  rw [hd] at hmg
  rw [hnm] at g1
  have e := hmg.symm.trans g1
  cases e
  have bA : ∀ (s : Shared) (us : List Value) (hl : us.length = dl.ps.length), BindsTo s fd ⟨us, []⟩ (dl.ps.zip us) := FunD.bindsA F (hb dl hdl)
  refine ⟨K, fd, fun vs H Q _ => spF K (cvN (ftOf ds) gc sub0 xs lv).cal "law" vs H Q fun _ _ _ => False, KX, fun s u => ?_, fun H a ns hlen _ hS => law_sp nl hl H a ns hlen hS, fun base _ _ => ?_⟩
  · have := bA s [u] (by rw [hps]; rfl)
    rw [hps] at this
    exact this
  · have := fn0 ((fnAll (P := l.prog) (w := w) (base := base) (sub := sub0) hn hchk hb T lv dl fd hdl F).1 hcold)
    rw [hps, hnm] at this
    exact this
end Wq

end
section
set_option Elab.async false
set_option linter.all false
set_option autoImplicit false
set_option maxRecDepth 100000
set_option maxHeartbeats 0
namespace Wq.P
open PySem Wq
variable {c : Cv}
def x__law_square_B1 : MSs := (.cons (.asg (.nm 8) (.bin .add (.bin .add (.var 1) (.int 3)) (.bin .mul (.int 2) (.var 7)))) (.cons (.asg (.nm 9) (.tup (.cons (.bin .add (.var 5) (.call "_law_drawn" (.cons (.var 0) (.cons (.var 8) (.cons (.var 4) .nil))))) (.cons (.bin .sub (.bin .add (.call "_law_drawn" (.cons (.var 0) (.cons (.bin .add (.var 8) (.int 1)) (.cons (.var 4) .nil)))) (.int 2)) (.var 5)) .nil)))) (.cons (.asg (.nm 6) (.bin .add (.var 6) (.bin .mul (.lst (.cons (.var 9) .nil)) (.bi .int (.cons (.and (.cons (.cmp .notin (.var 9) (.var 6)) (.cons (.cmp .lt (.bi .len (.cons (.var 6) .nil)) (.var 3)) .nil))) .nil))))) (.cons (.fgt [7, 8, 9]) .nil))))
def x__law_square_L1 : MS := .for_ (.nm 7) (.rng (.bin .mul (.int 4) (.var 3))) x__law_square_B1
def x__law_square_C1 : ME := .lc (.var 12) (.nm 12) (.rng (.bi .len (.cons (.var 6) .nil))) (.some (.cmp .eq (.call "_law_drawn" (.cons (.var 0) (.cons (.bin .add (.bin .add (.var 1) (.int 61)) (.var 12)) (.cons (.var 10) .nil)))) (.int 0))) [12]
def f__law_square : Fd := ⟨3, ["script", "at", "most", "many", "wide", "shift", "spots", "k", "here", "spot", "rare", "diodes", "key"], (.cons (.asg (.nm 3) (.bin .add (.int 1) (.call "_law_drawn" (.cons (.var 0) (.cons (.var 1) (.cons (.var 2) .nil)))))) (.cons (.asg (.nm 4) (.bin .add (.int 2) (.call "_law_drawn" (.cons (.var 0) (.cons (.bin .add (.var 1) (.int 1)) (.cons (.int 2) .nil)))))) (.cons (.asg (.nm 5) (.call "_law_drawn" (.cons (.var 0) (.cons (.bin .add (.var 1) (.int 2)) (.cons (.int 3) .nil))))) (.cons (.asg (.nm 6) (.lst .nil)) (.cons x__law_square_L1 (.cons (.asg (.nm 10) (.idx (.lst (.cons (.int 2) (.cons (.int 4) (.cons (.int 9) .nil)))) (.call "_law_drawn" (.cons (.var 0) (.cons (.bin .add (.var 1) (.int 60)) (.cons (.int 3) .nil)))))) (.cons (.asg (.nm 11) x__law_square_C1) (.cons (.ret (.tup (.cons (.bi .tuple (.cons (.var 6) .nil)) (.cons (.bi .tuple (.cons (.var 11) .nil)) .nil)))) .nil))))))))⟩
def m__law_square_B1 (script : Sc) (at_ : Int) (many : Int) (wide : Int) (shift : Int) (k_ : Int) (s : (List (Int × Int))) : Ct (List (Int × Int)) ((List (Int × Int)) × (List Int)) := (R.ct ((R.ok ((at_ + (3 : Int)) + (2 * k_))) : R Int) fun here => (R.ct ((R.bd (R.bd (R.ok shift) fun x10 => (R.bd (R.bd (R.ok script) fun x7 => (R.bd (R.ok here) fun x8 => (R.bd (R.ok wide) fun x9 => (drawnR x7 x8 x9)))) fun x11 => (R.ok (x10 + x11)))) fun x19 => (R.bd (R.bd (R.bd (R.bd (R.ok script) fun x12 => (R.bd (R.ok (here + (1 : Int))) fun x13 => (R.bd (R.ok wide) fun x14 => (drawnR x12 x13 x14)))) fun x15 => (R.bd (R.ok (2 : Int)) fun x16 => (R.ok (x15 + x16)))) fun x17 => (R.bd (R.ok shift) fun x18 => (R.ok (x17 - x18)))) fun x20 => (R.ok (x19, x20)))) : R (Int × Int)) fun spot => (R.ct ((R.bd (R.ok s) fun x21 => (R.bd (R.ok (if ((!memT spot s) && (decide (((s).length : Int) < many))) then [spot] else [])) fun x22 => (catR x21 x22))) : R (List (Int × Int))) fun spots => (Ct.nx spots))))
def m__law_square_L1 (script : Sc) (at_ : Int) (many : Int) (wide : Int) (shift : Int) (s : (List (Int × Int))) : Ct (List (Int × Int)) ((List (Int × Int)) × (List Int)) := (R.ct ((R.bd (R.ok (4 * many)) fun x6 => (rngR 0 x6)) : R (List Int)) fun xs => forC (m__law_square_B1 script at_ many wide shift) xs s)
theorem W__law_square_L1 (h__law_drawn : S__law_drawn c)  (script : Sc) (at_ : Int) (many : Int) (wide : Int) (shift : Int) (z2 : Sl) (z10 : Sl) (z11 : Sl) (z12 : Sl) (s : (List (Int × Int))) : Lx (exS c x__law_square_L1 [.val (eSc script), .val (eI at_), z2, .val (eI many), .val (eI wide), .val (eI shift), .val ((eL (eP eI eI)) s), .emp, .emp, .emp, z10, z11, z12]).x ((m__law_square_L1 script at_ many wide shift s).fx (fun s => [.val (eSc script), .val (eI at_), z2, .val (eI many), .val (eI wide), .val (eI shift), .val ((eL (eP eI eI)) s), .emp, .emp, .emp, z10, z11, z12]) (eP (eT (eP eI eI)) (eT eI))) := by
  unfold m__law_square_L1
  refine s_for (E := fun s => [.val (eSc script), .val (eI at_), z2, .val (eI many), .val (eI wide), .val (eI shift), .val ((eL (eP eI eI)) s), .emp, .emp, .emp, z10, z11, z12]) (s := s) (xr := (R.bd (R.ok (4 * many)) fun x6 => (rngR 0 x6))) (g := eI) (B := (m__law_square_B1 script at_ many wide shift)) ?_ ?_
  · exact (i_rng (ra := (R.ok (4 * many)))  (t_mulL (rb := (R.ok many)) (n := 4) (by decide) (t_var (x := many) (g := eI) (by rfl))))
  intro k_ s
  show Lx (xK c x__law_square_B1 .nx _) ((m__law_square_B1 script at_ many wide shift k_ s).fx _ _)
  unfold m__law_square_B1
  refine k_asg (r := (R.ok ((at_ + (3 : Int)) + (2 * k_)))) (g := eI) ?_ fun here => ?_
  · exact (t_bin o_add (ra := (R.ok (at_ + (3 : Int)))) (rb := (R.ok (2 * k_)))  (t_bin o_add (ra := (R.ok at_)) (rb := (R.ok (3 : Int)))  (t_var (x := at_) (g := eI) (by rfl)) (t_int 3)) (t_mulL (rb := (R.ok k_)) (n := 2) (by decide) (t_var (x := k_) (g := eI) (by rfl))))
  refine k_asg (r := (R.bd (R.bd (R.ok shift) fun x10 => (R.bd (R.bd (R.ok script) fun x7 => (R.bd (R.ok here) fun x8 => (R.bd (R.ok wide) fun x9 => (drawnR x7 x8 x9)))) fun x11 => (R.ok (x10 + x11)))) fun x19 => (R.bd (R.bd (R.bd (R.bd (R.ok script) fun x12 => (R.bd (R.ok (here + (1 : Int))) fun x13 => (R.bd (R.ok wide) fun x14 => (drawnR x12 x13 x14)))) fun x15 => (R.bd (R.ok (2 : Int)) fun x16 => (R.ok (x15 + x16)))) fun x17 => (R.bd (R.ok shift) fun x18 => (R.ok (x17 - x18)))) fun x20 => (R.ok (x19, x20))))) (g := (eP eI eI)) ?_ fun spot => ?_
  · exact (t_tup2 (ra := (R.bd (R.ok shift) fun x10 => (R.bd (R.bd (R.ok script) fun x7 => (R.bd (R.ok here) fun x8 => (R.bd (R.ok wide) fun x9 => (drawnR x7 x8 x9)))) fun x11 => (R.ok (x10 + x11))))) (rb := (R.bd (R.bd (R.bd (R.ok script) fun x12 => (R.bd (R.ok (here + (1 : Int))) fun x13 => (R.bd (R.ok wide) fun x14 => (drawnR x12 x13 x14)))) fun x15 => (R.bd (R.ok (2 : Int)) fun x16 => (R.ok (x15 + x16)))) fun x17 => (R.bd (R.ok shift) fun x18 => (R.ok (x17 - x18))))) (g := eI) (h := eI) (t_bin o_add (ra := (R.ok shift)) (rb := (R.bd (R.ok script) fun x7 => (R.bd (R.ok here) fun x8 => (R.bd (R.ok wide) fun x9 => (drawnR x7 x8 x9)))))  (t_var (x := shift) (g := eI) (by rfl)) (t_call3 (ra := (R.ok script)) (rb := (R.ok here)) (rd := (R.ok wide)) (g := eSc) (h := eI) (l := eI) (k := eI) (fun x0 x1 x2 => Lr.of (h__law_drawn x0 x1 x2)) (t_var (x := script) (g := eSc) (by rfl)) (t_var (x := here) (g := eI) (by rfl)) (t_var (x := wide) (g := eI) (by rfl)))) (t_bin o_sub (ra := (R.bd (R.bd (R.ok script) fun x12 => (R.bd (R.ok (here + (1 : Int))) fun x13 => (R.bd (R.ok wide) fun x14 => (drawnR x12 x13 x14)))) fun x15 => (R.bd (R.ok (2 : Int)) fun x16 => (R.ok (x15 + x16))))) (rb := (R.ok shift))  (t_bin o_add (ra := (R.bd (R.ok script) fun x12 => (R.bd (R.ok (here + (1 : Int))) fun x13 => (R.bd (R.ok wide) fun x14 => (drawnR x12 x13 x14))))) (rb := (R.ok (2 : Int)))  (t_call3 (ra := (R.ok script)) (rb := (R.ok (here + (1 : Int)))) (rd := (R.ok wide)) (g := eSc) (h := eI) (l := eI) (k := eI) (fun x0 x1 x2 => Lr.of (h__law_drawn x0 x1 x2)) (t_var (x := script) (g := eSc) (by rfl)) (t_bin o_add (ra := (R.ok here)) (rb := (R.ok (1 : Int)))  (t_var (x := here) (g := eI) (by rfl)) (t_int 1)) (t_var (x := wide) (g := eI) (by rfl))) (t_int 2)) (t_var (x := shift) (g := eI) (by rfl))))
  refine k_asg (r := (R.bd (R.ok s) fun x21 => (R.bd (R.ok (if ((!memT spot s) && (decide (((s).length : Int) < many))) then [spot] else [])) fun x22 => (catR x21 x22)))) (g := (eL (eP eI eI))) ?_ fun spots => ?_
  · exact (t_bin (o_catL (eP eI eI)) (ra := (R.ok s)) (rb := (R.ok (if ((!memT spot s) && (decide (((s).length : Int) < many))) then [spot] else [])))  (t_var (x := s) (g := (eL (eP eI eI))) (by rfl)) (t_rep1 (ra := (R.ok spot)) (rb := (R.ok ((!memT spot s) && (decide (((s).length : Int) < many))))) (g := (eP eI eI)) (t_var (x := spot) (g := (eP eI eI)) (by rfl)) (t_and (ra := (R.ok ((!memT spot s) && (decide (((s).length : Int) < many))))) (and_P (x := (!memT spot s)) (y := (decide (((s).length : Int) < many))) (t_cmp (o_niL (eP eI eI) (by decide)) (ra := (R.ok spot)) (rb := (R.ok s))  (t_var (x := spot) (g := (eP eI eI)) (by rfl)) (t_var (x := s) (g := (eL (eP eI eI))) (by rfl))) (and_one (ra := (R.ok (decide (((s).length : Int) < many)))) (t_cmp o_lt (ra := (R.ok ((s).length : Int))) (rb := (R.ok many))  (t_bi1 (o_lenL (eP eI eI)) (ra := (R.ok s))  (t_var (x := s) (g := (eL (eP eI eI))) (by rfl))) (t_var (x := many) (g := eI) (by rfl))))))))
  refine k_fgt ?_
  exact k_end rfl
def m__law_square (script : Sc) (at_ : Int) (most : Int) : R ((List (Int × Int)) × (List Int)) := Ct.run (R.ct ((R.bd (R.ok (1 : Int)) fun x4 => (R.bd (R.bd (R.ok script) fun x1 => (R.bd (R.ok at_) fun x2 => (R.bd (R.ok most) fun x3 => (drawnR x1 x2 x3)))) fun x5 => (R.ok (x4 + x5)))) : R Int) fun many => (R.ct ((R.ok ((2 : Int) + (drawn script (at_ + (1 : Int)) 2))) : R Int) fun wide => (R.ct ((R.ok (drawn script (at_ + (2 : Int)) 3)) : R Int) fun shift => (R.ct ((R.ok ([] : List (Int × Int))) : R (List (Int × Int))) fun spots => (Ct.bind (m__law_square_L1 script at_ many wide shift spots) fun s23 => (R.ct ((R.bd (R.ok ((2 : Int) :: ((4 : Int) :: ((9 : Int) :: ([] : List Int))))) fun x24 => (R.bd (R.ok (drawn script (at_ + (60 : Int)) 3)) fun x25 => (ixR x24 x25))) : R Int) fun rare => (R.ct ((R.bd (R.bd (R.ok ((s23).length : Int)) fun x26 => (rngR 0 x26)) fun x32 => (lcR (fun (key : Int) => (R.bd (R.bd (R.bd (R.ok script) fun x27 => (R.bd (R.ok ((at_ + (61 : Int)) + key)) fun x28 => (R.bd (R.ok rare) fun x29 => (drawnR x27 x28 x29)))) fun x30 => (R.bd (R.ok (0 : Int)) fun x31 => (R.ok (decide (x30 = x31))))) fun b => if b then (R.mp (R.ok key) some) else (R.ok none))) x32)) : R (List Int)) fun diodes => (R.ct ((R.ok (s23, diodes)) : R ((List (Int × Int)) × (List Int))) Ct.rt))))))))
def S__law_square (c : Cv) : Prop := ∀ (script : Sc) (at_ : Int) (most : Int), Lr (c.cal "_law_square" [eSc script, eI at_, eI most]) ((m__law_square script at_ most).mp (eP (eT (eP eI eI)) (eT eI)))
theorem W__law_square (h__law_drawn : S__law_drawn c)  (script : Sc) (at_ : Int) (most : Int) : Lr (endR (exSs c f__law_square.body (startE f__law_square.N.length [eSc script, eI at_, eI most]))) ((m__law_square script at_ most).mp (eP (eT (eP eI eI)) (eT eI))) := by
  unfold m__law_square
  refine f_end ?_
  show Lx (xK c f__law_square.body .nx [.val (eSc script), .val (eI at_), .val (eI most), .emp, .emp, .emp, .emp, .emp, .emp, .emp, .emp, .emp, .emp]) _
  refine k_asg (r := (R.bd (R.ok (1 : Int)) fun x4 => (R.bd (R.bd (R.ok script) fun x1 => (R.bd (R.ok at_) fun x2 => (R.bd (R.ok most) fun x3 => (drawnR x1 x2 x3)))) fun x5 => (R.ok (x4 + x5))))) (g := eI) ?_ fun many => ?_
  · exact (t_bin o_add (ra := (R.ok (1 : Int))) (rb := (R.bd (R.ok script) fun x1 => (R.bd (R.ok at_) fun x2 => (R.bd (R.ok most) fun x3 => (drawnR x1 x2 x3)))))  (t_int 1) (t_call3 (ra := (R.ok script)) (rb := (R.ok at_)) (rd := (R.ok most)) (g := eSc) (h := eI) (l := eI) (k := eI) (fun x0 x1 x2 => Lr.of (h__law_drawn x0 x1 x2)) (t_var (x := script) (g := eSc) (by rfl)) (t_var (x := at_) (g := eI) (by rfl)) (t_var (x := most) (g := eI) (by rfl))))
  refine k_asg (r := (R.ok ((2 : Int) + (drawn script (at_ + (1 : Int)) 2)))) (g := eI) ?_ fun wide => ?_
  · exact (t_bin o_add (ra := (R.ok (2 : Int))) (rb := (R.ok (drawn script (at_ + (1 : Int)) 2)))  (t_int 2) (t_drawnL (ra := (R.ok script)) (rb := (R.ok (at_ + (1 : Int)))) h__law_drawn (n := (2 : Int)) (by decide) (t_var (x := script) (g := eSc) (by rfl)) (t_bin o_add (ra := (R.ok at_)) (rb := (R.ok (1 : Int)))  (t_var (x := at_) (g := eI) (by rfl)) (t_int 1))))
  refine k_asg (r := (R.ok (drawn script (at_ + (2 : Int)) 3))) (g := eI) ?_ fun shift => ?_
  · exact (t_drawnL (ra := (R.ok script)) (rb := (R.ok (at_ + (2 : Int)))) h__law_drawn (n := (3 : Int)) (by decide) (t_var (x := script) (g := eSc) (by rfl)) (t_bin o_add (ra := (R.ok at_)) (rb := (R.ok (2 : Int)))  (t_var (x := at_) (g := eI) (by rfl)) (t_int 2)))
  refine k_asg (r := (R.ok ([] : List (Int × Int)))) (g := (eL (eP eI eI))) ?_ fun spots => ?_
  · exact (t_lst (rs := (R.ok ([] : List (Int × Int)))) (g := (eP eI eI)) (es_nil (g := (eP eI eI))))
  refine k_stm (P := (m__law_square_L1 script at_ many wide shift spots)) (W__law_square_L1 h__law_drawn  script at_ many wide shift _ _ _ _ spots) fun s23 => ?_
  refine k_asg (r := (R.bd (R.ok ((2 : Int) :: ((4 : Int) :: ((9 : Int) :: ([] : List Int))))) fun x24 => (R.bd (R.ok (drawn script (at_ + (60 : Int)) 3)) fun x25 => (ixR x24 x25)))) (g := eI) ?_ fun rare => ?_
  · exact (t_idx (o_ixL eI) (ra := (R.ok ((2 : Int) :: ((4 : Int) :: ((9 : Int) :: ([] : List Int)))))) (rb := (R.ok (drawn script (at_ + (60 : Int)) 3)))  (t_lst (rs := (R.ok ((2 : Int) :: ((4 : Int) :: ((9 : Int) :: ([] : List Int)))))) (g := eI) (es_cons (ra := (R.ok (2 : Int))) (rs := (R.ok ((4 : Int) :: ((9 : Int) :: ([] : List Int))))) (g := eI) (t_int 2) (es_cons (ra := (R.ok (4 : Int))) (rs := (R.ok ((9 : Int) :: ([] : List Int)))) (g := eI) (t_int 4) (es_cons (ra := (R.ok (9 : Int))) (rs := (R.ok ([] : List Int))) (g := eI) (t_int 9) (es_nil (g := eI)))))) (t_drawnL (ra := (R.ok script)) (rb := (R.ok (at_ + (60 : Int)))) h__law_drawn (n := (3 : Int)) (by decide) (t_var (x := script) (g := eSc) (by rfl)) (t_bin o_add (ra := (R.ok at_)) (rb := (R.ok (60 : Int)))  (t_var (x := at_) (g := eI) (by rfl)) (t_int 60))))
  refine k_asg (r := (R.bd (R.bd (R.ok ((s23).length : Int)) fun x26 => (rngR 0 x26)) fun x32 => (lcR (fun (key : Int) => (R.bd (R.bd (R.bd (R.ok script) fun x27 => (R.bd (R.ok ((at_ + (61 : Int)) + key)) fun x28 => (R.bd (R.ok rare) fun x29 => (drawnR x27 x28 x29)))) fun x30 => (R.bd (R.ok (0 : Int)) fun x31 => (R.ok (decide (x30 = x31))))) fun b => if b then (R.mp (R.ok key) some) else (R.ok none))) x32))) (g := (eL eI)) ?_ fun diodes => ?_
  · exact (lc_nm (xr := (R.bd (R.ok ((s23).length : Int)) fun x26 => (rngR 0 x26))) (g := eI) (h := eI) (fc := fun key => (R.bd (R.bd (R.ok script) fun x27 => (R.bd (R.ok ((at_ + (61 : Int)) + key)) fun x28 => (R.bd (R.ok rare) fun x29 => (drawnR x27 x28 x29)))) fun x30 => (R.bd (R.ok (0 : Int)) fun x31 => (R.ok (decide (x30 = x31)))))) (fe := fun key => (R.ok key)) (i_rng (ra := (R.ok ((s23).length : Int)))  (t_bi1 (o_lenL (eP eI eI)) (ra := (R.ok s23))  (t_var (x := s23) (g := (eL (eP eI eI))) (by rfl)))) (fun key => c_some (rb := (R.bd (R.bd (R.ok script) fun x27 => (R.bd (R.ok ((at_ + (61 : Int)) + key)) fun x28 => (R.bd (R.ok rare) fun x29 => (drawnR x27 x28 x29)))) fun x30 => (R.bd (R.ok (0 : Int)) fun x31 => (R.ok (decide (x30 = x31)))))) (t_cmp (o_eq eI (by decide)) (ra := (R.bd (R.ok script) fun x27 => (R.bd (R.ok ((at_ + (61 : Int)) + key)) fun x28 => (R.bd (R.ok rare) fun x29 => (drawnR x27 x28 x29))))) (rb := (R.ok (0 : Int)))  (t_call3 (ra := (R.ok script)) (rb := (R.ok ((at_ + (61 : Int)) + key))) (rd := (R.ok rare)) (g := eSc) (h := eI) (l := eI) (k := eI) (fun x0 x1 x2 => Lr.of (h__law_drawn x0 x1 x2)) (t_var (x := script) (g := eSc) (by rfl)) (t_bin o_add (ra := (R.ok (at_ + (61 : Int)))) (rb := (R.ok key))  (t_bin o_add (ra := (R.ok at_)) (rb := (R.ok (61 : Int)))  (t_var (x := at_) (g := eI) (by rfl)) (t_int 61)) (t_var (x := key) (g := eI) (by rfl))) (t_var (x := rare) (g := eI) (by rfl))) (t_int 0))) (fun key => (t_var (x := key) (g := eI) (by rfl))))
  refine k_ret (r := (R.ok (s23, diodes))) ?_
  exact (t_tup2 (ra := (R.ok s23)) (rb := (R.ok diodes)) (g := (eT (eP eI eI))) (h := (eT eI)) (t_bi1 (o_TL (eP eI eI)) (ra := (R.ok s23))  (t_var (x := s23) (g := (eL (eP eI eI))) (by rfl))) (t_bi1 (o_TL eI) (ra := (R.ok diodes))  (t_var (x := diodes) (g := (eL eI)) (by rfl))))
def x__law_set_C1 : ME := .lc (.var 3) (.nm 3) (.rng (.var 2)) (.some (.cmp .gt (.call "_law_drawn" (.cons (.var 0) (.cons (.bin .add (.var 1) (.var 3)) (.cons (.int 3) .nil)))) (.int 0))) [3]
def f__law_set : Fd := ⟨3, ["script", "at", "many", "key"], (.cons (.ret (.bi .tuple (.cons x__law_set_C1 .nil))) .nil)⟩
def m__law_set (script : Sc) (at_ : Int) (many : Int) : R (List Int) := Ct.run (R.ct ((R.bd (R.bd (R.bd (R.ok many) fun x1 => (rngR 0 x1)) fun x2 => (R.ok (List.filter (fun (key : Int) => (decide ((0 : Int) < (drawn script (at_ + key) 3)))) x2))) fun x3 => (R.ok x3)) : R (List Int)) Ct.rt)
def S__law_set (c : Cv) : Prop := ∀ (script : Sc) (at_ : Int) (many : Int), Lr (c.cal "_law_set" [eSc script, eI at_, eI many]) ((m__law_set script at_ many).mp (eT eI))
theorem W__law_set (h__law_drawn : S__law_drawn c)  (script : Sc) (at_ : Int) (many : Int) : Lr (endR (exSs c f__law_set.body (startE f__law_set.N.length [eSc script, eI at_, eI many]))) ((m__law_set script at_ many).mp (eT eI)) := by
  unfold m__law_set
  refine f_end ?_
  show Lx (xK c f__law_set.body .nx [.val (eSc script), .val (eI at_), .val (eI many), .emp]) _
  refine k_ret (r := (R.bd (R.bd (R.bd (R.ok many) fun x1 => (rngR 0 x1)) fun x2 => (R.ok (List.filter (fun (key : Int) => (decide ((0 : Int) < (drawn script (at_ + key) 3)))) x2))) fun x3 => (R.ok x3))) ?_
  exact (t_bi1 (o_TL eI) (ra := (R.bd (R.bd (R.ok many) fun x1 => (rngR 0 x1)) fun x2 => (R.ok (List.filter (fun (key : Int) => (decide ((0 : Int) < (drawn script (at_ + key) 3)))) x2))))  (lc_nmI (xr := (R.bd (R.ok many) fun x1 => (rngR 0 x1))) (g := eI) (p := fun key => (decide ((0 : Int) < (drawn script (at_ + key) 3)))) (i_rng (ra := (R.ok many))  (t_var (x := many) (g := eI) (by rfl))) (fun key => c_some (rb := (R.ok (decide ((0 : Int) < (drawn script (at_ + key) 3))))) (t_cmp o_gt (ra := (R.ok (drawn script (at_ + key) 3))) (rb := (R.ok (0 : Int)))  (t_drawnL (ra := (R.ok script)) (rb := (R.ok (at_ + key))) h__law_drawn (n := (3 : Int)) (by decide) (t_var (x := script) (g := eSc) (by rfl)) (t_bin o_add (ra := (R.ok at_)) (rb := (R.ok key))  (t_var (x := at_) (g := eI) (by rfl)) (t_var (x := key) (g := eI) (by rfl)))) (t_int 0))) (fun key => (t_var (x := key) (g := eI) (by rfl)))))
def x__law_wish_C1 : ME := .lc (.call "_law_set" (.cons (.var 0) (.cons (.bin .add (.bin .add (.var 1) (.int 1)) (.bin .mul (.int 7) (.var 5))) (.cons (.var 2) .nil)))) (.nm 5) (.rng (.call "_law_drawn" (.cons (.var 0) (.cons (.var 1) (.cons (.bin .add (.var 3) (.int 1)) .nil))))) .none [5]
def f__law_wish : Fd := ⟨4, ["script", "at", "many", "most", "some", "k"], (.cons (.asg (.nm 4) x__law_wish_C1) (.cons (.ret (.bi .tuple (.cons (.sortset (.var 4)) .nil))) .nil))⟩
def m__law_wish (script : Sc) (at_ : Int) (many : Int) (most : Int) : R (List (List Int)) := Ct.run (R.ct ((R.bd (R.bd (R.bd (R.ok script) fun x1 => (R.bd (R.ok at_) fun x2 => (R.bd (R.ok (most + (1 : Int))) fun x3 => (drawnR x1 x2 x3)))) fun x4 => (rngR 0 x4)) fun x8 => (lcR (fun (k_ : Int) => (R.bd (R.ok true) fun b => if b then (R.mp (R.bd (R.ok script) fun x5 => (R.bd (R.ok ((at_ + (1 : Int)) + (7 * k_))) fun x6 => (R.bd (R.ok many) fun x7 => (m__law_set x5 x6 x7)))) some) else (R.ok none))) x8)) : R (List (List Int))) fun some_ => (R.ct ((R.bd (R.bd (R.ok some_) fun x9 => (R.mp (setR 64 x9) srtT)) fun x10 => (R.ok x10)) : R (List (List Int))) Ct.rt))
def S__law_wish (c : Cv) : Prop := ∀ (script : Sc) (at_ : Int) (many : Int) (most : Int), Lr (c.cal "_law_wish" [eSc script, eI at_, eI many, eI most]) ((m__law_wish script at_ many most).mp (eT (eT eI)))
theorem W__law_wish (h__law_drawn : S__law_drawn c) (h__law_set : S__law_set c)  (script : Sc) (at_ : Int) (many : Int) (most : Int) : Lr (endR (exSs c f__law_wish.body (startE f__law_wish.N.length [eSc script, eI at_, eI many, eI most]))) ((m__law_wish script at_ many most).mp (eT (eT eI))) := by
  unfold m__law_wish
  refine f_end ?_
  show Lx (xK c f__law_wish.body .nx [.val (eSc script), .val (eI at_), .val (eI many), .val (eI most), .emp, .emp]) _
  refine k_asg (r := (R.bd (R.bd (R.bd (R.ok script) fun x1 => (R.bd (R.ok at_) fun x2 => (R.bd (R.ok (most + (1 : Int))) fun x3 => (drawnR x1 x2 x3)))) fun x4 => (rngR 0 x4)) fun x8 => (lcR (fun (k_ : Int) => (R.bd (R.ok true) fun b => if b then (R.mp (R.bd (R.ok script) fun x5 => (R.bd (R.ok ((at_ + (1 : Int)) + (7 * k_))) fun x6 => (R.bd (R.ok many) fun x7 => (m__law_set x5 x6 x7)))) some) else (R.ok none))) x8))) (g := (eL (eT eI))) ?_ fun some_ => ?_
  · exact (lc_nm (xr := (R.bd (R.bd (R.ok script) fun x1 => (R.bd (R.ok at_) fun x2 => (R.bd (R.ok (most + (1 : Int))) fun x3 => (drawnR x1 x2 x3)))) fun x4 => (rngR 0 x4))) (g := eI) (h := (eT eI)) (fc := fun k_ => (R.ok true)) (fe := fun k_ => (R.bd (R.ok script) fun x5 => (R.bd (R.ok ((at_ + (1 : Int)) + (7 * k_))) fun x6 => (R.bd (R.ok many) fun x7 => (m__law_set x5 x6 x7))))) (i_rng (ra := (R.bd (R.ok script) fun x1 => (R.bd (R.ok at_) fun x2 => (R.bd (R.ok (most + (1 : Int))) fun x3 => (drawnR x1 x2 x3)))))  (t_call3 (ra := (R.ok script)) (rb := (R.ok at_)) (rd := (R.ok (most + (1 : Int)))) (g := eSc) (h := eI) (l := eI) (k := eI) (fun x0 x1 x2 => Lr.of (h__law_drawn x0 x1 x2)) (t_var (x := script) (g := eSc) (by rfl)) (t_var (x := at_) (g := eI) (by rfl)) (t_bin o_add (ra := (R.ok most)) (rb := (R.ok (1 : Int)))  (t_var (x := most) (g := eI) (by rfl)) (t_int 1)))) (fun k_ => c_none) (fun k_ => (t_call3 (ra := (R.ok script)) (rb := (R.ok ((at_ + (1 : Int)) + (7 * k_)))) (rd := (R.ok many)) (g := eSc) (h := eI) (l := eI) (k := (eT eI)) h__law_set (t_var (x := script) (g := eSc) (by rfl)) (t_bin o_add (ra := (R.ok (at_ + (1 : Int)))) (rb := (R.ok (7 * k_)))  (t_bin o_add (ra := (R.ok at_)) (rb := (R.ok (1 : Int)))  (t_var (x := at_) (g := eI) (by rfl)) (t_int 1)) (t_mulL (rb := (R.ok k_)) (n := 7) (by decide) (t_var (x := k_) (g := eI) (by rfl)))) (t_var (x := many) (g := eI) (by rfl)))))
  refine k_ret (r := (R.bd (R.bd (R.ok some_) fun x9 => (R.mp (setR 64 x9) srtT)) fun x10 => (R.ok x10))) ?_
  exact (t_bi1 (o_TL (eT eI)) (ra := (R.bd (R.ok some_) fun x9 => (R.mp (setR 64 x9) srtT)))  (t_ssetL (ra := (R.ok some_)) (g := (eT eI)) (by decide) (t_var (x := some_) (g := (eL (eT eI))) (by rfl))))
end Wq.P

end
section
set_option Elab.async false
set_option linter.all false
set_option autoImplicit false
set_option maxRecDepth 100000
set_option maxHeartbeats 0
namespace Wq.P
open PySem Wq
variable {c : Cv}
def x_square_text_B1 : MSs := (.cons (.app 1 (.bin .add (.bin .add (.idx (.glo "ROWS") (.idx (.var 3) (.int 0))) (.idx (.glo "COLUMNS") (.idx (.var 3) (.int 1)))) (.ife (.cmp .isin (.var 2) (.idx (.var 0) (.int 1))) (.str "*") (.str "")))) (.cons (.fgt [2, 3]) .nil))
def x_square_text_L1 : MS := .for_ (.tp [2, 3]) (.enum (.idx (.var 0) (.int 0))) x_square_text_B1
def f_square_text : Fd := ⟨1, ["square", "found", "key", "spot"], (.cons (.exp (.call "need_square" (.cons (.var 0) .nil))) (.cons (.asgL 1 .nil) (.cons x_square_text_L1 (.cons (.ret (.mt .join (.str " ") (.cons (.peek 1) .nil))) .nil))))⟩
def m_square_text_B1 (square : ((List (Int × Int)) × (List Int))) (key : Int) (spot : (Int × Int)) (s : (List Str)) : Ct (List Str) Str := (R.ct ((R.bd (R.bd (R.bd (R.ok ("abcdef" : Str)) fun x2 => (R.bd (R.ok (spot).1) fun x3 => (ixS x2 x3))) fun x6 => (R.bd (R.bd (R.ok ("123456" : Str)) fun x4 => (R.bd (R.ok (spot).2) fun x5 => (ixS x4 x5))) fun x7 => (addS x6 x7))) fun x8 => (R.bd (R.ok (if (memT key (square).2) then ("*" : Str) else ("" : Str))) fun x9 => (addS x8 x9))) : R Str) fun y11 => (R.ct (appR s [y11]) fun found_10 => (Ct.nx found_10)))
def m_square_text_L1 (square : ((List (Int × Int)) × (List Int))) (s : (List Str)) : Ct (List Str) Str := (R.ct ((R.ok (enT 0 (square).1)) : R (List (Int × (Int × Int)))) fun xs => forC (fun p s => m_square_text_B1 square p.1 p.2 s) xs s)
theorem W_square_text_L1 (h_need_square : S_need_square c) (g_ROWS : c.gc.lookup ("ROWS" : Str) = some (PyData.str "abcdef")) (g_COLUMNS : c.gc.lookup ("COLUMNS" : Str) = some (PyData.str "123456")) (square : ((List (Int × Int)) × (List Int)))  (s : (List Str)) : Lx (exS c x_square_text_L1 [.val ((eP (eT (eP eI eI)) (eT eI)) square), .own (List.map eS s), .emp, .emp]).x ((m_square_text_L1 square s).fx (fun s => [.val ((eP (eT (eP eI eI)) (eT eI)) square), .own (List.map eS s), .emp, .emp]) eS) := by
  unfold m_square_text_L1
  refine s_for (E := fun s => [.val ((eP (eT (eP eI eI)) (eT eI)) square), .own (List.map eS s), .emp, .emp]) (s := s) (xr := (R.ok (enT 0 (square).1))) (g := (eP eI (eP eI eI))) (B := (fun p s => m_square_text_B1 square p.1 p.2 s)) ?_ ?_
  · exact (i_enT (ra := (R.ok (square).1)) (g := (eP eI eI)) (t_fst (ra := (R.ok square)) (g := (eT (eP eI eI))) (h := (eT eI)) (t_var (x := square) (g := (eP (eT (eP eI eI)) (eT eI))) (by rfl))))
  rintro ⟨key, spot⟩ s
  show Lx (xK c x_square_text_B1 .nx _) ((m_square_text_B1 square key spot s).fx _ _)
  unfold m_square_text_B1
  refine k_app (r := (R.bd (R.bd (R.bd (R.ok ("abcdef" : Str)) fun x2 => (R.bd (R.ok (spot).1) fun x3 => (ixS x2 x3))) fun x6 => (R.bd (R.bd (R.ok ("123456" : Str)) fun x4 => (R.bd (R.ok (spot).2) fun x5 => (ixS x4 x5))) fun x7 => (addS x6 x7))) fun x8 => (R.bd (R.ok (if (memT key (square).2) then ("*" : Str) else ("" : Str))) fun x9 => (addS x8 x9)))) (g := eS) (xs := s) rfl ?_ fun found_10 => ?_
  · exact (t_bin o_addS (ra := (R.bd (R.bd (R.ok ("abcdef" : Str)) fun x2 => (R.bd (R.ok (spot).1) fun x3 => (ixS x2 x3))) fun x6 => (R.bd (R.bd (R.ok ("123456" : Str)) fun x4 => (R.bd (R.ok (spot).2) fun x5 => (ixS x4 x5))) fun x7 => (addS x6 x7)))) (rb := (R.ok (if (memT key (square).2) then ("*" : Str) else ("" : Str))))  (t_bin o_addS (ra := (R.bd (R.ok ("abcdef" : Str)) fun x2 => (R.bd (R.ok (spot).1) fun x3 => (ixS x2 x3)))) (rb := (R.bd (R.ok ("123456" : Str)) fun x4 => (R.bd (R.ok (spot).2) fun x5 => (ixS x4 x5))))  (t_idx o_ixS (ra := (R.ok ("abcdef" : Str))) (rb := (R.ok (spot).1))  (t_glo (x := ("abcdef" : Str)) (g := eS) g_ROWS) (t_fst (ra := (R.ok spot)) (g := eI) (h := eI) (t_var (x := spot) (g := (eP eI eI)) (by rfl)))) (t_idx o_ixS (ra := (R.ok ("123456" : Str))) (rb := (R.ok (spot).2))  (t_glo (x := ("123456" : Str)) (g := eS) g_COLUMNS) (t_snd (ra := (R.ok spot)) (g := eI) (h := eI) (t_var (x := spot) (g := (eP eI eI)) (by rfl))))) (t_ifP (k := (memT key (square).2)) (x := ("*" : Str)) (y := ("" : Str)) (g := eS) (t_cmp (o_inT eI (by decide)) (ra := (R.ok key)) (rb := (R.ok (square).2))  (t_var (x := key) (g := eI) (by rfl)) (t_snd (ra := (R.ok square)) (g := (eT (eP eI eI))) (h := (eT eI)) (t_var (x := square) (g := (eP (eT (eP eI eI)) (eT eI))) (by rfl)))) (t_str "*") (t_str "")))
  refine k_fgt ?_
  exact k_end rfl
def m_square_text (square : ((List (Int × Int)) × (List Int))) : R Str := Ct.run (R.ct ((R.bd (R.ok ((eP (eT (eP eI eI)) (eT eI)) square)) fun x1 => (needSq x1)) : R Unit) fun _ => (R.ct ((R.ok ([] : List Str)) : R (List Str)) fun found => (Ct.bind (m_square_text_L1 square found) fun s12 => (R.ct ((R.bd (R.ok (" " : Str)) fun x13 => (R.bd (R.ok s12) fun x14 => (joiR x13 x14))) : R Str) Ct.rt))))
def S_square_text (c : Cv) : Prop := ∀ (square : ((List (Int × Int)) × (List Int))), Lr (c.cal "square_text" [(eP (eT (eP eI eI)) (eT eI)) square]) ((m_square_text square).mp eS)
theorem W_square_text (h_need_square : S_need_square c) (g_ROWS : c.gc.lookup ("ROWS" : Str) = some (PyData.str "abcdef")) (g_COLUMNS : c.gc.lookup ("COLUMNS" : Str) = some (PyData.str "123456")) (square : ((List (Int × Int)) × (List Int))) : Lr (endR (exSs c f_square_text.body (startE f_square_text.N.length [(eP (eT (eP eI eI)) (eT eI)) square]))) ((m_square_text square).mp eS) := by
  unfold m_square_text
  refine f_end ?_
  show Lx (xK c f_square_text.body .nx [.val ((eP (eT (eP eI eI)) (eT eI)) square), .emp, .emp, .emp]) _
  refine k_exp (r := (R.bd (R.ok ((eP (eT (eP eI eI)) (eT eI)) square)) fun x1 => (needSq x1))) (g := eU) ?_ ?_
  · exact (t_call1 (ra := (R.ok ((eP (eT (eP eI eI)) (eT eI)) square))) (g := eD) (k := eU) (fun x0 => Lr.of (h_need_square x0)) (t_toD (ra := (R.ok square)) (g := (eP (eT (eP eI eI)) (eT eI))) (t_var (x := square) (g := (eP (eT (eP eI eI)) (eT eI))) (by rfl))))
  refine k_asgL (r := (R.ok ([] : List Str))) (g := eS) ?_ fun found => ?_
  · exact (es_nil (g := eS))
  refine k_stm (P := (m_square_text_L1 square found)) (W_square_text_L1 h_need_square g_ROWS g_COLUMNS square  found) fun s12 => ?_
  refine k_ret (r := (R.bd (R.ok (" " : Str)) fun x13 => (R.bd (R.ok s12) fun x14 => (joiR x13 x14)))) ?_
  exact (t_mt1 (m := .join) (fun _ => rfl) o_joi (ra := (R.ok (" " : Str))) (rb := (R.ok s12))  (t_str " ") (t_peek (xs := s12) (g := eS) (by rfl)))
def m_square_text_D_B1 (square : D) (key : Int) (spot : (Int × Int)) (s : (List Str)) : Ct (List Str) Str := (R.ct ((R.bd (R.bd (R.bd (R.ok ("abcdef" : Str)) fun x4 => (R.bd (R.ok (spot).1) fun x5 => (ixS x4 x5))) fun x8 => (R.bd (R.bd (R.ok ("123456" : Str)) fun x6 => (R.bd (R.ok (spot).2) fun x7 => (ixS x6 x7))) fun x9 => (addS x8 x9))) fun x14 => (R.bd (R.bd (R.bd (R.ok key) fun x11 => (R.bd (R.bd (R.bd (R.ok square) fun z => (deR (dPr (dTl (dPr dI dI)) (dTl dI)) z)) fun x10 => (R.ok (x10).2)) fun x12 => (R.ok (memT x11 x12)))) fun b13 => (if b13 then (R.ok ("*" : Str)) else (R.ok ("" : Str)))) fun x15 => (addS x14 x15))) : R Str) fun y17 => (R.ct (appR s [y17]) fun found_16 => (Ct.nx found_16)))
def m_square_text_D_L1 (square : D) (s : (List Str)) : Ct (List Str) Str := (R.ct ((R.bd (R.bd (R.bd (R.ok square) fun z => (deR (dPr (dTl (dPr dI dI)) (dTl dI)) z)) fun x2 => (R.ok (x2).1)) fun x3 => (R.ok (enT 0 x3))) : R (List (Int × (Int × Int)))) fun xs => forC (fun p s => m_square_text_D_B1 square p.1 p.2 s) xs s)
theorem W_square_text_D_L1 (h_need_square : S_need_square c) (g_ROWS : c.gc.lookup ("ROWS" : Str) = some (PyData.str "abcdef")) (g_COLUMNS : c.gc.lookup ("COLUMNS" : Str) = some (PyData.str "123456")) (square : D)  (s : (List Str)) : Lx (exS c x_square_text_L1 [.val (eD square), .own (List.map eS s), .emp, .emp]).x ((m_square_text_D_L1 square s).fx (fun s => [.val (eD square), .own (List.map eS s), .emp, .emp]) eS) := by
  unfold m_square_text_D_L1
  refine s_for (E := fun s => [.val (eD square), .own (List.map eS s), .emp, .emp]) (s := s) (xr := (R.bd (R.bd (R.bd (R.ok square) fun z => (deR (dPr (dTl (dPr dI dI)) (dTl dI)) z)) fun x2 => (R.ok (x2).1)) fun x3 => (R.ok (enT 0 x3)))) (g := (eP eI (eP eI eI))) (B := (fun p s => m_square_text_D_B1 square p.1 p.2 s)) ?_ ?_
  · exact (i_enT (ra := (R.bd (R.bd (R.ok square) fun z => (deR (dPr (dTl (dPr dI dI)) (dTl dI)) z)) fun x2 => (R.ok (x2).1))) (g := (eP eI eI)) (t_fst (ra := (R.bd (R.ok square) fun z => (deR (dPr (dTl (dPr dI dI)) (dTl dI)) z))) (g := (eT (eP eI eI))) (h := (eT eI)) (t_dec (ra := (R.ok square)) (g := (eP (eT (eP eI eI)) (eT eI))) (dec := (dPr (dTl (dPr dI dI)) (dTl dI))) (dPr_ok (dTl_ok (dPr_ok dI_ok dI_ok)) (dTl_ok dI_ok)) (t_var (x := square) (g := eD) (by rfl)))))
  rintro ⟨key, spot⟩ s
  show Lx (xK c x_square_text_B1 .nx _) ((m_square_text_D_B1 square key spot s).fx _ _)
  unfold m_square_text_D_B1
  refine k_app (r := (R.bd (R.bd (R.bd (R.ok ("abcdef" : Str)) fun x4 => (R.bd (R.ok (spot).1) fun x5 => (ixS x4 x5))) fun x8 => (R.bd (R.bd (R.ok ("123456" : Str)) fun x6 => (R.bd (R.ok (spot).2) fun x7 => (ixS x6 x7))) fun x9 => (addS x8 x9))) fun x14 => (R.bd (R.bd (R.bd (R.ok key) fun x11 => (R.bd (R.bd (R.bd (R.ok square) fun z => (deR (dPr (dTl (dPr dI dI)) (dTl dI)) z)) fun x10 => (R.ok (x10).2)) fun x12 => (R.ok (memT x11 x12)))) fun b13 => (if b13 then (R.ok ("*" : Str)) else (R.ok ("" : Str)))) fun x15 => (addS x14 x15)))) (g := eS) (xs := s) rfl ?_ fun found_16 => ?_
  · exact (t_bin o_addS (ra := (R.bd (R.bd (R.ok ("abcdef" : Str)) fun x4 => (R.bd (R.ok (spot).1) fun x5 => (ixS x4 x5))) fun x8 => (R.bd (R.bd (R.ok ("123456" : Str)) fun x6 => (R.bd (R.ok (spot).2) fun x7 => (ixS x6 x7))) fun x9 => (addS x8 x9)))) (rb := (R.bd (R.bd (R.ok key) fun x11 => (R.bd (R.bd (R.bd (R.ok square) fun z => (deR (dPr (dTl (dPr dI dI)) (dTl dI)) z)) fun x10 => (R.ok (x10).2)) fun x12 => (R.ok (memT x11 x12)))) fun b13 => (if b13 then (R.ok ("*" : Str)) else (R.ok ("" : Str)))))  (t_bin o_addS (ra := (R.bd (R.ok ("abcdef" : Str)) fun x4 => (R.bd (R.ok (spot).1) fun x5 => (ixS x4 x5)))) (rb := (R.bd (R.ok ("123456" : Str)) fun x6 => (R.bd (R.ok (spot).2) fun x7 => (ixS x6 x7))))  (t_idx o_ixS (ra := (R.ok ("abcdef" : Str))) (rb := (R.ok (spot).1))  (t_glo (x := ("abcdef" : Str)) (g := eS) g_ROWS) (t_fst (ra := (R.ok spot)) (g := eI) (h := eI) (t_var (x := spot) (g := (eP eI eI)) (by rfl)))) (t_idx o_ixS (ra := (R.ok ("123456" : Str))) (rb := (R.ok (spot).2))  (t_glo (x := ("123456" : Str)) (g := eS) g_COLUMNS) (t_snd (ra := (R.ok spot)) (g := eI) (h := eI) (t_var (x := spot) (g := (eP eI eI)) (by rfl))))) (t_ifR (rt := (R.bd (R.ok key) fun x11 => (R.bd (R.bd (R.bd (R.ok square) fun z => (deR (dPr (dTl (dPr dI dI)) (dTl dI)) z)) fun x10 => (R.ok (x10).2)) fun x12 => (R.ok (memT x11 x12))))) (rx := (R.ok ("*" : Str))) (ry := (R.ok ("" : Str))) (g := eS) (t_cmp (o_inT eI (by decide)) (ra := (R.ok key)) (rb := (R.bd (R.bd (R.ok square) fun z => (deR (dPr (dTl (dPr dI dI)) (dTl dI)) z)) fun x10 => (R.ok (x10).2)))  (t_var (x := key) (g := eI) (by rfl)) (t_snd (ra := (R.bd (R.ok square) fun z => (deR (dPr (dTl (dPr dI dI)) (dTl dI)) z))) (g := (eT (eP eI eI))) (h := (eT eI)) (t_dec (ra := (R.ok square)) (g := (eP (eT (eP eI eI)) (eT eI))) (dec := (dPr (dTl (dPr dI dI)) (dTl dI))) (dPr_ok (dTl_ok (dPr_ok dI_ok dI_ok)) (dTl_ok dI_ok)) (t_var (x := square) (g := eD) (by rfl))))) (t_str "*") (t_str "")))
  refine k_fgt ?_
  exact k_end rfl
def m_square_text_D (square : D) : R Str := Ct.run (R.ct ((R.bd (R.ok square) fun x1 => (needSq x1)) : R Unit) fun _ => (R.ct ((R.ok ([] : List Str)) : R (List Str)) fun found => (Ct.bind (m_square_text_D_L1 square found) fun s18 => (R.ct ((R.bd (R.ok (" " : Str)) fun x19 => (R.bd (R.ok s18) fun x20 => (joiR x19 x20))) : R Str) Ct.rt))))
def S_square_text_D (c : Cv) : Prop := ∀ (square : D), Lr (c.cal "square_text" [eD square]) ((m_square_text_D square).mp eS)
theorem W_square_text_D (h_need_square : S_need_square c) (g_ROWS : c.gc.lookup ("ROWS" : Str) = some (PyData.str "abcdef")) (g_COLUMNS : c.gc.lookup ("COLUMNS" : Str) = some (PyData.str "123456")) (square : D) : Lr (endR (exSs c f_square_text.body (startE f_square_text.N.length [eD square]))) ((m_square_text_D square).mp eS) := by
  unfold m_square_text_D
  refine f_end ?_
  show Lx (xK c f_square_text.body .nx [.val (eD square), .emp, .emp, .emp]) _
  refine k_exp (r := (R.bd (R.ok square) fun x1 => (needSq x1))) (g := eU) ?_ ?_
  · exact (t_call1 (ra := (R.ok square)) (g := eD) (k := eU) (fun x0 => Lr.of (h_need_square x0)) (t_var (x := square) (g := eD) (by rfl)))
  refine k_asgL (r := (R.ok ([] : List Str))) (g := eS) ?_ fun found => ?_
  · exact (es_nil (g := eS))
  refine k_stm (P := (m_square_text_D_L1 square found)) (W_square_text_D_L1 h_need_square g_ROWS g_COLUMNS square  found) fun s18 => ?_
  refine k_ret (r := (R.bd (R.ok (" " : Str)) fun x19 => (R.bd (R.ok s18) fun x20 => (joiR x19 x20)))) ?_
  exact (t_mt1 (m := .join) (fun _ => rfl) o_joi (ra := (R.ok (" " : Str))) (rb := (R.ok s18))  (t_str " ") (t_peek (xs := s18) (g := eS) (by rfl)))
def x_read_square_B1 : MSs := (.cons (.ifs (.or (.cons (.cmp .notin (.bi .len (.cons (.var 4) .nil)) (.tup (.cons (.int 2) (.cons (.int 3) .nil)))) (.cons (.cmp .notin (.idx (.var 4) (.int 0)) (.glo "ROWS")) (.cons (.cmp .notin (.idx (.var 4) (.int 1)) (.glo "COLUMNS")) (.cons (.cmp .notin (.sl (.var 4) (.some (.int 2)) .none) (.tup (.cons (.str "") (.cons (.str "*") .nil)))) .nil))))) (.cons (.rais "NoText") .nil) .nil) (.cons (.app 1 (.tup (.cons (.mt .sindex (.glo "ROWS") (.cons (.idx (.var 4) (.int 0)) .nil)) (.cons (.mt .sindex (.glo "COLUMNS") (.cons (.idx (.var 4) (.int 1)) .nil)) .nil)))) (.cons (.ifs (.cmp .eq (.sl (.var 4) (.some (.int 2)) .none) (.str "*")) (.cons (.app 2 (.var 3)) .nil) .nil) (.cons (.fgt [3, 4]) .nil))))
def x_read_square_L1 : MS := .for_ (.tp [3, 4]) (.enum (.mt .split (.var 0) (.cons (.str " ") .nil))) x_read_square_B1
def f_read_square : Fd := ⟨1, ["text", "spots", "diodes", "key", "word", "found"], (.cons (.asgL 1 .nil) (.cons (.asgL 2 .nil) (.cons x_read_square_L1 (.cons (.asg (.nm 5) (.tup (.cons (.bi .tuple (.cons (.peek 1) .nil)) (.cons (.bi .tuple (.cons (.peek 2) .nil)) .nil)))) (.cons (.ifs (.not (.call "is_square" (.cons (.var 5) .nil))) (.cons (.rais "NoText") .nil) .nil) (.cons (.ret (.var 5)) .nil))))))⟩
def m_read_square_B1 (text : Str) (key : Int) (word : Str) (s : ((List (Int × Int)) × (List Int))) : Ct ((List (Int × Int)) × (List Int)) ((List (Int × Int)) × (List Int)) := (R.ct ((R.bd (R.bd (R.bd (R.ok word) fun x4 => (lenS x4)) fun x5 => (R.bd (R.ok ((2 : Int) :: ((3 : Int) :: ([] : List Int)))) fun x6 => (R.ok (!memT x5 x6)))) fun b26 => (if b26 then (R.ok true) else (R.bd (R.bd (R.bd (R.ok word) fun x9 => (R.bd (R.ok (0 : Int)) fun x10 => (ixS x9 x10))) fun x11 => (R.bd (R.ok ("abcdef" : Str)) fun x12 => (R.ok (!isSub x11 x12)))) fun b25 => (if b25 then (R.ok true) else (R.bd (R.bd (R.bd (R.ok word) fun x15 => (R.bd (R.ok (1 : Int)) fun x16 => (ixS x15 x16))) fun x17 => (R.bd (R.ok ("123456" : Str)) fun x18 => (R.ok (!isSub x17 x18)))) fun b24 => (if b24 then (R.ok true) else (R.bd (R.bd (R.bd (R.ok word) fun x19 => (R.bd (R.ok (some (2 : Int))) fun x20 => (R.bd (R.ok none) fun x21 => (slS x19 x20 x21)))) fun x => (R.ok (eS x))) fun x22 => (R.bd (R.ok ((eT eS) (("" : Str) :: (("*" : Str) :: ([] : List Str))))) fun x23 => (niD x22 x23))))))))) : R Bool) fun b47 => if b47 then (Ct.ex "NoText") else (R.ct ((R.bd (R.bd (R.ok ("abcdef" : Str)) fun x29 => (R.bd (R.bd (R.ok word) fun x27 => (R.bd (R.ok (0 : Int)) fun x28 => (ixS x27 x28))) fun x30 => (sixR x29 x30))) fun x35 => (R.bd (R.bd (R.ok ("123456" : Str)) fun x33 => (R.bd (R.bd (R.ok word) fun x31 => (R.bd (R.ok (1 : Int)) fun x32 => (ixS x31 x32))) fun x34 => (sixR x33 x34))) fun x36 => (R.ok (x35, x36)))) : R (Int × Int)) fun y46 => (R.ct (appR s.1 [y46]) fun spots_37 => (R.ct ((R.bd (R.bd (R.bd (R.ok word) fun x38 => (R.bd (R.ok (some (2 : Int))) fun x39 => (R.bd (R.ok none) fun x40 => (slS x38 x39 x40)))) fun x => (R.ok (eS x))) fun x41 => (R.bd (R.ok (eS ("*" : Str))) fun x42 => (eqD x41 x42))) : R Bool) fun b45 => if b45 then (R.ct ((R.ok key) : R Int) fun y44 => (R.ct (appR s.2 [y44]) fun diodes_43 => (Ct.nx (spots_37, diodes_43)))) else (Ct.nx (spots_37, s.2))))))
def m_read_square_L1 (text : Str) (s : ((List (Int × Int)) × (List Int))) : Ct ((List (Int × Int)) × (List Int)) ((List (Int × Int)) × (List Int)) := (R.ct ((R.bd (R.bd (R.ok text) fun x1 => (R.bd (R.ok (" " : Str)) fun x2 => (splR x1 x2))) fun x3 => (R.ok (enT 0 x3))) : R (List (Int × Str))) fun xs => forC (fun p s => m_read_square_B1 text p.1 p.2 s) xs s)
theorem W_read_square_L1 (h_is_square : S_is_square c) (g_ROWS : c.gc.lookup ("ROWS" : Str) = some (PyData.str "abcdef")) (g_COLUMNS : c.gc.lookup ("COLUMNS" : Str) = some (PyData.str "123456")) (text : Str) (z5 : Sl) (s : ((List (Int × Int)) × (List Int))) : Lx (exS c x_read_square_L1 [.val (eS text), .own (List.map (eP eI eI) s.1), .own (List.map eI s.2), .emp, .emp, z5]).x ((m_read_square_L1 text s).fx (fun s => [.val (eS text), .own (List.map (eP eI eI) s.1), .own (List.map eI s.2), .emp, .emp, z5]) (eP (eT (eP eI eI)) (eT eI))) := by
  unfold m_read_square_L1
  refine s_for (E := fun s => [.val (eS text), .own (List.map (eP eI eI) s.1), .own (List.map eI s.2), .emp, .emp, z5]) (s := s) (xr := (R.bd (R.bd (R.ok text) fun x1 => (R.bd (R.ok (" " : Str)) fun x2 => (splR x1 x2))) fun x3 => (R.ok (enT 0 x3)))) (g := (eP eI eS)) (B := (fun p s => m_read_square_B1 text p.1 p.2 s)) ?_ ?_
  · exact (i_enL (ra := (R.bd (R.ok text) fun x1 => (R.bd (R.ok (" " : Str)) fun x2 => (splR x1 x2)))) (g := eS) (t_mt1 (m := .split) (fun _ => rfl) o_spl (ra := (R.ok text)) (rb := (R.ok (" " : Str)))  (t_var (x := text) (g := eS) (by rfl)) (t_str " ")))
  rintro ⟨key, word⟩ s
  show Lx (xK c x_read_square_B1 .nx _) ((m_read_square_B1 text key word s).fx _ _)
  unfold m_read_square_B1
  refine k_if (r := (R.bd (R.bd (R.bd (R.ok word) fun x4 => (lenS x4)) fun x5 => (R.bd (R.ok ((2 : Int) :: ((3 : Int) :: ([] : List Int)))) fun x6 => (R.ok (!memT x5 x6)))) fun b26 => (if b26 then (R.ok true) else (R.bd (R.bd (R.bd (R.ok word) fun x9 => (R.bd (R.ok (0 : Int)) fun x10 => (ixS x9 x10))) fun x11 => (R.bd (R.ok ("abcdef" : Str)) fun x12 => (R.ok (!isSub x11 x12)))) fun b25 => (if b25 then (R.ok true) else (R.bd (R.bd (R.bd (R.ok word) fun x15 => (R.bd (R.ok (1 : Int)) fun x16 => (ixS x15 x16))) fun x17 => (R.bd (R.ok ("123456" : Str)) fun x18 => (R.ok (!isSub x17 x18)))) fun b24 => (if b24 then (R.ok true) else (R.bd (R.bd (R.bd (R.ok word) fun x19 => (R.bd (R.ok (some (2 : Int))) fun x20 => (R.bd (R.ok none) fun x21 => (slS x19 x20 x21)))) fun x => (R.ok (eS x))) fun x22 => (R.bd (R.ok ((eT eS) (("" : Str) :: (("*" : Str) :: ([] : List Str))))) fun x23 => (niD x22 x23)))))))))) ?_ ?_ ?_
  · exact (t_or (ra := (R.bd (R.bd (R.bd (R.ok word) fun x4 => (lenS x4)) fun x5 => (R.bd (R.ok ((2 : Int) :: ((3 : Int) :: ([] : List Int)))) fun x6 => (R.ok (!memT x5 x6)))) fun b26 => (if b26 then (R.ok true) else (R.bd (R.bd (R.bd (R.ok word) fun x9 => (R.bd (R.ok (0 : Int)) fun x10 => (ixS x9 x10))) fun x11 => (R.bd (R.ok ("abcdef" : Str)) fun x12 => (R.ok (!isSub x11 x12)))) fun b25 => (if b25 then (R.ok true) else (R.bd (R.bd (R.bd (R.ok word) fun x15 => (R.bd (R.ok (1 : Int)) fun x16 => (ixS x15 x16))) fun x17 => (R.bd (R.ok ("123456" : Str)) fun x18 => (R.ok (!isSub x17 x18)))) fun b24 => (if b24 then (R.ok true) else (R.bd (R.bd (R.bd (R.ok word) fun x19 => (R.bd (R.ok (some (2 : Int))) fun x20 => (R.bd (R.ok none) fun x21 => (slS x19 x20 x21)))) fun x => (R.ok (eS x))) fun x22 => (R.bd (R.ok ((eT eS) (("" : Str) :: (("*" : Str) :: ([] : List Str))))) fun x23 => (niD x22 x23)))))))))) (or_R (ra := (R.bd (R.bd (R.ok word) fun x4 => (lenS x4)) fun x5 => (R.bd (R.ok ((2 : Int) :: ((3 : Int) :: ([] : List Int)))) fun x6 => (R.ok (!memT x5 x6))))) (rs := (R.bd (R.bd (R.bd (R.ok word) fun x9 => (R.bd (R.ok (0 : Int)) fun x10 => (ixS x9 x10))) fun x11 => (R.bd (R.ok ("abcdef" : Str)) fun x12 => (R.ok (!isSub x11 x12)))) fun b25 => (if b25 then (R.ok true) else (R.bd (R.bd (R.bd (R.ok word) fun x15 => (R.bd (R.ok (1 : Int)) fun x16 => (ixS x15 x16))) fun x17 => (R.bd (R.ok ("123456" : Str)) fun x18 => (R.ok (!isSub x17 x18)))) fun b24 => (if b24 then (R.ok true) else (R.bd (R.bd (R.bd (R.ok word) fun x19 => (R.bd (R.ok (some (2 : Int))) fun x20 => (R.bd (R.ok none) fun x21 => (slS x19 x20 x21)))) fun x => (R.ok (eS x))) fun x22 => (R.bd (R.ok ((eT eS) (("" : Str) :: (("*" : Str) :: ([] : List Str))))) fun x23 => (niD x22 x23)))))))) (t_cmp (o_niT eI (by decide)) (ra := (R.bd (R.ok word) fun x4 => (lenS x4))) (rb := (R.ok ((2 : Int) :: ((3 : Int) :: ([] : List Int)))))  (t_bi1 (o_lenS) (ra := (R.ok word))  (t_var (x := word) (g := eS) (by rfl))) (t_tupT (rs := (R.ok ((2 : Int) :: ((3 : Int) :: ([] : List Int))))) (g := eI) (es_cons (ra := (R.ok (2 : Int))) (rs := (R.ok ((3 : Int) :: ([] : List Int)))) (g := eI) (t_int 2) (es_cons (ra := (R.ok (3 : Int))) (rs := (R.ok ([] : List Int))) (g := eI) (t_int 3) (es_nil (g := eI)))))) (or_R (ra := (R.bd (R.bd (R.ok word) fun x9 => (R.bd (R.ok (0 : Int)) fun x10 => (ixS x9 x10))) fun x11 => (R.bd (R.ok ("abcdef" : Str)) fun x12 => (R.ok (!isSub x11 x12))))) (rs := (R.bd (R.bd (R.bd (R.ok word) fun x15 => (R.bd (R.ok (1 : Int)) fun x16 => (ixS x15 x16))) fun x17 => (R.bd (R.ok ("123456" : Str)) fun x18 => (R.ok (!isSub x17 x18)))) fun b24 => (if b24 then (R.ok true) else (R.bd (R.bd (R.bd (R.ok word) fun x19 => (R.bd (R.ok (some (2 : Int))) fun x20 => (R.bd (R.ok none) fun x21 => (slS x19 x20 x21)))) fun x => (R.ok (eS x))) fun x22 => (R.bd (R.ok ((eT eS) (("" : Str) :: (("*" : Str) :: ([] : List Str))))) fun x23 => (niD x22 x23)))))) (t_cmp o_niS (ra := (R.bd (R.ok word) fun x9 => (R.bd (R.ok (0 : Int)) fun x10 => (ixS x9 x10)))) (rb := (R.ok ("abcdef" : Str)))  (t_idx o_ixS (ra := (R.ok word)) (rb := (R.ok (0 : Int)))  (t_var (x := word) (g := eS) (by rfl)) (t_int 0)) (t_glo (x := ("abcdef" : Str)) (g := eS) g_ROWS)) (or_R (ra := (R.bd (R.bd (R.ok word) fun x15 => (R.bd (R.ok (1 : Int)) fun x16 => (ixS x15 x16))) fun x17 => (R.bd (R.ok ("123456" : Str)) fun x18 => (R.ok (!isSub x17 x18))))) (rs := (R.bd (R.bd (R.bd (R.ok word) fun x19 => (R.bd (R.ok (some (2 : Int))) fun x20 => (R.bd (R.ok none) fun x21 => (slS x19 x20 x21)))) fun x => (R.ok (eS x))) fun x22 => (R.bd (R.ok ((eT eS) (("" : Str) :: (("*" : Str) :: ([] : List Str))))) fun x23 => (niD x22 x23)))) (t_cmp o_niS (ra := (R.bd (R.ok word) fun x15 => (R.bd (R.ok (1 : Int)) fun x16 => (ixS x15 x16)))) (rb := (R.ok ("123456" : Str)))  (t_idx o_ixS (ra := (R.ok word)) (rb := (R.ok (1 : Int)))  (t_var (x := word) (g := eS) (by rfl)) (t_int 1)) (t_glo (x := ("123456" : Str)) (g := eS) g_COLUMNS)) (or_one (ra := (R.bd (R.bd (R.bd (R.ok word) fun x19 => (R.bd (R.ok (some (2 : Int))) fun x20 => (R.bd (R.ok none) fun x21 => (slS x19 x20 x21)))) fun x => (R.ok (eS x))) fun x22 => (R.bd (R.ok ((eT eS) (("" : Str) :: (("*" : Str) :: ([] : List Str))))) fun x23 => (niD x22 x23)))) (t_cmp o_niD (ra := (R.bd (R.bd (R.ok word) fun x19 => (R.bd (R.ok (some (2 : Int))) fun x20 => (R.bd (R.ok none) fun x21 => (slS x19 x20 x21)))) fun x => (R.ok (eS x)))) (rb := (R.ok ((eT eS) (("" : Str) :: (("*" : Str) :: ([] : List Str))))))  (t_toD (ra := (R.bd (R.ok word) fun x19 => (R.bd (R.ok (some (2 : Int))) fun x20 => (R.bd (R.ok none) fun x21 => (slS x19 x20 x21))))) (g := eS) (t_sl o_slS (ra := (R.ok word)) (rl := (R.ok (some (2 : Int)))) (rh := (R.ok none))  (t_var (x := word) (g := eS) (by rfl)) (o_some (ra := (R.ok (2 : Int))) (t_int 2)) o_none)) (t_toD (ra := (R.ok (("" : Str) :: (("*" : Str) :: ([] : List Str))))) (g := (eT eS)) (t_tupT (rs := (R.ok (("" : Str) :: (("*" : Str) :: ([] : List Str))))) (g := eS) (es_cons (ra := (R.ok ("" : Str))) (rs := (R.ok (("*" : Str) :: ([] : List Str)))) (g := eS) (t_str "") (es_cons (ra := (R.ok ("*" : Str))) (rs := (R.ok ([] : List Str))) (g := eS) (t_str "*") (es_nil (g := eS))))))))))))
  ·
    exact k_rais
  ·
    refine k_nil ?_
    refine k_app (r := (R.bd (R.bd (R.ok ("abcdef" : Str)) fun x29 => (R.bd (R.bd (R.ok word) fun x27 => (R.bd (R.ok (0 : Int)) fun x28 => (ixS x27 x28))) fun x30 => (sixR x29 x30))) fun x35 => (R.bd (R.bd (R.ok ("123456" : Str)) fun x33 => (R.bd (R.bd (R.ok word) fun x31 => (R.bd (R.ok (1 : Int)) fun x32 => (ixS x31 x32))) fun x34 => (sixR x33 x34))) fun x36 => (R.ok (x35, x36))))) (g := (eP eI eI)) (xs := s.1) rfl ?_ fun spots_37 => ?_
    · exact (t_tup2 (ra := (R.bd (R.ok ("abcdef" : Str)) fun x29 => (R.bd (R.bd (R.ok word) fun x27 => (R.bd (R.ok (0 : Int)) fun x28 => (ixS x27 x28))) fun x30 => (sixR x29 x30)))) (rb := (R.bd (R.ok ("123456" : Str)) fun x33 => (R.bd (R.bd (R.ok word) fun x31 => (R.bd (R.ok (1 : Int)) fun x32 => (ixS x31 x32))) fun x34 => (sixR x33 x34)))) (g := eI) (h := eI) (t_mt1 (m := .sindex) (fun _ => rfl) o_six (ra := (R.ok ("abcdef" : Str))) (rb := (R.bd (R.ok word) fun x27 => (R.bd (R.ok (0 : Int)) fun x28 => (ixS x27 x28))))  (t_glo (x := ("abcdef" : Str)) (g := eS) g_ROWS) (t_idx o_ixS (ra := (R.ok word)) (rb := (R.ok (0 : Int)))  (t_var (x := word) (g := eS) (by rfl)) (t_int 0))) (t_mt1 (m := .sindex) (fun _ => rfl) o_six (ra := (R.ok ("123456" : Str))) (rb := (R.bd (R.ok word) fun x31 => (R.bd (R.ok (1 : Int)) fun x32 => (ixS x31 x32))))  (t_glo (x := ("123456" : Str)) (g := eS) g_COLUMNS) (t_idx o_ixS (ra := (R.ok word)) (rb := (R.ok (1 : Int)))  (t_var (x := word) (g := eS) (by rfl)) (t_int 1))))
    refine k_if (r := (R.bd (R.bd (R.bd (R.ok word) fun x38 => (R.bd (R.ok (some (2 : Int))) fun x39 => (R.bd (R.ok none) fun x40 => (slS x38 x39 x40)))) fun x => (R.ok (eS x))) fun x41 => (R.bd (R.ok (eS ("*" : Str))) fun x42 => (eqD x41 x42)))) ?_ ?_ ?_
    · exact (t_cmp o_eqD (ra := (R.bd (R.bd (R.ok word) fun x38 => (R.bd (R.ok (some (2 : Int))) fun x39 => (R.bd (R.ok none) fun x40 => (slS x38 x39 x40)))) fun x => (R.ok (eS x)))) (rb := (R.ok (eS ("*" : Str))))  (t_toD (ra := (R.bd (R.ok word) fun x38 => (R.bd (R.ok (some (2 : Int))) fun x39 => (R.bd (R.ok none) fun x40 => (slS x38 x39 x40))))) (g := eS) (t_sl o_slS (ra := (R.ok word)) (rl := (R.ok (some (2 : Int)))) (rh := (R.ok none))  (t_var (x := word) (g := eS) (by rfl)) (o_some (ra := (R.ok (2 : Int))) (t_int 2)) o_none)) (t_toD (ra := (R.ok ("*" : Str))) (g := eS) (t_str "*")))
    ·
      refine k_app (r := (R.ok key)) (g := eI) (xs := s.2) rfl ?_ fun diodes_43 => ?_
      · exact (t_var (x := key) (g := eI) (by rfl))
      refine k_nil ?_
      refine k_fgt ?_
      exact k_end rfl
    ·
      refine k_nil ?_
      refine k_fgt ?_
      exact k_end rfl
def m_read_square (text : Str) : R ((List (Int × Int)) × (List Int)) := Ct.run (R.ct ((R.ok ([] : List (Int × Int))) : R (List (Int × Int))) fun spots => (R.ct ((R.ok ([] : List Int)) : R (List Int)) fun diodes => (Ct.bind (m_read_square_L1 text (spots, diodes)) fun s48 => (R.ct ((R.ok (s48.1, s48.2)) : R ((List (Int × Int)) × (List Int))) fun found => (R.ct ((R.ok (!(isSquareD ((eP (eT (eP eI eI)) (eT eI)) found)))) : R Bool) fun b49 => if b49 then (Ct.ex "NoText") else (R.ct ((R.ok found) : R ((List (Int × Int)) × (List Int))) Ct.rt))))))
def S_read_square (c : Cv) : Prop := ∀ (text : Str), Lr (c.cal "read_square" [eS text]) ((m_read_square text).mp (eP (eT (eP eI eI)) (eT eI)))
theorem W_read_square (h_is_square : S_is_square c) (g_ROWS : c.gc.lookup ("ROWS" : Str) = some (PyData.str "abcdef")) (g_COLUMNS : c.gc.lookup ("COLUMNS" : Str) = some (PyData.str "123456")) (text : Str) : Lr (endR (exSs c f_read_square.body (startE f_read_square.N.length [eS text]))) ((m_read_square text).mp (eP (eT (eP eI eI)) (eT eI))) := by
  unfold m_read_square
  refine f_end ?_
  show Lx (xK c f_read_square.body .nx [.val (eS text), .emp, .emp, .emp, .emp, .emp]) _
  refine k_asgL (r := (R.ok ([] : List (Int × Int)))) (g := (eP eI eI)) ?_ fun spots => ?_
  · exact (es_nil (g := (eP eI eI)))
  refine k_asgL (r := (R.ok ([] : List Int))) (g := eI) ?_ fun diodes => ?_
  · exact (es_nil (g := eI))
  refine k_stm (P := (m_read_square_L1 text (spots, diodes))) (W_read_square_L1 h_is_square g_ROWS g_COLUMNS text _ (spots, diodes)) fun s48 => ?_
  refine k_asg (r := (R.ok (s48.1, s48.2))) (g := (eP (eT (eP eI eI)) (eT eI))) ?_ fun found => ?_
  · exact (t_tup2 (ra := (R.ok s48.1)) (rb := (R.ok s48.2)) (g := (eT (eP eI eI))) (h := (eT eI)) (t_bi1 (o_TL (eP eI eI)) (ra := (R.ok s48.1))  (t_peek (xs := s48.1) (g := (eP eI eI)) (by rfl))) (t_bi1 (o_TL eI) (ra := (R.ok s48.2))  (t_peek (xs := s48.2) (g := eI) (by rfl))))
  refine k_if (r := (R.ok (!(isSquareD ((eP (eT (eP eI eI)) (eT eI)) found))))) ?_ ?_ ?_
  · exact (t_not (ra := (R.ok (isSquareD ((eP (eT (eP eI eI)) (eT eI)) found))))  (t_call1 (ra := (R.ok ((eP (eT (eP eI eI)) (eT eI)) found))) (g := eD) (k := eB) (fun x0 => Lr.of (h_is_square x0)) (t_toD (ra := (R.ok found)) (g := (eP (eT (eP eI eI)) (eT eI))) (t_var (x := found) (g := (eP (eT (eP eI eI)) (eT eI))) (by rfl)))))
  ·
    exact k_rais
  ·
    refine k_nil ?_
    refine k_ret (r := (R.ok found)) ?_
    exact (t_var (x := found) (g := (eP (eT (eP eI eI)) (eT eI))) (by rfl))
end Wq.P

end
section
set_option Elab.async false
set_option linter.all false
set_option autoImplicit false
set_option maxRecDepth 100000
set_option maxHeartbeats 0
namespace Wq.L
open PySem Wq Wq.P
variable {c : Cv}
def S_under_NoText_SquareError (c : Cv) : Prop := Under c "NoText" "SquareError"
def S_under_NoText_NoText (c : Cv) : Prop := Under c "NoText" "NoText"
def x__law_due_I1 : MS := .ifs (.cmp .eq (.sl (.var 4) (.some (.neg (.int 1))) .none) (.str "*")) (.cons (.app 2 (.var 3)) (.cons (.asg (.nm 4) (.sl (.var 4) .none (.some (.neg (.int 1))))) .nil)) .nil
def x__law_due_B1 : MSs := (.cons x__law_due_I1 (.cons (.ifs (.or (.cons (.cmp .ne (.bi .len (.cons (.var 4) .nil)) (.int 2)) (.cons (.not (.chain .le .le (.str "a") (.idx (.var 4) (.int 0)) (.str "f"))) (.cons (.not (.chain .le .le (.str "1") (.idx (.var 4) (.int 1)) (.str "6"))) .nil)))) (.cons (.ret (.str "refused")) .nil) .nil) (.cons (.asg (.nm 5) (.tup (.cons (.mt .sindex (.str "abcdef") (.cons (.idx (.var 4) (.int 0)) .nil)) (.cons (.bin .sub (.bi .int (.cons (.idx (.var 4) (.int 1)) .nil)) (.int 1)) .nil)))) (.cons (.ifs (.cmp .isin (.var 5) (.peek 1)) (.cons (.ret (.str "refused")) .nil) .nil) (.cons (.app 1 (.var 5)) (.cons (.fgt [3, 4, 5]) .nil))))))
def x__law_due_L1 : MS := .for_ (.tp [3, 4]) (.enum (.mt .split (.var 0) (.cons (.str " ") .nil))) x__law_due_B1
def f__law_due : Fd := ⟨1, ["text", "spots", "diodes", "key", "word", "spot"], (.cons (.asgL 1 .nil) (.cons (.asgL 2 .nil) (.cons x__law_due_L1 (.cons (.ret (.ife (.cmp .lt (.bi .len (.cons (.peek 1) .nil)) (.int 7)) (.tup (.cons (.bi .tuple (.cons (.peek 1) .nil)) (.cons (.bi .tuple (.cons (.peek 2) .nil)) .nil))) (.str "refused"))) .nil))))⟩
def m__law_due_I1 (key : Int) (s : ((List Int) × Str)) : Ct ((List Int) × Str) D := (R.ct ((R.bd (R.bd (R.bd (R.ok s.2) fun x4 => (R.bd (R.ok (some (-(1 : Int)))) fun x5 => (R.bd (R.ok none) fun x6 => (slS x4 x5 x6)))) fun x => (R.ok (eS x))) fun x7 => (R.bd (R.ok (eS ("*" : Str))) fun x8 => (eqD x7 x8))) : R Bool) fun b => if b then (R.ct ((R.ok key) : R Int) fun y13 => (R.ct (appR s.1 [y13]) fun diodes_9 => (R.ct ((R.bd (R.ok s.2) fun x10 => (R.bd (R.ok none) fun x11 => (R.bd (R.ok (some (-(1 : Int)))) fun x12 => (slS x10 x11 x12)))) : R Str) fun word => (Ct.nx (diodes_9, word))))) else (Ct.nx (s.1, s.2)))
theorem W__law_due_I1   (key : Int) (z0 : Sl) (z1 : Sl) (z5 : Sl) (s : ((List Int) × Str)) : Lx (exS c x__law_due_I1 [z0, z1, .own (List.map eI s.1), .val (eI key), .val (eS s.2), z5]).x ((m__law_due_I1 key s).fx (fun s => [z0, z1, .own (List.map eI s.1), .val (eI key), .val (eS s.2), z5]) eD) := by
  unfold m__law_due_I1
  refine s_if (r := (R.bd (R.bd (R.bd (R.ok s.2) fun x4 => (R.bd (R.ok (some (-(1 : Int)))) fun x5 => (R.bd (R.ok none) fun x6 => (slS x4 x5 x6)))) fun x => (R.ok (eS x))) fun x7 => (R.bd (R.ok (eS ("*" : Str))) fun x8 => (eqD x7 x8)))) ?_ ?_ ?_
  · exact (t_cmp o_eqD (ra := (R.bd (R.bd (R.ok s.2) fun x4 => (R.bd (R.ok (some (-(1 : Int)))) fun x5 => (R.bd (R.ok none) fun x6 => (slS x4 x5 x6)))) fun x => (R.ok (eS x)))) (rb := (R.ok (eS ("*" : Str))))  (t_toD (ra := (R.bd (R.ok s.2) fun x4 => (R.bd (R.ok (some (-(1 : Int)))) fun x5 => (R.bd (R.ok none) fun x6 => (slS x4 x5 x6))))) (g := eS) (t_sl o_slS (ra := (R.ok s.2)) (rl := (R.ok (some (-(1 : Int))))) (rh := (R.ok none))  (t_var (x := s.2) (g := eS) (by rfl)) (o_some (ra := (R.ok (-(1 : Int)))) (t_neg (ra := (R.ok (1 : Int)))  (t_int 1))) o_none)) (t_toD (ra := (R.ok ("*" : Str))) (g := eS) (t_str "*")))
  ·
    refine k_app (r := (R.ok key)) (g := eI) (xs := s.1) rfl ?_ fun diodes_9 => ?_
    · exact (t_var (x := key) (g := eI) (by rfl))
    refine k_asg (r := (R.bd (R.ok s.2) fun x10 => (R.bd (R.ok none) fun x11 => (R.bd (R.ok (some (-(1 : Int)))) fun x12 => (slS x10 x11 x12))))) (g := eS) ?_ fun word => ?_
    · exact (t_sl o_slS (ra := (R.ok s.2)) (rl := (R.ok none)) (rh := (R.ok (some (-(1 : Int)))))  (t_var (x := s.2) (g := eS) (by rfl)) o_none (o_some (ra := (R.ok (-(1 : Int)))) (t_neg (ra := (R.ok (1 : Int)))  (t_int 1))))
    exact k_end rfl
  ·
    exact k_end rfl
def m__law_due_B1 (text : Str) (key : Int) (word : Str) (s : ((List (Int × Int)) × (List Int))) : Ct ((List (Int × Int)) × (List Int)) D := (Ct.bind (m__law_due_I1 key (s.2, word)) fun s14 => (R.ct ((R.bd (R.bd (R.bd (R.ok s14.2) fun x15 => (lenS x15)) fun x16 => (R.bd (R.ok (2 : Int)) fun x17 => (R.ok (!decide (x16 = x17))))) fun b31 => (if b31 then (R.ok true) else (R.bd (R.bd (R.bd (R.ok ("a" : Str)) fun x20 => (R.bd (R.bd (R.ok s14.2) fun x18 => (R.bd (R.ok (0 : Int)) fun x19 => (ixS x18 x19))) fun x21 => if (leS x20 x21) then (R.bd (R.ok ("f" : Str)) fun x22 => (R.ok (leS x21 x22))) else (R.ok false))) fun x23 => (R.ok (!x23))) fun b30 => (if b30 then (R.ok true) else (R.bd (R.bd (R.ok ("1" : Str)) fun x26 => (R.bd (R.bd (R.ok s14.2) fun x24 => (R.bd (R.ok (1 : Int)) fun x25 => (ixS x24 x25))) fun x27 => if (leS x26 x27) then (R.bd (R.ok ("6" : Str)) fun x28 => (R.ok (leS x27 x28))) else (R.ok false))) fun x29 => (R.ok (!x29))))))) : R Bool) fun b46 => if b46 then (R.ct ((R.ok (eS ("refused" : Str))) : R D) Ct.rt) else (R.ct ((R.bd (R.bd (R.ok ("abcdef" : Str)) fun x34 => (R.bd (R.bd (R.ok s14.2) fun x32 => (R.bd (R.ok (0 : Int)) fun x33 => (ixS x32 x33))) fun x35 => (sixR x34 x35))) fun x41 => (R.bd (R.bd (R.bd (R.bd (R.ok s14.2) fun x36 => (R.bd (R.ok (1 : Int)) fun x37 => (ixS x36 x37))) fun x38 => (intS x38)) fun x39 => (R.bd (R.ok (1 : Int)) fun x40 => (R.ok (x39 - x40)))) fun x42 => (R.ok (x41, x42)))) : R (Int × Int)) fun spot => (R.ct ((R.ok (memT spot s.1)) : R Bool) fun b45 => if b45 then (R.ct ((R.ok (eS ("refused" : Str))) : R D) Ct.rt) else (R.ct ((R.ok spot) : R (Int × Int)) fun y44 => (R.ct (appR s.1 [y44]) fun spots_43 => (Ct.nx (spots_43, s14.1))))))))
def m__law_due_L1 (text : Str) (s : ((List (Int × Int)) × (List Int))) : Ct ((List (Int × Int)) × (List Int)) D := (R.ct ((R.bd (R.bd (R.ok text) fun x1 => (R.bd (R.ok (" " : Str)) fun x2 => (splR x1 x2))) fun x3 => (R.ok (enT 0 x3))) : R (List (Int × Str))) fun xs => forC (fun p s => m__law_due_B1 text p.1 p.2 s) xs s)
theorem W__law_due_L1   (text : Str)  (s : ((List (Int × Int)) × (List Int))) : Lx (exS c x__law_due_L1 [.val (eS text), .own (List.map (eP eI eI) s.1), .own (List.map eI s.2), .emp, .emp, .emp]).x ((m__law_due_L1 text s).fx (fun s => [.val (eS text), .own (List.map (eP eI eI) s.1), .own (List.map eI s.2), .emp, .emp, .emp]) eD) := by
  unfold m__law_due_L1
  refine s_for (E := fun s => [.val (eS text), .own (List.map (eP eI eI) s.1), .own (List.map eI s.2), .emp, .emp, .emp]) (s := s) (xr := (R.bd (R.bd (R.ok text) fun x1 => (R.bd (R.ok (" " : Str)) fun x2 => (splR x1 x2))) fun x3 => (R.ok (enT 0 x3)))) (g := (eP eI eS)) (B := (fun p s => m__law_due_B1 text p.1 p.2 s)) ?_ ?_
  · exact (i_enL (ra := (R.bd (R.ok text) fun x1 => (R.bd (R.ok (" " : Str)) fun x2 => (splR x1 x2)))) (g := eS) (t_mt1 (m := .split) (fun _ => rfl) o_spl (ra := (R.ok text)) (rb := (R.ok (" " : Str)))  (t_var (x := text) (g := eS) (by rfl)) (t_str " ")))
  rintro ⟨key, word⟩ s
  show Lx (xK c x__law_due_B1 .nx _) ((m__law_due_B1 text key word s).fx _ _)
  unfold m__law_due_B1
  refine k_stm (P := (m__law_due_I1 key (s.2, word))) (W__law_due_I1   key _ _ _ (s.2, word)) fun s14 => ?_
  refine k_if (r := (R.bd (R.bd (R.bd (R.ok s14.2) fun x15 => (lenS x15)) fun x16 => (R.bd (R.ok (2 : Int)) fun x17 => (R.ok (!decide (x16 = x17))))) fun b31 => (if b31 then (R.ok true) else (R.bd (R.bd (R.bd (R.ok ("a" : Str)) fun x20 => (R.bd (R.bd (R.ok s14.2) fun x18 => (R.bd (R.ok (0 : Int)) fun x19 => (ixS x18 x19))) fun x21 => if (leS x20 x21) then (R.bd (R.ok ("f" : Str)) fun x22 => (R.ok (leS x21 x22))) else (R.ok false))) fun x23 => (R.ok (!x23))) fun b30 => (if b30 then (R.ok true) else (R.bd (R.bd (R.ok ("1" : Str)) fun x26 => (R.bd (R.bd (R.ok s14.2) fun x24 => (R.bd (R.ok (1 : Int)) fun x25 => (ixS x24 x25))) fun x27 => if (leS x26 x27) then (R.bd (R.ok ("6" : Str)) fun x28 => (R.ok (leS x27 x28))) else (R.ok false))) fun x29 => (R.ok (!x29)))))))) ?_ ?_ ?_
  · exact (t_or (ra := (R.bd (R.bd (R.bd (R.ok s14.2) fun x15 => (lenS x15)) fun x16 => (R.bd (R.ok (2 : Int)) fun x17 => (R.ok (!decide (x16 = x17))))) fun b31 => (if b31 then (R.ok true) else (R.bd (R.bd (R.bd (R.ok ("a" : Str)) fun x20 => (R.bd (R.bd (R.ok s14.2) fun x18 => (R.bd (R.ok (0 : Int)) fun x19 => (ixS x18 x19))) fun x21 => if (leS x20 x21) then (R.bd (R.ok ("f" : Str)) fun x22 => (R.ok (leS x21 x22))) else (R.ok false))) fun x23 => (R.ok (!x23))) fun b30 => (if b30 then (R.ok true) else (R.bd (R.bd (R.ok ("1" : Str)) fun x26 => (R.bd (R.bd (R.ok s14.2) fun x24 => (R.bd (R.ok (1 : Int)) fun x25 => (ixS x24 x25))) fun x27 => if (leS x26 x27) then (R.bd (R.ok ("6" : Str)) fun x28 => (R.ok (leS x27 x28))) else (R.ok false))) fun x29 => (R.ok (!x29)))))))) (or_R (ra := (R.bd (R.bd (R.ok s14.2) fun x15 => (lenS x15)) fun x16 => (R.bd (R.ok (2 : Int)) fun x17 => (R.ok (!decide (x16 = x17)))))) (rs := (R.bd (R.bd (R.bd (R.ok ("a" : Str)) fun x20 => (R.bd (R.bd (R.ok s14.2) fun x18 => (R.bd (R.ok (0 : Int)) fun x19 => (ixS x18 x19))) fun x21 => if (leS x20 x21) then (R.bd (R.ok ("f" : Str)) fun x22 => (R.ok (leS x21 x22))) else (R.ok false))) fun x23 => (R.ok (!x23))) fun b30 => (if b30 then (R.ok true) else (R.bd (R.bd (R.ok ("1" : Str)) fun x26 => (R.bd (R.bd (R.ok s14.2) fun x24 => (R.bd (R.ok (1 : Int)) fun x25 => (ixS x24 x25))) fun x27 => if (leS x26 x27) then (R.bd (R.ok ("6" : Str)) fun x28 => (R.ok (leS x27 x28))) else (R.ok false))) fun x29 => (R.ok (!x29)))))) (t_cmp (o_ne eI (by decide)) (ra := (R.bd (R.ok s14.2) fun x15 => (lenS x15))) (rb := (R.ok (2 : Int)))  (t_bi1 (o_lenS) (ra := (R.ok s14.2))  (t_var (x := s14.2) (g := eS) (by rfl))) (t_int 2)) (or_R (ra := (R.bd (R.bd (R.ok ("a" : Str)) fun x20 => (R.bd (R.bd (R.ok s14.2) fun x18 => (R.bd (R.ok (0 : Int)) fun x19 => (ixS x18 x19))) fun x21 => if (leS x20 x21) then (R.bd (R.ok ("f" : Str)) fun x22 => (R.ok (leS x21 x22))) else (R.ok false))) fun x23 => (R.ok (!x23)))) (rs := (R.bd (R.bd (R.ok ("1" : Str)) fun x26 => (R.bd (R.bd (R.ok s14.2) fun x24 => (R.bd (R.ok (1 : Int)) fun x25 => (ixS x24 x25))) fun x27 => if (leS x26 x27) then (R.bd (R.ok ("6" : Str)) fun x28 => (R.ok (leS x27 x28))) else (R.ok false))) fun x29 => (R.ok (!x29)))) (t_not (ra := (R.bd (R.ok ("a" : Str)) fun x20 => (R.bd (R.bd (R.ok s14.2) fun x18 => (R.bd (R.ok (0 : Int)) fun x19 => (ixS x18 x19))) fun x21 => if (leS x20 x21) then (R.bd (R.ok ("f" : Str)) fun x22 => (R.ok (leS x21 x22))) else (R.ok false))))  (t_chainS (ra := (R.ok ("a" : Str))) (rb := (R.bd (R.ok s14.2) fun x18 => (R.bd (R.ok (0 : Int)) fun x19 => (ixS x18 x19)))) (rd := (R.ok ("f" : Str))) (f1 := leS) (f2 := leS) o_leS o_leS (t_str "a") (t_idx o_ixS (ra := (R.ok s14.2)) (rb := (R.ok (0 : Int)))  (t_var (x := s14.2) (g := eS) (by rfl)) (t_int 0)) (t_str "f"))) (or_one (ra := (R.bd (R.bd (R.ok ("1" : Str)) fun x26 => (R.bd (R.bd (R.ok s14.2) fun x24 => (R.bd (R.ok (1 : Int)) fun x25 => (ixS x24 x25))) fun x27 => if (leS x26 x27) then (R.bd (R.ok ("6" : Str)) fun x28 => (R.ok (leS x27 x28))) else (R.ok false))) fun x29 => (R.ok (!x29)))) (t_not (ra := (R.bd (R.ok ("1" : Str)) fun x26 => (R.bd (R.bd (R.ok s14.2) fun x24 => (R.bd (R.ok (1 : Int)) fun x25 => (ixS x24 x25))) fun x27 => if (leS x26 x27) then (R.bd (R.ok ("6" : Str)) fun x28 => (R.ok (leS x27 x28))) else (R.ok false))))  (t_chainS (ra := (R.ok ("1" : Str))) (rb := (R.bd (R.ok s14.2) fun x24 => (R.bd (R.ok (1 : Int)) fun x25 => (ixS x24 x25)))) (rd := (R.ok ("6" : Str))) (f1 := leS) (f2 := leS) o_leS o_leS (t_str "1") (t_idx o_ixS (ra := (R.ok s14.2)) (rb := (R.ok (1 : Int)))  (t_var (x := s14.2) (g := eS) (by rfl)) (t_int 1)) (t_str "6")))))))
  ·
    refine k_ret (r := (R.ok (eS ("refused" : Str)))) ?_
    exact (t_toD (ra := (R.ok ("refused" : Str))) (g := eS) (t_str "refused"))
  ·
    refine k_nil ?_
    refine k_asg (r := (R.bd (R.bd (R.ok ("abcdef" : Str)) fun x34 => (R.bd (R.bd (R.ok s14.2) fun x32 => (R.bd (R.ok (0 : Int)) fun x33 => (ixS x32 x33))) fun x35 => (sixR x34 x35))) fun x41 => (R.bd (R.bd (R.bd (R.bd (R.ok s14.2) fun x36 => (R.bd (R.ok (1 : Int)) fun x37 => (ixS x36 x37))) fun x38 => (intS x38)) fun x39 => (R.bd (R.ok (1 : Int)) fun x40 => (R.ok (x39 - x40)))) fun x42 => (R.ok (x41, x42))))) (g := (eP eI eI)) ?_ fun spot => ?_
    · exact (t_tup2 (ra := (R.bd (R.ok ("abcdef" : Str)) fun x34 => (R.bd (R.bd (R.ok s14.2) fun x32 => (R.bd (R.ok (0 : Int)) fun x33 => (ixS x32 x33))) fun x35 => (sixR x34 x35)))) (rb := (R.bd (R.bd (R.bd (R.ok s14.2) fun x36 => (R.bd (R.ok (1 : Int)) fun x37 => (ixS x36 x37))) fun x38 => (intS x38)) fun x39 => (R.bd (R.ok (1 : Int)) fun x40 => (R.ok (x39 - x40))))) (g := eI) (h := eI) (t_mt1 (m := .sindex) (fun _ => rfl) o_six (ra := (R.ok ("abcdef" : Str))) (rb := (R.bd (R.ok s14.2) fun x32 => (R.bd (R.ok (0 : Int)) fun x33 => (ixS x32 x33))))  (t_str "abcdef") (t_idx o_ixS (ra := (R.ok s14.2)) (rb := (R.ok (0 : Int)))  (t_var (x := s14.2) (g := eS) (by rfl)) (t_int 0))) (t_bin o_sub (ra := (R.bd (R.bd (R.ok s14.2) fun x36 => (R.bd (R.ok (1 : Int)) fun x37 => (ixS x36 x37))) fun x38 => (intS x38))) (rb := (R.ok (1 : Int)))  (t_bi1 (o_intS) (ra := (R.bd (R.ok s14.2) fun x36 => (R.bd (R.ok (1 : Int)) fun x37 => (ixS x36 x37))))  (t_idx o_ixS (ra := (R.ok s14.2)) (rb := (R.ok (1 : Int)))  (t_var (x := s14.2) (g := eS) (by rfl)) (t_int 1))) (t_int 1)))
    refine k_if (r := (R.ok (memT spot s.1))) ?_ ?_ ?_
    · exact (t_cmp (o_inL (eP eI eI) (by decide)) (ra := (R.ok spot)) (rb := (R.ok s.1))  (t_var (x := spot) (g := (eP eI eI)) (by rfl)) (t_peek (xs := s.1) (g := (eP eI eI)) (by rfl)))
    ·
      refine k_ret (r := (R.ok (eS ("refused" : Str)))) ?_
      exact (t_toD (ra := (R.ok ("refused" : Str))) (g := eS) (t_str "refused"))
    ·
      refine k_nil ?_
      refine k_app (r := (R.ok spot)) (g := (eP eI eI)) (xs := s.1) rfl ?_ fun spots_43 => ?_
      · exact (t_var (x := spot) (g := (eP eI eI)) (by rfl))
      refine k_fgt ?_
      exact k_end rfl
def m__law_due (text : Str) : R D := Ct.run (R.ct ((R.ok ([] : List (Int × Int))) : R (List (Int × Int))) fun spots => (R.ct ((R.ok ([] : List Int)) : R (List Int)) fun diodes => (Ct.bind (m__law_due_L1 text (spots, diodes)) fun s47 => (R.ct ((R.ok (if (decide (((s47.1).length : Int) < (7 : Int))) then ((eP (eT (eP eI eI)) (eT eI)) (s47.1, s47.2)) else (eS ("refused" : Str)))) : R D) Ct.rt))))
def S__law_due (c : Cv) : Prop := ∀ (text : Str), Lr (c.cal "_law_due" [eS text]) ((m__law_due text).mp eD)
theorem W__law_due   (text : Str) : Lr (endR (exSs c f__law_due.body (startE f__law_due.N.length [eS text]))) ((m__law_due text).mp eD) := by
  unfold m__law_due
  refine f_end ?_
  show Lx (xK c f__law_due.body .nx [.val (eS text), .emp, .emp, .emp, .emp, .emp]) _
  refine k_asgL (r := (R.ok ([] : List (Int × Int)))) (g := (eP eI eI)) ?_ fun spots => ?_
  · exact (es_nil (g := (eP eI eI)))
  refine k_asgL (r := (R.ok ([] : List Int))) (g := eI) ?_ fun diodes => ?_
  · exact (es_nil (g := eI))
  refine k_stm (P := (m__law_due_L1 text (spots, diodes))) (W__law_due_L1   text  (spots, diodes)) fun s47 => ?_
  refine k_ret (r := (R.ok (if (decide (((s47.1).length : Int) < (7 : Int))) then ((eP (eT (eP eI eI)) (eT eI)) (s47.1, s47.2)) else (eS ("refused" : Str))))) ?_
  exact (t_ifP (k := (decide (((s47.1).length : Int) < (7 : Int)))) (x := ((eP (eT (eP eI eI)) (eT eI)) (s47.1, s47.2))) (y := (eS ("refused" : Str))) (g := eD) (t_cmp o_lt (ra := (R.ok ((s47.1).length : Int))) (rb := (R.ok (7 : Int)))  (t_bi1 (o_lenL (eP eI eI)) (ra := (R.ok s47.1))  (t_peek (xs := s47.1) (g := (eP eI eI)) (by rfl))) (t_int 7)) (t_toD (ra := (R.ok (s47.1, s47.2))) (g := (eP (eT (eP eI eI)) (eT eI))) (t_tup2 (ra := (R.ok s47.1)) (rb := (R.ok s47.2)) (g := (eT (eP eI eI))) (h := (eT eI)) (t_bi1 (o_TL (eP eI eI)) (ra := (R.ok s47.1))  (t_peek (xs := s47.1) (g := (eP eI eI)) (by rfl))) (t_bi1 (o_TL eI) (ra := (R.ok s47.2))  (t_peek (xs := s47.2) (g := eI) (by rfl))))) (t_toD (ra := (R.ok ("refused" : Str))) (g := eS) (t_str "refused")))
def f__law_told : Fd := ⟨1, ["text", "e"], (.cons (.try_ (.cons (.ret (.call "read_square" (.cons (.var 0) .nil))) .nil) "SquareError" 1 (.cons (.ret (.ife (.isx 1 "NoText") (.str "refused") (.str "wrong"))) .nil)) .nil)⟩
def m__law_told (text : Str) : R D := Ct.run (tryT (R.bd (R.bd (R.ok text) fun x1 => (m_read_square x1)) fun x => (R.ok ((eP (eT (eP eI eI)) (eT eI)) x))) (fun q => if q = ("NoText" : Str) then some (.str "refused") else none))
def S__law_told (c : Cv) : Prop := ∀ (text : Str), Lr (c.cal "_law_told" [eS text]) ((m__law_told text).mp eD)
theorem W__law_told (h_under_NoText_SquareError : S_under_NoText_SquareError c) (h_under_NoText_NoText : S_under_NoText_NoText c) (h_read_square : S_read_square c)  (text : Str) : Lr (endR (exSs c f__law_told.body (startE f__law_told.N.length [eS text]))) ((m__law_told text).mp eD) := by
  unfold m__law_told
  refine f_end ?_
  show Lx (xK c f__law_told.body .nx [.val (eS text), .emp]) _
  refine k_tryH (r := (R.bd (R.bd (R.ok text) fun x1 => (m_read_square x1)) fun x => (R.ok ((eP (eT (eP eI eI)) (eT eI)) x)))) (hd_ife h_under_NoText_SquareError h_under_NoText_NoText.2 rfl) ?_
  exact (t_toD (ra := (R.bd (R.ok text) fun x1 => (m_read_square x1))) (g := (eP (eT (eP eI eI)) (eT eI))) (t_call1 (ra := (R.ok text)) (g := eS) (k := (eP (eT (eP eI eI)) (eT eI))) h_read_square (t_var (x := text) (g := eS) (by rfl))))
def x_law_C1 : ME := .lc (.var 11) (.nm 11) (.seq (.peek 8)) (.some (.cmp .ne (.call "_law_told" (.cons (.var 11) .nil)) (.call "_law_due" (.cons (.var 11) .nil)))) [11]
def x_law_B1 : MSs := (.cons (.asg (.nm 5) (.bin .add (.int 300) (.bin .mul (.int 10) (.var 4)))) (.cons (.asg (.nm 6) (.call "_law_drawn" (.cons (.var 0) (.cons (.var 5) (.cons (.bin .add (.bi .len (.cons (.var 3) .nil)) (.int 1)) .nil))))) (.cons (.asg (.nm 7) (.idx (.str "ab12* f6g0") (.call "_law_drawn" (.cons (.var 0) (.cons (.bin .add (.var 5) (.int 1)) (.cons (.int 10) .nil)))))) (.cons (.asgL 8 (.cons (.bin .add (.sl (.var 3) .none (.some (.var 6))) (.sl (.var 3) (.some (.bin .add (.var 6) (.int 1))) .none)) (.cons (.bin .add (.sl (.var 3) .none (.some (.bin .add (.var 6) (.int 1)))) (.sl (.var 3) (.some (.var 6)) .none)) (.cons (.bin .add (.bin .add (.sl (.var 3) .none (.some (.var 6))) (.var 7)) (.sl (.var 3) (.some (.bin .add (.var 6) (.int 1))) .none)) .nil)))) (.cons (.app 8 (.bin .add (.bin .add (.sl (.var 3) .none (.some (.var 6))) (.var 7)) (.sl (.var 3) (.some (.var 6)) .none))) (.cons (.asg (.nm 9) (.mt .split (.var 3) (.cons (.str " ") .nil))) (.cons (.asg (.nm 10) (.call "_law_drawn" (.cons (.var 0) (.cons (.bin .add (.var 5) (.int 2)) (.cons (.bi .len (.cons (.var 9) .nil)) .nil))))) (.cons (.asgA 8 (.peek 8) (.lst (.cons (.mt .join (.str " ") (.cons (.bin .add (.sl (.var 9) .none (.some (.var 10))) (.sl (.var 9) (.some (.bin .add (.var 10) (.int 1))) .none)) .nil)) (.cons (.mt .join (.str " ") (.cons (.bin .add (.sl (.var 9) .none (.some (.bin .add (.var 10) (.int 1)))) (.sl (.var 9) (.some (.var 10)) .none)) .nil)) .nil)))) (.cons (.asg (.nm 9) (.bin .add (.bin .add (.sl (.var 9) .none (.some (.var 10))) (.rev (.sl (.var 9) (.some (.var 10)) (.some (.bin .add (.var 10) (.int 2)))))) (.sl (.var 9) (.some (.bin .add (.var 10) (.int 2))) .none))) (.cons (.app 8 (.mt .join (.str " ") (.cons (.var 9) .nil))) (.cons (.ifs (.cmp .ne x_law_C1 (.lst .nil)) (.cons (.ret (.bl false)) .nil) .nil) (.cons (.fgt [4, 5, 6, 7, 8, 9, 10]) .nil))))))))))))
def x_law_L1 : MS := .for_ (.nm 4) (.rng (.int 4)) x_law_B1
def f_law : Fd := ⟨1, ["script", "square", "other", "text", "turn", "here", "at", "sign", "some", "words", "to", "one"], (.cons (.asg (.nm 1) (.call "_law_square" (.cons (.var 0) (.cons (.int 0) (.cons (.int 6) .nil))))) (.cons (.asg (.nm 2) (.call "_law_square" (.cons (.var 0) (.cons (.int 200) (.cons (.int 3) .nil))))) (.cons (.asg (.nm 3) (.call "square_text" (.cons (.var 1) .nil))) (.cons (.ifs (.or (.cons (.cmp .ne (.call "read_square" (.cons (.var 3) .nil)) (.var 1)) (.cons (.cmp .ne (.cmp .eq (.call "square_text" (.cons (.var 2) .nil)) (.var 3)) (.cmp .eq (.var 2) (.var 1))) .nil))) (.cons (.ret (.bl false)) .nil) .nil) (.cons x_law_L1 (.cons (.ret (.bl true)) .nil))))))⟩
def m_law_B1 (script : Sc) (text : Str) (turn : Int) (s : Unit) : Ct Unit Bool := (R.ct ((R.ok ((300 : Int) + (10 * turn))) : R Int) fun here => (R.ct ((R.bd (R.ok script) fun x20 => (R.bd (R.ok here) fun x21 => (R.bd (R.bd (R.bd (R.ok text) fun x17 => (lenS x17)) fun x18 => (R.bd (R.ok (1 : Int)) fun x19 => (R.ok (x18 + x19)))) fun x22 => (drawnR x20 x21 x22)))) : R Int) fun at_ => (R.ct ((R.bd (R.ok ("ab12* f6g0" : Str)) fun x23 => (R.bd (R.ok (drawn script (here + (1 : Int)) 10)) fun x24 => (ixS x23 x24))) : R Str) fun sign => (R.ct ((R.bd (R.bd (R.bd (R.ok text) fun x33 => (R.bd (R.ok none) fun x34 => (R.bd (R.ok (some at_)) fun x35 => (slS x33 x34 x35)))) fun x39 => (R.bd (R.bd (R.ok text) fun x36 => (R.bd (R.ok (some (at_ + (1 : Int)))) fun x37 => (R.bd (R.ok none) fun x38 => (slS x36 x37 x38)))) fun x40 => (addS x39 x40))) fun x63 => (R.bd (R.bd (R.bd (R.bd (R.ok text) fun x41 => (R.bd (R.ok none) fun x42 => (R.bd (R.ok (some (at_ + (1 : Int)))) fun x43 => (slS x41 x42 x43)))) fun x47 => (R.bd (R.bd (R.ok text) fun x44 => (R.bd (R.ok (some at_)) fun x45 => (R.bd (R.ok none) fun x46 => (slS x44 x45 x46)))) fun x48 => (addS x47 x48))) fun x61 => (R.bd (R.bd (R.bd (R.bd (R.bd (R.ok text) fun x49 => (R.bd (R.ok none) fun x50 => (R.bd (R.ok (some at_)) fun x51 => (slS x49 x50 x51)))) fun x52 => (R.bd (R.ok sign) fun x53 => (addS x52 x53))) fun x57 => (R.bd (R.bd (R.ok text) fun x54 => (R.bd (R.ok (some (at_ + (1 : Int)))) fun x55 => (R.bd (R.ok none) fun x56 => (slS x54 x55 x56)))) fun x58 => (addS x57 x58))) fun x59 => (R.bd (R.ok ([] : List Str)) fun x60 => (R.ok (x59 :: x60)))) fun x62 => (R.ok (x61 :: x62)))) fun x64 => (R.ok (x63 :: x64)))) : R (List Str)) fun some_ => (R.ct ((R.bd (R.bd (R.bd (R.ok text) fun x65 => (R.bd (R.ok none) fun x66 => (R.bd (R.ok (some at_)) fun x67 => (slS x65 x66 x67)))) fun x68 => (R.bd (R.ok sign) fun x69 => (addS x68 x69))) fun x73 => (R.bd (R.bd (R.ok text) fun x70 => (R.bd (R.ok (some at_)) fun x71 => (R.bd (R.ok none) fun x72 => (slS x70 x71 x72)))) fun x74 => (addS x73 x74))) : R Str) fun y111 => (R.ct (appR some_ [y111]) fun some__75 => (R.ct ((R.bd (R.ok text) fun x76 => (R.bd (R.ok (" " : Str)) fun x77 => (splR x76 x77))) : R (List Str)) fun words => (R.ct ((R.bd (R.ok script) fun x78 => (R.bd (R.ok (here + (2 : Int))) fun x79 => (R.bd (R.ok ((words).length : Int)) fun x80 => (drawnR x78 x79 x80)))) : R Int) fun to => (R.ct (R.bd (R.ok some__75) fun x109 => (R.bd (R.bd (R.bd (R.ok (" " : Str)) fun x83 => (R.bd (R.bd (R.ok (cut words none (some to))) fun x81 => (R.bd (R.ok (cut words (some (to + (1 : Int))) none)) fun x82 => (catR x81 x82))) fun x84 => (joiR x83 x84))) fun x91 => (R.bd (R.bd (R.bd (R.ok (" " : Str)) fun x87 => (R.bd (R.bd (R.ok (cut words none (some (to + (1 : Int))))) fun x85 => (R.bd (R.ok (cut words (some to) none)) fun x86 => (catR x85 x86))) fun x88 => (joiR x87 x88))) fun x89 => (R.bd (R.ok ([] : List Str)) fun x90 => (R.ok (x89 :: x90)))) fun x92 => (R.ok (x91 :: x92)))) fun x110 => (catR x109 x110))) fun some_ => (R.ct ((R.bd (R.bd (R.ok (cut words none (some to))) fun x93 => (R.bd (R.ok (List.reverse (cut words (some to) (some (to + (2 : Int)))))) fun x94 => (catR x93 x94))) fun x95 => (R.bd (R.ok (cut words (some (to + (2 : Int))) none)) fun x96 => (catR x95 x96))) : R (List Str)) fun words => (R.ct ((R.bd (R.ok (" " : Str)) fun x97 => (R.bd (R.ok words) fun x98 => (joiR x97 x98))) : R Str) fun y108 => (R.ct (appR some_ [y108]) fun some__99 => (R.ct ((R.bd (R.bd (R.bd (R.ok some__99) fun x104 => (lcR (fun (one : Str) => (R.bd (R.bd (R.bd (R.ok one) fun x100 => (m__law_told x100)) fun x102 => (R.bd (R.bd (R.ok one) fun x101 => (m__law_due x101)) fun x103 => (neD x102 x103))) fun b => if b then (R.mp (R.ok one) some) else (R.ok none))) x104)) fun x => (R.ok ((eL eS) x))) fun x105 => (R.bd (R.ok ((eL eS) ([] : List Str))) fun x106 => (neD x105 x106))) : R Bool) fun b107 => if b107 then (R.ct ((R.ok false) : R Bool) Ct.rt) else (Ct.nx ()))))))))))))))
def m_law_L1 (script : Sc) (text : Str) (s : Unit) : Ct Unit Bool := (R.ct ((R.ok (irg 0 4)) : R (List Int)) fun xs => forC (m_law_B1 script text) xs s)
theorem W_law_L1 (h__law_square : S__law_square c) (h_square_text : S_square_text c) (h_read_square : S_read_square c) (h__law_drawn : S__law_drawn c) (h__law_told : S__law_told c) (h__law_due : S__law_due c)  (script : Sc) (text : Str) (z1 : Sl) (z2 : Sl) (z11 : Sl) (s : Unit) : Lx (exS c x_law_L1 [.val (eSc script), z1, z2, .val (eS text), .emp, .emp, .emp, .emp, .emp, .emp, .emp, z11]).x ((m_law_L1 script text s).fx (fun s => [.val (eSc script), z1, z2, .val (eS text), .emp, .emp, .emp, .emp, .emp, .emp, .emp, z11]) eB) := by
  unfold m_law_L1
  refine s_for (E := fun s => [.val (eSc script), z1, z2, .val (eS text), .emp, .emp, .emp, .emp, .emp, .emp, .emp, z11]) (s := s) (xr := (R.ok (irg 0 4))) (g := eI) (B := (m_law_B1 script text)) ?_ ?_
  · exact (i_rngL (n := 4) (by decide))
  intro turn s
  show Lx (xK c x_law_B1 .nx _) ((m_law_B1 script text turn s).fx _ _)
  unfold m_law_B1
  refine k_asg (r := (R.ok ((300 : Int) + (10 * turn)))) (g := eI) ?_ fun here => ?_
  · exact (t_bin o_add (ra := (R.ok (300 : Int))) (rb := (R.ok (10 * turn)))  (t_int 300) (t_mulL (rb := (R.ok turn)) (n := 10) (by decide) (t_var (x := turn) (g := eI) (by rfl))))
  refine k_asg (r := (R.bd (R.ok script) fun x20 => (R.bd (R.ok here) fun x21 => (R.bd (R.bd (R.bd (R.ok text) fun x17 => (lenS x17)) fun x18 => (R.bd (R.ok (1 : Int)) fun x19 => (R.ok (x18 + x19)))) fun x22 => (drawnR x20 x21 x22))))) (g := eI) ?_ fun at_ => ?_
  · exact (t_call3 (ra := (R.ok script)) (rb := (R.ok here)) (rd := (R.bd (R.bd (R.ok text) fun x17 => (lenS x17)) fun x18 => (R.bd (R.ok (1 : Int)) fun x19 => (R.ok (x18 + x19))))) (g := eSc) (h := eI) (l := eI) (k := eI) (fun x0 x1 x2 => Lr.of (h__law_drawn x0 x1 x2)) (t_var (x := script) (g := eSc) (by rfl)) (t_var (x := here) (g := eI) (by rfl)) (t_bin o_add (ra := (R.bd (R.ok text) fun x17 => (lenS x17))) (rb := (R.ok (1 : Int)))  (t_bi1 (o_lenS) (ra := (R.ok text))  (t_var (x := text) (g := eS) (by rfl))) (t_int 1)))
  refine k_asg (r := (R.bd (R.ok ("ab12* f6g0" : Str)) fun x23 => (R.bd (R.ok (drawn script (here + (1 : Int)) 10)) fun x24 => (ixS x23 x24)))) (g := eS) ?_ fun sign => ?_
  · exact (t_idx o_ixS (ra := (R.ok ("ab12* f6g0" : Str))) (rb := (R.ok (drawn script (here + (1 : Int)) 10)))  (t_str "ab12* f6g0") (t_drawnL (ra := (R.ok script)) (rb := (R.ok (here + (1 : Int)))) h__law_drawn (n := (10 : Int)) (by decide) (t_var (x := script) (g := eSc) (by rfl)) (t_bin o_add (ra := (R.ok here)) (rb := (R.ok (1 : Int)))  (t_var (x := here) (g := eI) (by rfl)) (t_int 1))))
  refine k_asgL (r := (R.bd (R.bd (R.bd (R.ok text) fun x33 => (R.bd (R.ok none) fun x34 => (R.bd (R.ok (some at_)) fun x35 => (slS x33 x34 x35)))) fun x39 => (R.bd (R.bd (R.ok text) fun x36 => (R.bd (R.ok (some (at_ + (1 : Int)))) fun x37 => (R.bd (R.ok none) fun x38 => (slS x36 x37 x38)))) fun x40 => (addS x39 x40))) fun x63 => (R.bd (R.bd (R.bd (R.bd (R.ok text) fun x41 => (R.bd (R.ok none) fun x42 => (R.bd (R.ok (some (at_ + (1 : Int)))) fun x43 => (slS x41 x42 x43)))) fun x47 => (R.bd (R.bd (R.ok text) fun x44 => (R.bd (R.ok (some at_)) fun x45 => (R.bd (R.ok none) fun x46 => (slS x44 x45 x46)))) fun x48 => (addS x47 x48))) fun x61 => (R.bd (R.bd (R.bd (R.bd (R.bd (R.ok text) fun x49 => (R.bd (R.ok none) fun x50 => (R.bd (R.ok (some at_)) fun x51 => (slS x49 x50 x51)))) fun x52 => (R.bd (R.ok sign) fun x53 => (addS x52 x53))) fun x57 => (R.bd (R.bd (R.ok text) fun x54 => (R.bd (R.ok (some (at_ + (1 : Int)))) fun x55 => (R.bd (R.ok none) fun x56 => (slS x54 x55 x56)))) fun x58 => (addS x57 x58))) fun x59 => (R.bd (R.ok ([] : List Str)) fun x60 => (R.ok (x59 :: x60)))) fun x62 => (R.ok (x61 :: x62)))) fun x64 => (R.ok (x63 :: x64))))) (g := eS) ?_ fun some_ => ?_
  · exact (es_cons (ra := (R.bd (R.bd (R.ok text) fun x33 => (R.bd (R.ok none) fun x34 => (R.bd (R.ok (some at_)) fun x35 => (slS x33 x34 x35)))) fun x39 => (R.bd (R.bd (R.ok text) fun x36 => (R.bd (R.ok (some (at_ + (1 : Int)))) fun x37 => (R.bd (R.ok none) fun x38 => (slS x36 x37 x38)))) fun x40 => (addS x39 x40)))) (rs := (R.bd (R.bd (R.bd (R.ok text) fun x41 => (R.bd (R.ok none) fun x42 => (R.bd (R.ok (some (at_ + (1 : Int)))) fun x43 => (slS x41 x42 x43)))) fun x47 => (R.bd (R.bd (R.ok text) fun x44 => (R.bd (R.ok (some at_)) fun x45 => (R.bd (R.ok none) fun x46 => (slS x44 x45 x46)))) fun x48 => (addS x47 x48))) fun x61 => (R.bd (R.bd (R.bd (R.bd (R.bd (R.ok text) fun x49 => (R.bd (R.ok none) fun x50 => (R.bd (R.ok (some at_)) fun x51 => (slS x49 x50 x51)))) fun x52 => (R.bd (R.ok sign) fun x53 => (addS x52 x53))) fun x57 => (R.bd (R.bd (R.ok text) fun x54 => (R.bd (R.ok (some (at_ + (1 : Int)))) fun x55 => (R.bd (R.ok none) fun x56 => (slS x54 x55 x56)))) fun x58 => (addS x57 x58))) fun x59 => (R.bd (R.ok ([] : List Str)) fun x60 => (R.ok (x59 :: x60)))) fun x62 => (R.ok (x61 :: x62))))) (g := eS) (t_bin o_addS (ra := (R.bd (R.ok text) fun x33 => (R.bd (R.ok none) fun x34 => (R.bd (R.ok (some at_)) fun x35 => (slS x33 x34 x35))))) (rb := (R.bd (R.ok text) fun x36 => (R.bd (R.ok (some (at_ + (1 : Int)))) fun x37 => (R.bd (R.ok none) fun x38 => (slS x36 x37 x38)))))  (t_sl o_slS (ra := (R.ok text)) (rl := (R.ok none)) (rh := (R.ok (some at_)))  (t_var (x := text) (g := eS) (by rfl)) o_none (o_some (ra := (R.ok at_)) (t_var (x := at_) (g := eI) (by rfl)))) (t_sl o_slS (ra := (R.ok text)) (rl := (R.ok (some (at_ + (1 : Int))))) (rh := (R.ok none))  (t_var (x := text) (g := eS) (by rfl)) (o_some (ra := (R.ok (at_ + (1 : Int)))) (t_bin o_add (ra := (R.ok at_)) (rb := (R.ok (1 : Int)))  (t_var (x := at_) (g := eI) (by rfl)) (t_int 1))) o_none)) (es_cons (ra := (R.bd (R.bd (R.ok text) fun x41 => (R.bd (R.ok none) fun x42 => (R.bd (R.ok (some (at_ + (1 : Int)))) fun x43 => (slS x41 x42 x43)))) fun x47 => (R.bd (R.bd (R.ok text) fun x44 => (R.bd (R.ok (some at_)) fun x45 => (R.bd (R.ok none) fun x46 => (slS x44 x45 x46)))) fun x48 => (addS x47 x48)))) (rs := (R.bd (R.bd (R.bd (R.bd (R.ok text) fun x49 => (R.bd (R.ok none) fun x50 => (R.bd (R.ok (some at_)) fun x51 => (slS x49 x50 x51)))) fun x52 => (R.bd (R.ok sign) fun x53 => (addS x52 x53))) fun x57 => (R.bd (R.bd (R.ok text) fun x54 => (R.bd (R.ok (some (at_ + (1 : Int)))) fun x55 => (R.bd (R.ok none) fun x56 => (slS x54 x55 x56)))) fun x58 => (addS x57 x58))) fun x59 => (R.bd (R.ok ([] : List Str)) fun x60 => (R.ok (x59 :: x60))))) (g := eS) (t_bin o_addS (ra := (R.bd (R.ok text) fun x41 => (R.bd (R.ok none) fun x42 => (R.bd (R.ok (some (at_ + (1 : Int)))) fun x43 => (slS x41 x42 x43))))) (rb := (R.bd (R.ok text) fun x44 => (R.bd (R.ok (some at_)) fun x45 => (R.bd (R.ok none) fun x46 => (slS x44 x45 x46)))))  (t_sl o_slS (ra := (R.ok text)) (rl := (R.ok none)) (rh := (R.ok (some (at_ + (1 : Int)))))  (t_var (x := text) (g := eS) (by rfl)) o_none (o_some (ra := (R.ok (at_ + (1 : Int)))) (t_bin o_add (ra := (R.ok at_)) (rb := (R.ok (1 : Int)))  (t_var (x := at_) (g := eI) (by rfl)) (t_int 1)))) (t_sl o_slS (ra := (R.ok text)) (rl := (R.ok (some at_))) (rh := (R.ok none))  (t_var (x := text) (g := eS) (by rfl)) (o_some (ra := (R.ok at_)) (t_var (x := at_) (g := eI) (by rfl))) o_none)) (es_cons (ra := (R.bd (R.bd (R.bd (R.ok text) fun x49 => (R.bd (R.ok none) fun x50 => (R.bd (R.ok (some at_)) fun x51 => (slS x49 x50 x51)))) fun x52 => (R.bd (R.ok sign) fun x53 => (addS x52 x53))) fun x57 => (R.bd (R.bd (R.ok text) fun x54 => (R.bd (R.ok (some (at_ + (1 : Int)))) fun x55 => (R.bd (R.ok none) fun x56 => (slS x54 x55 x56)))) fun x58 => (addS x57 x58)))) (rs := (R.ok ([] : List Str))) (g := eS) (t_bin o_addS (ra := (R.bd (R.bd (R.ok text) fun x49 => (R.bd (R.ok none) fun x50 => (R.bd (R.ok (some at_)) fun x51 => (slS x49 x50 x51)))) fun x52 => (R.bd (R.ok sign) fun x53 => (addS x52 x53)))) (rb := (R.bd (R.ok text) fun x54 => (R.bd (R.ok (some (at_ + (1 : Int)))) fun x55 => (R.bd (R.ok none) fun x56 => (slS x54 x55 x56)))))  (t_bin o_addS (ra := (R.bd (R.ok text) fun x49 => (R.bd (R.ok none) fun x50 => (R.bd (R.ok (some at_)) fun x51 => (slS x49 x50 x51))))) (rb := (R.ok sign))  (t_sl o_slS (ra := (R.ok text)) (rl := (R.ok none)) (rh := (R.ok (some at_)))  (t_var (x := text) (g := eS) (by rfl)) o_none (o_some (ra := (R.ok at_)) (t_var (x := at_) (g := eI) (by rfl)))) (t_var (x := sign) (g := eS) (by rfl))) (t_sl o_slS (ra := (R.ok text)) (rl := (R.ok (some (at_ + (1 : Int))))) (rh := (R.ok none))  (t_var (x := text) (g := eS) (by rfl)) (o_some (ra := (R.ok (at_ + (1 : Int)))) (t_bin o_add (ra := (R.ok at_)) (rb := (R.ok (1 : Int)))  (t_var (x := at_) (g := eI) (by rfl)) (t_int 1))) o_none)) (es_nil (g := eS)))))
  refine k_app (r := (R.bd (R.bd (R.bd (R.ok text) fun x65 => (R.bd (R.ok none) fun x66 => (R.bd (R.ok (some at_)) fun x67 => (slS x65 x66 x67)))) fun x68 => (R.bd (R.ok sign) fun x69 => (addS x68 x69))) fun x73 => (R.bd (R.bd (R.ok text) fun x70 => (R.bd (R.ok (some at_)) fun x71 => (R.bd (R.ok none) fun x72 => (slS x70 x71 x72)))) fun x74 => (addS x73 x74)))) (g := eS) (xs := some_) rfl ?_ fun some__75 => ?_
  · exact (t_bin o_addS (ra := (R.bd (R.bd (R.ok text) fun x65 => (R.bd (R.ok none) fun x66 => (R.bd (R.ok (some at_)) fun x67 => (slS x65 x66 x67)))) fun x68 => (R.bd (R.ok sign) fun x69 => (addS x68 x69)))) (rb := (R.bd (R.ok text) fun x70 => (R.bd (R.ok (some at_)) fun x71 => (R.bd (R.ok none) fun x72 => (slS x70 x71 x72)))))  (t_bin o_addS (ra := (R.bd (R.ok text) fun x65 => (R.bd (R.ok none) fun x66 => (R.bd (R.ok (some at_)) fun x67 => (slS x65 x66 x67))))) (rb := (R.ok sign))  (t_sl o_slS (ra := (R.ok text)) (rl := (R.ok none)) (rh := (R.ok (some at_)))  (t_var (x := text) (g := eS) (by rfl)) o_none (o_some (ra := (R.ok at_)) (t_var (x := at_) (g := eI) (by rfl)))) (t_var (x := sign) (g := eS) (by rfl))) (t_sl o_slS (ra := (R.ok text)) (rl := (R.ok (some at_))) (rh := (R.ok none))  (t_var (x := text) (g := eS) (by rfl)) (o_some (ra := (R.ok at_)) (t_var (x := at_) (g := eI) (by rfl))) o_none))
  refine k_asg (r := (R.bd (R.ok text) fun x76 => (R.bd (R.ok (" " : Str)) fun x77 => (splR x76 x77)))) (g := (eL eS)) ?_ fun words => ?_
  · exact (t_mt1 (m := .split) (fun _ => rfl) o_spl (ra := (R.ok text)) (rb := (R.ok (" " : Str)))  (t_var (x := text) (g := eS) (by rfl)) (t_str " "))
  refine k_asg (r := (R.bd (R.ok script) fun x78 => (R.bd (R.ok (here + (2 : Int))) fun x79 => (R.bd (R.ok ((words).length : Int)) fun x80 => (drawnR x78 x79 x80))))) (g := eI) ?_ fun to => ?_
  · exact (t_call3 (ra := (R.ok script)) (rb := (R.ok (here + (2 : Int)))) (rd := (R.ok ((words).length : Int))) (g := eSc) (h := eI) (l := eI) (k := eI) (fun x0 x1 x2 => Lr.of (h__law_drawn x0 x1 x2)) (t_var (x := script) (g := eSc) (by rfl)) (t_bin o_add (ra := (R.ok here)) (rb := (R.ok (2 : Int)))  (t_var (x := here) (g := eI) (by rfl)) (t_int 2)) (t_bi1 (o_lenL eS) (ra := (R.ok words))  (t_var (x := words) (g := (eL eS)) (by rfl))))
  refine k_asgA (ra := (R.ok some__75)) (rb := (R.bd (R.bd (R.ok (" " : Str)) fun x83 => (R.bd (R.bd (R.ok (cut words none (some to))) fun x81 => (R.bd (R.ok (cut words (some (to + (1 : Int))) none)) fun x82 => (catR x81 x82))) fun x84 => (joiR x83 x84))) fun x91 => (R.bd (R.bd (R.bd (R.ok (" " : Str)) fun x87 => (R.bd (R.bd (R.ok (cut words none (some (to + (1 : Int))))) fun x85 => (R.bd (R.ok (cut words (some to) none)) fun x86 => (catR x85 x86))) fun x88 => (joiR x87 x88))) fun x89 => (R.bd (R.ok ([] : List Str)) fun x90 => (R.ok (x89 :: x90)))) fun x92 => (R.ok (x91 :: x92))))) (g := eS) ?_ ?_ fun some_ => ?_
  · exact (t_peek (xs := some__75) (g := eS) (by rfl))
  · exact (t_lst (rs := (R.bd (R.bd (R.ok (" " : Str)) fun x83 => (R.bd (R.bd (R.ok (cut words none (some to))) fun x81 => (R.bd (R.ok (cut words (some (to + (1 : Int))) none)) fun x82 => (catR x81 x82))) fun x84 => (joiR x83 x84))) fun x91 => (R.bd (R.bd (R.bd (R.ok (" " : Str)) fun x87 => (R.bd (R.bd (R.ok (cut words none (some (to + (1 : Int))))) fun x85 => (R.bd (R.ok (cut words (some to) none)) fun x86 => (catR x85 x86))) fun x88 => (joiR x87 x88))) fun x89 => (R.bd (R.ok ([] : List Str)) fun x90 => (R.ok (x89 :: x90)))) fun x92 => (R.ok (x91 :: x92))))) (g := eS) (es_cons (ra := (R.bd (R.ok (" " : Str)) fun x83 => (R.bd (R.bd (R.ok (cut words none (some to))) fun x81 => (R.bd (R.ok (cut words (some (to + (1 : Int))) none)) fun x82 => (catR x81 x82))) fun x84 => (joiR x83 x84)))) (rs := (R.bd (R.bd (R.ok (" " : Str)) fun x87 => (R.bd (R.bd (R.ok (cut words none (some (to + (1 : Int))))) fun x85 => (R.bd (R.ok (cut words (some to) none)) fun x86 => (catR x85 x86))) fun x88 => (joiR x87 x88))) fun x89 => (R.bd (R.ok ([] : List Str)) fun x90 => (R.ok (x89 :: x90))))) (g := eS) (t_mt1 (m := .join) (fun _ => rfl) o_joi (ra := (R.ok (" " : Str))) (rb := (R.bd (R.ok (cut words none (some to))) fun x81 => (R.bd (R.ok (cut words (some (to + (1 : Int))) none)) fun x82 => (catR x81 x82))))  (t_str " ") (t_bin (o_catL eS) (ra := (R.ok (cut words none (some to)))) (rb := (R.ok (cut words (some (to + (1 : Int))) none)))  (t_sl (o_slL eS) (ra := (R.ok words)) (rl := (R.ok none)) (rh := (R.ok (some to)))  (t_var (x := words) (g := (eL eS)) (by rfl)) o_none (o_some (ra := (R.ok to)) (t_var (x := to) (g := eI) (by rfl)))) (t_sl (o_slL eS) (ra := (R.ok words)) (rl := (R.ok (some (to + (1 : Int))))) (rh := (R.ok none))  (t_var (x := words) (g := (eL eS)) (by rfl)) (o_some (ra := (R.ok (to + (1 : Int)))) (t_bin o_add (ra := (R.ok to)) (rb := (R.ok (1 : Int)))  (t_var (x := to) (g := eI) (by rfl)) (t_int 1))) o_none))) (es_cons (ra := (R.bd (R.ok (" " : Str)) fun x87 => (R.bd (R.bd (R.ok (cut words none (some (to + (1 : Int))))) fun x85 => (R.bd (R.ok (cut words (some to) none)) fun x86 => (catR x85 x86))) fun x88 => (joiR x87 x88)))) (rs := (R.ok ([] : List Str))) (g := eS) (t_mt1 (m := .join) (fun _ => rfl) o_joi (ra := (R.ok (" " : Str))) (rb := (R.bd (R.ok (cut words none (some (to + (1 : Int))))) fun x85 => (R.bd (R.ok (cut words (some to) none)) fun x86 => (catR x85 x86))))  (t_str " ") (t_bin (o_catL eS) (ra := (R.ok (cut words none (some (to + (1 : Int)))))) (rb := (R.ok (cut words (some to) none)))  (t_sl (o_slL eS) (ra := (R.ok words)) (rl := (R.ok none)) (rh := (R.ok (some (to + (1 : Int)))))  (t_var (x := words) (g := (eL eS)) (by rfl)) o_none (o_some (ra := (R.ok (to + (1 : Int)))) (t_bin o_add (ra := (R.ok to)) (rb := (R.ok (1 : Int)))  (t_var (x := to) (g := eI) (by rfl)) (t_int 1)))) (t_sl (o_slL eS) (ra := (R.ok words)) (rl := (R.ok (some to))) (rh := (R.ok none))  (t_var (x := words) (g := (eL eS)) (by rfl)) (o_some (ra := (R.ok to)) (t_var (x := to) (g := eI) (by rfl))) o_none))) (es_nil (g := eS)))))
  refine k_asg (r := (R.bd (R.bd (R.ok (cut words none (some to))) fun x93 => (R.bd (R.ok (List.reverse (cut words (some to) (some (to + (2 : Int)))))) fun x94 => (catR x93 x94))) fun x95 => (R.bd (R.ok (cut words (some (to + (2 : Int))) none)) fun x96 => (catR x95 x96)))) (g := (eL eS)) ?_ fun words => ?_
  · exact (t_bin (o_catL eS) (ra := (R.bd (R.ok (cut words none (some to))) fun x93 => (R.bd (R.ok (List.reverse (cut words (some to) (some (to + (2 : Int)))))) fun x94 => (catR x93 x94)))) (rb := (R.ok (cut words (some (to + (2 : Int))) none)))  (t_bin (o_catL eS) (ra := (R.ok (cut words none (some to)))) (rb := (R.ok (List.reverse (cut words (some to) (some (to + (2 : Int)))))))  (t_sl (o_slL eS) (ra := (R.ok words)) (rl := (R.ok none)) (rh := (R.ok (some to)))  (t_var (x := words) (g := (eL eS)) (by rfl)) o_none (o_some (ra := (R.ok to)) (t_var (x := to) (g := eI) (by rfl)))) (t_revL (ra := (R.ok (cut words (some to) (some (to + (2 : Int)))))) (g := eS) (t_sl (o_slL eS) (ra := (R.ok words)) (rl := (R.ok (some to))) (rh := (R.ok (some (to + (2 : Int)))))  (t_var (x := words) (g := (eL eS)) (by rfl)) (o_some (ra := (R.ok to)) (t_var (x := to) (g := eI) (by rfl))) (o_some (ra := (R.ok (to + (2 : Int)))) (t_bin o_add (ra := (R.ok to)) (rb := (R.ok (2 : Int)))  (t_var (x := to) (g := eI) (by rfl)) (t_int 2)))))) (t_sl (o_slL eS) (ra := (R.ok words)) (rl := (R.ok (some (to + (2 : Int))))) (rh := (R.ok none))  (t_var (x := words) (g := (eL eS)) (by rfl)) (o_some (ra := (R.ok (to + (2 : Int)))) (t_bin o_add (ra := (R.ok to)) (rb := (R.ok (2 : Int)))  (t_var (x := to) (g := eI) (by rfl)) (t_int 2))) o_none))
  refine k_app (r := (R.bd (R.ok (" " : Str)) fun x97 => (R.bd (R.ok words) fun x98 => (joiR x97 x98)))) (g := eS) (xs := some_) rfl ?_ fun some__99 => ?_
  · exact (t_mt1 (m := .join) (fun _ => rfl) o_joi (ra := (R.ok (" " : Str))) (rb := (R.ok words))  (t_str " ") (t_var (x := words) (g := (eL eS)) (by rfl)))
  refine k_if (r := (R.bd (R.bd (R.bd (R.ok some__99) fun x104 => (lcR (fun (one : Str) => (R.bd (R.bd (R.bd (R.ok one) fun x100 => (m__law_told x100)) fun x102 => (R.bd (R.bd (R.ok one) fun x101 => (m__law_due x101)) fun x103 => (neD x102 x103))) fun b => if b then (R.mp (R.ok one) some) else (R.ok none))) x104)) fun x => (R.ok ((eL eS) x))) fun x105 => (R.bd (R.ok ((eL eS) ([] : List Str))) fun x106 => (neD x105 x106)))) ?_ ?_ ?_
  · exact (t_cmp o_neD (ra := (R.bd (R.bd (R.ok some__99) fun x104 => (lcR (fun (one : Str) => (R.bd (R.bd (R.bd (R.ok one) fun x100 => (m__law_told x100)) fun x102 => (R.bd (R.bd (R.ok one) fun x101 => (m__law_due x101)) fun x103 => (neD x102 x103))) fun b => if b then (R.mp (R.ok one) some) else (R.ok none))) x104)) fun x => (R.ok ((eL eS) x)))) (rb := (R.ok ((eL eS) ([] : List Str))))  (t_toD (ra := (R.bd (R.ok some__99) fun x104 => (lcR (fun (one : Str) => (R.bd (R.bd (R.bd (R.ok one) fun x100 => (m__law_told x100)) fun x102 => (R.bd (R.bd (R.ok one) fun x101 => (m__law_due x101)) fun x103 => (neD x102 x103))) fun b => if b then (R.mp (R.ok one) some) else (R.ok none))) x104))) (g := (eL eS)) (lc_nm (xr := (R.ok some__99)) (g := eS) (h := eS) (fc := fun one => (R.bd (R.bd (R.ok one) fun x100 => (m__law_told x100)) fun x102 => (R.bd (R.bd (R.ok one) fun x101 => (m__law_due x101)) fun x103 => (neD x102 x103)))) (fe := fun one => (R.ok one)) (i_seqL (ra := (R.ok some__99)) (g := eS) (t_peek (xs := some__99) (g := eS) (by rfl))) (fun one => c_some (rb := (R.bd (R.bd (R.ok one) fun x100 => (m__law_told x100)) fun x102 => (R.bd (R.bd (R.ok one) fun x101 => (m__law_due x101)) fun x103 => (neD x102 x103)))) (t_cmp o_neD (ra := (R.bd (R.ok one) fun x100 => (m__law_told x100))) (rb := (R.bd (R.ok one) fun x101 => (m__law_due x101)))  (t_call1 (ra := (R.ok one)) (g := eS) (k := eD) h__law_told (t_var (x := one) (g := eS) (by rfl))) (t_call1 (ra := (R.ok one)) (g := eS) (k := eD) h__law_due (t_var (x := one) (g := eS) (by rfl))))) (fun one => (t_var (x := one) (g := eS) (by rfl))))) (t_toD (ra := (R.ok ([] : List Str))) (g := (eL eS)) (t_lst (rs := (R.ok ([] : List Str))) (g := eS) (es_nil (g := eS)))))
  ·
    refine k_ret (r := (R.ok false)) ?_
    exact (t_bl false)
  ·
    refine k_nil ?_
    refine k_fgt ?_
    exact k_end rfl
def m_law (script : Sc) : R Bool := Ct.run (R.ct ((R.bd (R.ok script) fun x1 => (R.bd (R.ok (0 : Int)) fun x2 => (R.bd (R.ok (6 : Int)) fun x3 => (m__law_square x1 x2 x3)))) : R ((List (Int × Int)) × (List Int))) fun square => (R.ct ((R.bd (R.ok script) fun x4 => (R.bd (R.ok (200 : Int)) fun x5 => (R.bd (R.ok (3 : Int)) fun x6 => (m__law_square x4 x5 x6)))) : R ((List (Int × Int)) × (List Int))) fun other => (R.ct ((R.bd (R.ok square) fun x7 => (m_square_text x7)) : R Str) fun text => (R.ct ((R.bd (R.bd (R.bd (R.ok text) fun x8 => (m_read_square x8)) fun x9 => (R.bd (R.ok square) fun x10 => (R.ok (!decide (x9 = x10))))) fun b16 => (if b16 then (R.ok true) else (R.bd (R.bd (R.bd (R.bd (R.ok other) fun x11 => (m_square_text x11)) fun x => (R.ok (eS x))) fun x12 => (R.bd (R.ok (eS text)) fun x13 => (eqD x12 x13))) fun x14 => (R.bd (R.ok (decide (other = square))) fun x15 => (R.ok (!decide (x14 = x15))))))) : R Bool) fun b113 => if b113 then (R.ct ((R.ok false) : R Bool) Ct.rt) else (Ct.bind (m_law_L1 script text ()) fun s112 => (R.ct ((R.ok true) : R Bool) Ct.rt))))))
def S_law (c : Cv) : Prop := ∀ (script : Sc), Lr (c.cal "law" [eSc script]) ((m_law script).mp eB)
theorem W_law (h__law_square : S__law_square c) (h_square_text : S_square_text c) (h_read_square : S_read_square c) (h__law_drawn : S__law_drawn c) (h__law_told : S__law_told c) (h__law_due : S__law_due c)  (script : Sc) : Lr (endR (exSs c f_law.body (startE f_law.N.length [eSc script]))) ((m_law script).mp eB) := by
  unfold m_law
  refine f_end ?_
  show Lx (xK c f_law.body .nx [.val (eSc script), .emp, .emp, .emp, .emp, .emp, .emp, .emp, .emp, .emp, .emp, .emp]) _
  refine k_asg (r := (R.bd (R.ok script) fun x1 => (R.bd (R.ok (0 : Int)) fun x2 => (R.bd (R.ok (6 : Int)) fun x3 => (m__law_square x1 x2 x3))))) (g := (eP (eT (eP eI eI)) (eT eI))) ?_ fun square => ?_
  · exact (t_call3 (ra := (R.ok script)) (rb := (R.ok (0 : Int))) (rd := (R.ok (6 : Int))) (g := eSc) (h := eI) (l := eI) (k := (eP (eT (eP eI eI)) (eT eI))) h__law_square (t_var (x := script) (g := eSc) (by rfl)) (t_int 0) (t_int 6))
  refine k_asg (r := (R.bd (R.ok script) fun x4 => (R.bd (R.ok (200 : Int)) fun x5 => (R.bd (R.ok (3 : Int)) fun x6 => (m__law_square x4 x5 x6))))) (g := (eP (eT (eP eI eI)) (eT eI))) ?_ fun other => ?_
  · exact (t_call3 (ra := (R.ok script)) (rb := (R.ok (200 : Int))) (rd := (R.ok (3 : Int))) (g := eSc) (h := eI) (l := eI) (k := (eP (eT (eP eI eI)) (eT eI))) h__law_square (t_var (x := script) (g := eSc) (by rfl)) (t_int 200) (t_int 3))
  refine k_asg (r := (R.bd (R.ok square) fun x7 => (m_square_text x7))) (g := eS) ?_ fun text => ?_
  · exact (t_call1 (ra := (R.ok square)) (g := (eP (eT (eP eI eI)) (eT eI))) (k := eS) h_square_text (t_var (x := square) (g := (eP (eT (eP eI eI)) (eT eI))) (by rfl)))
  refine k_if (r := (R.bd (R.bd (R.bd (R.ok text) fun x8 => (m_read_square x8)) fun x9 => (R.bd (R.ok square) fun x10 => (R.ok (!decide (x9 = x10))))) fun b16 => (if b16 then (R.ok true) else (R.bd (R.bd (R.bd (R.bd (R.ok other) fun x11 => (m_square_text x11)) fun x => (R.ok (eS x))) fun x12 => (R.bd (R.ok (eS text)) fun x13 => (eqD x12 x13))) fun x14 => (R.bd (R.ok (decide (other = square))) fun x15 => (R.ok (!decide (x14 = x15)))))))) ?_ ?_ ?_
  · exact (t_or (ra := (R.bd (R.bd (R.bd (R.ok text) fun x8 => (m_read_square x8)) fun x9 => (R.bd (R.ok square) fun x10 => (R.ok (!decide (x9 = x10))))) fun b16 => (if b16 then (R.ok true) else (R.bd (R.bd (R.bd (R.bd (R.ok other) fun x11 => (m_square_text x11)) fun x => (R.ok (eS x))) fun x12 => (R.bd (R.ok (eS text)) fun x13 => (eqD x12 x13))) fun x14 => (R.bd (R.ok (decide (other = square))) fun x15 => (R.ok (!decide (x14 = x15)))))))) (or_R (ra := (R.bd (R.bd (R.ok text) fun x8 => (m_read_square x8)) fun x9 => (R.bd (R.ok square) fun x10 => (R.ok (!decide (x9 = x10)))))) (rs := (R.bd (R.bd (R.bd (R.bd (R.ok other) fun x11 => (m_square_text x11)) fun x => (R.ok (eS x))) fun x12 => (R.bd (R.ok (eS text)) fun x13 => (eqD x12 x13))) fun x14 => (R.bd (R.ok (decide (other = square))) fun x15 => (R.ok (!decide (x14 = x15)))))) (t_cmp (o_ne (eP (eT (eP eI eI)) (eT eI)) (by decide)) (ra := (R.bd (R.ok text) fun x8 => (m_read_square x8))) (rb := (R.ok square))  (t_call1 (ra := (R.ok text)) (g := eS) (k := (eP (eT (eP eI eI)) (eT eI))) h_read_square (t_var (x := text) (g := eS) (by rfl))) (t_var (x := square) (g := (eP (eT (eP eI eI)) (eT eI))) (by rfl))) (or_one (ra := (R.bd (R.bd (R.bd (R.bd (R.ok other) fun x11 => (m_square_text x11)) fun x => (R.ok (eS x))) fun x12 => (R.bd (R.ok (eS text)) fun x13 => (eqD x12 x13))) fun x14 => (R.bd (R.ok (decide (other = square))) fun x15 => (R.ok (!decide (x14 = x15)))))) (t_cmp (o_ne eB (by decide)) (ra := (R.bd (R.bd (R.bd (R.ok other) fun x11 => (m_square_text x11)) fun x => (R.ok (eS x))) fun x12 => (R.bd (R.ok (eS text)) fun x13 => (eqD x12 x13)))) (rb := (R.ok (decide (other = square))))  (t_cmp o_eqD (ra := (R.bd (R.bd (R.ok other) fun x11 => (m_square_text x11)) fun x => (R.ok (eS x)))) (rb := (R.ok (eS text)))  (t_toD (ra := (R.bd (R.ok other) fun x11 => (m_square_text x11))) (g := eS) (t_call1 (ra := (R.ok other)) (g := (eP (eT (eP eI eI)) (eT eI))) (k := eS) h_square_text (t_var (x := other) (g := (eP (eT (eP eI eI)) (eT eI))) (by rfl)))) (t_toD (ra := (R.ok text)) (g := eS) (t_var (x := text) (g := eS) (by rfl)))) (t_cmp (o_eq (eP (eT (eP eI eI)) (eT eI)) (by decide)) (ra := (R.ok other)) (rb := (R.ok square))  (t_var (x := other) (g := (eP (eT (eP eI eI)) (eT eI))) (by rfl)) (t_var (x := square) (g := (eP (eT (eP eI eI)) (eT eI))) (by rfl)))))))
  ·
    refine k_ret (r := (R.ok false)) ?_
    exact (t_bl false)
  ·
    refine k_nil ?_
    refine k_stm (P := (m_law_L1 script text ())) (W_law_L1 h__law_square h_square_text h_read_square h__law_drawn h__law_told h__law_due  script text _ _ _ ()) fun s112 => ?_
    refine k_ret (r := (R.ok true)) ?_
    exact (t_bl true)
end Wq.L

end
section
set_option Elab.async false
set_option linter.all false
set_option autoImplicit false
set_option maxRecDepth 100000
set_option maxHeartbeats 0
namespace Wq.P
open PySem Wq
variable {c : Cv}
def x_with_more_C1 : ME := .lc (.var 3) (.tp [2, 3]) (.enum (.var 1)) (.some (.and (.cons (.cmp .notin (.var 3) (.var 0)) (.cons (.cmp .notin (.var 3) (.sl (.var 1) .none (.some (.var 2)))) .nil)))) [2, 3]
def f_with_more : Fd := ⟨2, ["rows", "more", "place", "one"], (.cons (.ret (.bin .add (.var 0) x_with_more_C1)) .nil)⟩
def m_with_more (rows : (List Int)) (more : (List Int)) : R (List Int) := Ct.run (R.ct ((R.bd (R.ok rows) fun x1 => (R.bd (R.ok (List.map (fun (p : Int × Int) => p.2) (List.filter (fun (p : Int × Int) => ((!memT p.2 rows) && (!memT p.2 (cut more none (some p.1))))) (enT 0 more)))) fun x2 => (catR x1 x2))) : R (List Int)) Ct.rt)
def S_with_more (c : Cv) : Prop := ∀ (rows : (List Int)) (more : (List Int)), Lr (c.cal "with_more" [(eL eI) rows, (eL eI) more]) ((m_with_more rows more).mp (eL eI))
theorem W_with_more   (rows : (List Int)) (more : (List Int)) : Lr (endR (exSs c f_with_more.body (startE f_with_more.N.length [(eL eI) rows, (eL eI) more]))) ((m_with_more rows more).mp (eL eI)) := by
  unfold m_with_more
  refine f_end ?_
  show Lx (xK c f_with_more.body .nx [.val ((eL eI) rows), .val ((eL eI) more), .emp, .emp]) _
  refine k_ret (r := (R.bd (R.ok rows) fun x1 => (R.bd (R.ok (List.map (fun (p : Int × Int) => p.2) (List.filter (fun (p : Int × Int) => ((!memT p.2 rows) && (!memT p.2 (cut more none (some p.1))))) (enT 0 more)))) fun x2 => (catR x1 x2)))) ?_
  exact (t_bin (o_catL eI) (ra := (R.ok rows)) (rb := (R.ok (List.map (fun (p : Int × Int) => p.2) (List.filter (fun (p : Int × Int) => ((!memT p.2 rows) && (!memT p.2 (cut more none (some p.1))))) (enT 0 more)))))  (t_var (x := rows) (g := (eL eI)) (by rfl)) (lc_tpF (xr := (R.ok (enT 0 more))) (g := eI) (g' := eI) (h := eI) (p := fun place one => ((!memT one rows) && (!memT one (cut more none (some place))))) (f := fun place one => one) (i_enL (ra := (R.ok more)) (g := eI) (t_var (x := more) (g := (eL eI)) (by rfl))) (fun place one => c_some (rb := (R.ok ((!memT one rows) && (!memT one (cut more none (some place)))))) (t_and (ra := (R.ok ((!memT one rows) && (!memT one (cut more none (some place)))))) (and_P (x := (!memT one rows)) (y := (!memT one (cut more none (some place)))) (t_cmp (o_niL eI (by decide)) (ra := (R.ok one)) (rb := (R.ok rows))  (t_var (x := one) (g := eI) (by rfl)) (t_var (x := rows) (g := (eL eI)) (by rfl))) (and_one (ra := (R.ok (!memT one (cut more none (some place))))) (t_cmp (o_niL eI (by decide)) (ra := (R.ok one)) (rb := (R.ok (cut more none (some place))))  (t_var (x := one) (g := eI) (by rfl)) (t_sl (o_slL eI) (ra := (R.ok more)) (rl := (R.ok none)) (rh := (R.ok (some place)))  (t_var (x := more) (g := (eL eI)) (by rfl)) o_none (o_some (ra := (R.ok place)) (t_var (x := place) (g := eI) (by rfl))))))))) (fun place one => (t_var (x := one) (g := eI) (by rfl)))))
def x_back_rows_C1 : ME := .lc (.idx (.idx (.var 3) (.var 5)) (.int 0)) (.nm 5) (.seq (.var 1)) (.some (.and (.cons (.cmp .eq (.idx (.idx (.var 3) (.var 5)) (.int 1)) (.var 2)) (.cons (.cmp .notin (.var 5) (.var 4)) .nil)))) [5]
def f_back_rows : Fd := ⟨3, ["square", "pressed", "column", "spots", "diodes", "key"], (.cons (.asg (.tp [3, 4]) (.var 0)) (.cons (.ret x_back_rows_C1) .nil))⟩
def m_back_rows (square : ((List (Int × Int)) × (List Int))) (pressed : (List Int)) (column : Int) : R (List Int) := Ct.run (R.ct2 ((R.ok square) : R ((List (Int × Int)) × (List Int))) fun spots diodes => (R.ct ((R.bd (R.ok pressed) fun x10 => (lcR (fun (key : Int) => (R.bd (R.bd (R.bd (R.bd (R.bd (R.ok spots) fun x4 => (R.bd (R.ok key) fun x5 => (ixR x4 x5))) fun x6 => (R.ok (x6).2)) fun x7 => (R.bd (R.ok column) fun x8 => (R.ok (decide (x7 = x8))))) fun b9 => (if b9 then (R.ok (!memT key diodes)) else (R.ok false))) fun b => if b then (R.mp (R.bd (R.bd (R.ok spots) fun x1 => (R.bd (R.ok key) fun x2 => (ixR x1 x2))) fun x3 => (R.ok (x3).1)) some) else (R.ok none))) x10)) : R (List Int)) Ct.rt))
def S_back_rows (c : Cv) : Prop := ∀ (square : ((List (Int × Int)) × (List Int))) (pressed : (List Int)) (column : Int), Lr (c.cal "back_rows" [(eP (eT (eP eI eI)) (eT eI)) square, (eT eI) pressed, eI column]) ((m_back_rows square pressed column).mp (eL eI))
theorem W_back_rows   (square : ((List (Int × Int)) × (List Int))) (pressed : (List Int)) (column : Int) : Lr (endR (exSs c f_back_rows.body (startE f_back_rows.N.length [(eP (eT (eP eI eI)) (eT eI)) square, (eT eI) pressed, eI column]))) ((m_back_rows square pressed column).mp (eL eI)) := by
  unfold m_back_rows
  refine f_end ?_
  show Lx (xK c f_back_rows.body .nx [.val ((eP (eT (eP eI eI)) (eT eI)) square), .val ((eT eI) pressed), .val (eI column), .emp, .emp, .emp]) _
  refine k_tp (r := (R.ok square)) (g := (eT (eP eI eI))) (g' := (eT eI)) ?_ fun spots diodes => ?_
  · exact (t_var (x := square) (g := (eP (eT (eP eI eI)) (eT eI))) (by rfl))
  refine k_ret (r := (R.bd (R.ok pressed) fun x10 => (lcR (fun (key : Int) => (R.bd (R.bd (R.bd (R.bd (R.bd (R.ok spots) fun x4 => (R.bd (R.ok key) fun x5 => (ixR x4 x5))) fun x6 => (R.ok (x6).2)) fun x7 => (R.bd (R.ok column) fun x8 => (R.ok (decide (x7 = x8))))) fun b9 => (if b9 then (R.ok (!memT key diodes)) else (R.ok false))) fun b => if b then (R.mp (R.bd (R.bd (R.ok spots) fun x1 => (R.bd (R.ok key) fun x2 => (ixR x1 x2))) fun x3 => (R.ok (x3).1)) some) else (R.ok none))) x10))) ?_
  exact (lc_nm (xr := (R.ok pressed)) (g := eI) (h := eI) (fc := fun key => (R.bd (R.bd (R.bd (R.bd (R.ok spots) fun x4 => (R.bd (R.ok key) fun x5 => (ixR x4 x5))) fun x6 => (R.ok (x6).2)) fun x7 => (R.bd (R.ok column) fun x8 => (R.ok (decide (x7 = x8))))) fun b9 => (if b9 then (R.ok (!memT key diodes)) else (R.ok false)))) (fe := fun key => (R.bd (R.bd (R.ok spots) fun x1 => (R.bd (R.ok key) fun x2 => (ixR x1 x2))) fun x3 => (R.ok (x3).1))) (i_seqT (ra := (R.ok pressed)) (g := eI) (t_var (x := pressed) (g := (eT eI)) (by rfl))) (fun key => c_some (rb := (R.bd (R.bd (R.bd (R.bd (R.ok spots) fun x4 => (R.bd (R.ok key) fun x5 => (ixR x4 x5))) fun x6 => (R.ok (x6).2)) fun x7 => (R.bd (R.ok column) fun x8 => (R.ok (decide (x7 = x8))))) fun b9 => (if b9 then (R.ok (!memT key diodes)) else (R.ok false)))) (t_and (ra := (R.bd (R.bd (R.bd (R.bd (R.ok spots) fun x4 => (R.bd (R.ok key) fun x5 => (ixR x4 x5))) fun x6 => (R.ok (x6).2)) fun x7 => (R.bd (R.ok column) fun x8 => (R.ok (decide (x7 = x8))))) fun b9 => (if b9 then (R.ok (!memT key diodes)) else (R.ok false)))) (and_R (ra := (R.bd (R.bd (R.bd (R.ok spots) fun x4 => (R.bd (R.ok key) fun x5 => (ixR x4 x5))) fun x6 => (R.ok (x6).2)) fun x7 => (R.bd (R.ok column) fun x8 => (R.ok (decide (x7 = x8)))))) (rs := (R.ok (!memT key diodes))) (t_cmp (o_eq eI (by decide)) (ra := (R.bd (R.bd (R.ok spots) fun x4 => (R.bd (R.ok key) fun x5 => (ixR x4 x5))) fun x6 => (R.ok (x6).2))) (rb := (R.ok column))  (t_snd (ra := (R.bd (R.ok spots) fun x4 => (R.bd (R.ok key) fun x5 => (ixR x4 x5)))) (g := eI) (h := eI) (t_idx (o_ixT (eP eI eI)) (ra := (R.ok spots)) (rb := (R.ok key))  (t_var (x := spots) (g := (eT (eP eI eI))) (by rfl)) (t_var (x := key) (g := eI) (by rfl)))) (t_var (x := column) (g := eI) (by rfl))) (and_one (ra := (R.ok (!memT key diodes))) (t_cmp (o_niT eI (by decide)) (ra := (R.ok key)) (rb := (R.ok diodes))  (t_var (x := key) (g := eI) (by rfl)) (t_var (x := diodes) (g := (eT eI)) (by rfl))))))) (fun key => (t_fst (ra := (R.bd (R.ok spots) fun x1 => (R.bd (R.ok key) fun x2 => (ixR x1 x2)))) (g := eI) (h := eI) (t_idx (o_ixT (eP eI eI)) (ra := (R.ok spots)) (rb := (R.ok key))  (t_var (x := spots) (g := (eT (eP eI eI))) (by rfl)) (t_var (x := key) (g := eI) (by rfl))))))
def x_columns_from_B2 : MSs := (.cons (.ifs (.and (.cons (.cmp .eq (.idx (.idx (.idx (.var 0) (.int 0)) (.var 6)) (.int 0)) (.idx (.var 3) (.var 5))) (.cons (.cmp .notin (.idx (.idx (.idx (.var 0) (.int 0)) (.var 6)) (.int 1)) (.peek 4)) .nil))) (.cons (.app 4 (.idx (.idx (.idx (.var 0) (.int 0)) (.var 6)) (.int 1))) (.cons (.asg (.nm 3) (.call "with_more" (.cons (.var 3) (.cons (.call "back_rows" (.cons (.var 0) (.cons (.var 1) (.cons (.idx (.idx (.idx (.var 0) (.int 0)) (.var 6)) (.int 1)) .nil)))) .nil)))) .nil)) .nil) (.cons (.fgt [6]) .nil))
def x_columns_from_L2 : MS := .for_ (.nm 6) (.seq (.var 1)) x_columns_from_B2
def x_columns_from_B1 : MSs := (.cons x_columns_from_L2 (.cons (.asg (.nm 5) (.bin .add (.var 5) (.int 1))) (.cons (.fgt [6]) .nil)))
def x_columns_from_L1 : MS := .whl (.cmp .lt (.var 5) (.bi .len (.cons (.var 3) .nil))) x_columns_from_B1
def f_columns_from : Fd := ⟨3, ["square", "pressed", "row", "rows", "columns", "at", "key"], (.cons (.asg (.nm 3) (.lst (.cons (.var 2) .nil))) (.cons (.asgL 4 .nil) (.cons (.asg (.nm 5) (.int 0)) (.cons x_columns_from_L1 (.cons (.ret (.bi .sorted (.cons (.peek 4) .nil))) .nil)))))⟩
def m_columns_from_B2 (square : ((List (Int × Int)) × (List Int))) (pressed : (List Int)) (at_ : Int) (key : Int) (s : ((List Int) × (List Int))) : Ct ((List Int) × (List Int)) (List Int) := (R.ct ((R.bd (R.bd (R.bd (R.bd (R.ok (square).1) fun x1 => (R.bd (R.ok key) fun x2 => (ixR x1 x2))) fun x3 => (R.ok (x3).1)) fun x6 => (R.bd (R.bd (R.ok s.1) fun x4 => (R.bd (R.ok at_) fun x5 => (ixR x4 x5))) fun x7 => (R.ok (decide (x6 = x7))))) fun b16 => (if b16 then (R.bd (R.bd (R.bd (R.ok (square).1) fun x11 => (R.bd (R.ok key) fun x12 => (ixR x11 x12))) fun x13 => (R.ok (x13).2)) fun x14 => (R.bd (R.ok s.2) fun x15 => (R.ok (!memT x14 x15)))) else (R.ok false))) : R Bool) fun b30 => if b30 then (R.ct ((R.bd (R.bd (R.ok (square).1) fun x17 => (R.bd (R.ok key) fun x18 => (ixR x17 x18))) fun x19 => (R.ok (x19).2)) : R Int) fun y29 => (R.ct (appR s.2 [y29]) fun columns_20 => (R.ct ((R.bd (R.ok s.1) fun x27 => (R.bd (R.bd (R.ok square) fun x24 => (R.bd (R.ok pressed) fun x25 => (R.bd (R.bd (R.bd (R.ok (square).1) fun x21 => (R.bd (R.ok key) fun x22 => (ixR x21 x22))) fun x23 => (R.ok (x23).2)) fun x26 => (m_back_rows x24 x25 x26)))) fun x28 => (m_with_more x27 x28))) : R (List Int)) fun rows => (Ct.nx (rows, columns_20))))) else (Ct.nx (s.1, s.2)))
def m_columns_from_L2 (square : ((List (Int × Int)) × (List Int))) (pressed : (List Int)) (at_ : Int) (s : ((List Int) × (List Int))) : Ct ((List Int) × (List Int)) (List Int) := (R.ct ((R.ok pressed) : R (List Int)) fun xs => forC (m_columns_from_B2 square pressed at_) xs s)
theorem W_columns_from_L2 (h_back_rows : S_back_rows c) (h_with_more : S_with_more c)  (square : ((List (Int × Int)) × (List Int))) (pressed : (List Int)) (at_ : Int) (z2 : Sl) (s : ((List Int) × (List Int))) : Lx (exS c x_columns_from_L2 [.val ((eP (eT (eP eI eI)) (eT eI)) square), .val ((eT eI) pressed), z2, .val ((eL eI) s.1), .own (List.map eI s.2), .val (eI at_), .emp]).x ((m_columns_from_L2 square pressed at_ s).fx (fun s => [.val ((eP (eT (eP eI eI)) (eT eI)) square), .val ((eT eI) pressed), z2, .val ((eL eI) s.1), .own (List.map eI s.2), .val (eI at_), .emp]) (eL eI)) := by
  unfold m_columns_from_L2
  refine s_for (E := fun s => [.val ((eP (eT (eP eI eI)) (eT eI)) square), .val ((eT eI) pressed), z2, .val ((eL eI) s.1), .own (List.map eI s.2), .val (eI at_), .emp]) (s := s) (xr := (R.ok pressed)) (g := eI) (B := (m_columns_from_B2 square pressed at_)) ?_ ?_
  · exact (i_seqT (ra := (R.ok pressed)) (g := eI) (t_var (x := pressed) (g := (eT eI)) (by rfl)))
  intro key s
  show Lx (xK c x_columns_from_B2 .nx _) ((m_columns_from_B2 square pressed at_ key s).fx _ _)
  unfold m_columns_from_B2
  refine k_if (r := (R.bd (R.bd (R.bd (R.bd (R.ok (square).1) fun x1 => (R.bd (R.ok key) fun x2 => (ixR x1 x2))) fun x3 => (R.ok (x3).1)) fun x6 => (R.bd (R.bd (R.ok s.1) fun x4 => (R.bd (R.ok at_) fun x5 => (ixR x4 x5))) fun x7 => (R.ok (decide (x6 = x7))))) fun b16 => (if b16 then (R.bd (R.bd (R.bd (R.ok (square).1) fun x11 => (R.bd (R.ok key) fun x12 => (ixR x11 x12))) fun x13 => (R.ok (x13).2)) fun x14 => (R.bd (R.ok s.2) fun x15 => (R.ok (!memT x14 x15)))) else (R.ok false)))) ?_ ?_ ?_
  · exact (t_and (ra := (R.bd (R.bd (R.bd (R.bd (R.ok (square).1) fun x1 => (R.bd (R.ok key) fun x2 => (ixR x1 x2))) fun x3 => (R.ok (x3).1)) fun x6 => (R.bd (R.bd (R.ok s.1) fun x4 => (R.bd (R.ok at_) fun x5 => (ixR x4 x5))) fun x7 => (R.ok (decide (x6 = x7))))) fun b16 => (if b16 then (R.bd (R.bd (R.bd (R.ok (square).1) fun x11 => (R.bd (R.ok key) fun x12 => (ixR x11 x12))) fun x13 => (R.ok (x13).2)) fun x14 => (R.bd (R.ok s.2) fun x15 => (R.ok (!memT x14 x15)))) else (R.ok false)))) (and_R (ra := (R.bd (R.bd (R.bd (R.ok (square).1) fun x1 => (R.bd (R.ok key) fun x2 => (ixR x1 x2))) fun x3 => (R.ok (x3).1)) fun x6 => (R.bd (R.bd (R.ok s.1) fun x4 => (R.bd (R.ok at_) fun x5 => (ixR x4 x5))) fun x7 => (R.ok (decide (x6 = x7)))))) (rs := (R.bd (R.bd (R.bd (R.ok (square).1) fun x11 => (R.bd (R.ok key) fun x12 => (ixR x11 x12))) fun x13 => (R.ok (x13).2)) fun x14 => (R.bd (R.ok s.2) fun x15 => (R.ok (!memT x14 x15))))) (t_cmp (o_eq eI (by decide)) (ra := (R.bd (R.bd (R.ok (square).1) fun x1 => (R.bd (R.ok key) fun x2 => (ixR x1 x2))) fun x3 => (R.ok (x3).1))) (rb := (R.bd (R.ok s.1) fun x4 => (R.bd (R.ok at_) fun x5 => (ixR x4 x5))))  (t_fst (ra := (R.bd (R.ok (square).1) fun x1 => (R.bd (R.ok key) fun x2 => (ixR x1 x2)))) (g := eI) (h := eI) (t_idx (o_ixT (eP eI eI)) (ra := (R.ok (square).1)) (rb := (R.ok key))  (t_fst (ra := (R.ok square)) (g := (eT (eP eI eI))) (h := (eT eI)) (t_var (x := square) (g := (eP (eT (eP eI eI)) (eT eI))) (by rfl))) (t_var (x := key) (g := eI) (by rfl)))) (t_idx (o_ixL eI) (ra := (R.ok s.1)) (rb := (R.ok at_))  (t_var (x := s.1) (g := (eL eI)) (by rfl)) (t_var (x := at_) (g := eI) (by rfl)))) (and_one (ra := (R.bd (R.bd (R.bd (R.ok (square).1) fun x11 => (R.bd (R.ok key) fun x12 => (ixR x11 x12))) fun x13 => (R.ok (x13).2)) fun x14 => (R.bd (R.ok s.2) fun x15 => (R.ok (!memT x14 x15))))) (t_cmp (o_niL eI (by decide)) (ra := (R.bd (R.bd (R.ok (square).1) fun x11 => (R.bd (R.ok key) fun x12 => (ixR x11 x12))) fun x13 => (R.ok (x13).2))) (rb := (R.ok s.2))  (t_snd (ra := (R.bd (R.ok (square).1) fun x11 => (R.bd (R.ok key) fun x12 => (ixR x11 x12)))) (g := eI) (h := eI) (t_idx (o_ixT (eP eI eI)) (ra := (R.ok (square).1)) (rb := (R.ok key))  (t_fst (ra := (R.ok square)) (g := (eT (eP eI eI))) (h := (eT eI)) (t_var (x := square) (g := (eP (eT (eP eI eI)) (eT eI))) (by rfl))) (t_var (x := key) (g := eI) (by rfl)))) (t_peek (xs := s.2) (g := eI) (by rfl))))))
  ·
    refine k_app (r := (R.bd (R.bd (R.ok (square).1) fun x17 => (R.bd (R.ok key) fun x18 => (ixR x17 x18))) fun x19 => (R.ok (x19).2))) (g := eI) (xs := s.2) rfl ?_ fun columns_20 => ?_
    · exact (t_snd (ra := (R.bd (R.ok (square).1) fun x17 => (R.bd (R.ok key) fun x18 => (ixR x17 x18)))) (g := eI) (h := eI) (t_idx (o_ixT (eP eI eI)) (ra := (R.ok (square).1)) (rb := (R.ok key))  (t_fst (ra := (R.ok square)) (g := (eT (eP eI eI))) (h := (eT eI)) (t_var (x := square) (g := (eP (eT (eP eI eI)) (eT eI))) (by rfl))) (t_var (x := key) (g := eI) (by rfl))))
    refine k_asg (r := (R.bd (R.ok s.1) fun x27 => (R.bd (R.bd (R.ok square) fun x24 => (R.bd (R.ok pressed) fun x25 => (R.bd (R.bd (R.bd (R.ok (square).1) fun x21 => (R.bd (R.ok key) fun x22 => (ixR x21 x22))) fun x23 => (R.ok (x23).2)) fun x26 => (m_back_rows x24 x25 x26)))) fun x28 => (m_with_more x27 x28)))) (g := (eL eI)) ?_ fun rows => ?_
    · exact (t_call2 (ra := (R.ok s.1)) (rb := (R.bd (R.ok square) fun x24 => (R.bd (R.ok pressed) fun x25 => (R.bd (R.bd (R.bd (R.ok (square).1) fun x21 => (R.bd (R.ok key) fun x22 => (ixR x21 x22))) fun x23 => (R.ok (x23).2)) fun x26 => (m_back_rows x24 x25 x26))))) (g := (eL eI)) (h := (eL eI)) (k := (eL eI)) h_with_more (t_var (x := s.1) (g := (eL eI)) (by rfl)) (t_call3 (ra := (R.ok square)) (rb := (R.ok pressed)) (rd := (R.bd (R.bd (R.ok (square).1) fun x21 => (R.bd (R.ok key) fun x22 => (ixR x21 x22))) fun x23 => (R.ok (x23).2))) (g := (eP (eT (eP eI eI)) (eT eI))) (h := (eT eI)) (l := eI) (k := (eL eI)) h_back_rows (t_var (x := square) (g := (eP (eT (eP eI eI)) (eT eI))) (by rfl)) (t_var (x := pressed) (g := (eT eI)) (by rfl)) (t_snd (ra := (R.bd (R.ok (square).1) fun x21 => (R.bd (R.ok key) fun x22 => (ixR x21 x22)))) (g := eI) (h := eI) (t_idx (o_ixT (eP eI eI)) (ra := (R.ok (square).1)) (rb := (R.ok key))  (t_fst (ra := (R.ok square)) (g := (eT (eP eI eI))) (h := (eT eI)) (t_var (x := square) (g := (eP (eT (eP eI eI)) (eT eI))) (by rfl))) (t_var (x := key) (g := eI) (by rfl))))))
    refine k_nil ?_
    refine k_fgt ?_
    exact k_end rfl
  ·
    refine k_nil ?_
    refine k_fgt ?_
    exact k_end rfl
def m_columns_from_B1 (square : ((List (Int × Int)) × (List Int))) (pressed : (List Int)) (s : ((List Int) × (List Int) × Int)) : Ct ((List Int) × (List Int) × Int) (List Int) := (Ct.bind (m_columns_from_L2 square pressed s.2.2 (s.1, s.2.1)) fun s31 => (R.ct ((R.ok (s.2.2 + (1 : Int))) : R Int) fun at_ => (Ct.nx (s31.1, s31.2, at_))))
def m_columns_from_B1T (square : ((List (Int × Int)) × (List Int))) (pressed : (List Int)) (s : ((List Int) × (List Int) × Int)) : R Bool := (R.ok (decide (s.2.2 < ((s.1).length : Int))))
def m_columns_from_L1 (square : ((List (Int × Int)) × (List Int))) (pressed : (List Int)) (s : ((List Int) × (List Int) × Int)) : Ct ((List Int) × (List Int) × Int) (List Int) := (whC (m_columns_from_B1T square pressed) (m_columns_from_B1 square pressed) 1000 s)
theorem W_columns_from_L1 (h_back_rows : S_back_rows c) (h_with_more : S_with_more c)  (square : ((List (Int × Int)) × (List Int))) (pressed : (List Int)) (z2 : Sl) (s : ((List Int) × (List Int) × Int)) : Lx (exS c x_columns_from_L1 [.val ((eP (eT (eP eI eI)) (eT eI)) square), .val ((eT eI) pressed), z2, .val ((eL eI) s.1), .own (List.map eI s.2.1), .val (eI s.2.2), .emp]).x ((m_columns_from_L1 square pressed s).fx (fun s => [.val ((eP (eT (eP eI eI)) (eT eI)) square), .val ((eT eI) pressed), z2, .val ((eL eI) s.1), .own (List.map eI s.2.1), .val (eI s.2.2), .emp]) (eL eI)) := by
  unfold m_columns_from_L1
  refine s_whl (E := fun s => [.val ((eP (eT (eP eI eI)) (eT eI)) square), .val ((eT eI) pressed), z2, .val ((eL eI) s.1), .own (List.map eI s.2.1), .val (eI s.2.2), .emp]) (s := s) (T := m_columns_from_B1T square pressed) (B := m_columns_from_B1 square pressed) (fun s => ?_) ?_
  · exact (t_cmp o_lt (ra := (R.ok s.2.2)) (rb := (R.ok ((s.1).length : Int)))  (t_var (x := s.2.2) (g := eI) (by rfl)) (t_bi1 (o_lenL eI) (ra := (R.ok s.1))  (t_var (x := s.1) (g := (eL eI)) (by rfl))))
  intro s
  show Lx (xK c x_columns_from_B1 .nx _) _
  unfold m_columns_from_B1
  refine k_stm (P := (m_columns_from_L2 square pressed s.2.2 (s.1, s.2.1))) (W_columns_from_L2 h_back_rows h_with_more  square pressed s.2.2 _ (s.1, s.2.1)) fun s31 => ?_
  refine k_asg (r := (R.ok (s.2.2 + (1 : Int)))) (g := eI) ?_ fun at_ => ?_
  · exact (t_bin o_add (ra := (R.ok s.2.2)) (rb := (R.ok (1 : Int)))  (t_var (x := s.2.2) (g := eI) (by rfl)) (t_int 1))
  refine k_fgt ?_
  exact k_end rfl
def m_columns_from (square : ((List (Int × Int)) × (List Int))) (pressed : (List Int)) (row : Int) : R (List Int) := Ct.run (R.ct ((R.ok (row :: ([] : List Int))) : R (List Int)) fun rows => (R.ct ((R.ok ([] : List Int)) : R (List Int)) fun columns => (R.ct ((R.ok (0 : Int)) : R Int) fun at_ => (Ct.bind (m_columns_from_L1 square pressed (rows, columns, at_)) fun s32 => (R.ct ((R.ok (srtT s32.2.1)) : R (List Int)) Ct.rt)))))
def S_columns_from (c : Cv) : Prop := ∀ (square : ((List (Int × Int)) × (List Int))) (pressed : (List Int)) (row : Int), Lr (c.cal "columns_from" [(eP (eT (eP eI eI)) (eT eI)) square, (eT eI) pressed, eI row]) ((m_columns_from square pressed row).mp (eL eI))
theorem W_columns_from (h_back_rows : S_back_rows c) (h_with_more : S_with_more c)  (square : ((List (Int × Int)) × (List Int))) (pressed : (List Int)) (row : Int) : Lr (endR (exSs c f_columns_from.body (startE f_columns_from.N.length [(eP (eT (eP eI eI)) (eT eI)) square, (eT eI) pressed, eI row]))) ((m_columns_from square pressed row).mp (eL eI)) := by
  unfold m_columns_from
  refine f_end ?_
  show Lx (xK c f_columns_from.body .nx [.val ((eP (eT (eP eI eI)) (eT eI)) square), .val ((eT eI) pressed), .val (eI row), .emp, .emp, .emp, .emp]) _
  refine k_asg (r := (R.ok (row :: ([] : List Int)))) (g := (eL eI)) ?_ fun rows => ?_
  · exact (t_lst (rs := (R.ok (row :: ([] : List Int)))) (g := eI) (es_cons (ra := (R.ok row)) (rs := (R.ok ([] : List Int))) (g := eI) (t_var (x := row) (g := eI) (by rfl)) (es_nil (g := eI))))
  refine k_asgL (r := (R.ok ([] : List Int))) (g := eI) ?_ fun columns => ?_
  · exact (es_nil (g := eI))
  refine k_asg (r := (R.ok (0 : Int))) (g := eI) ?_ fun at_ => ?_
  · exact (t_int 0)
  refine k_stm (P := (m_columns_from_L1 square pressed (rows, columns, at_))) (W_columns_from_L1 h_back_rows h_with_more  square pressed _ (rows, columns, at_)) fun s32 => ?_
  refine k_ret (r := (R.ok (srtT s32.2.1))) ?_
  exact (t_bi1 (o_srtL eI (by decide)) (ra := (R.ok s32.2.1))  (t_peek (xs := s32.2.1) (g := eI) (by rfl)))
def x_keys_seen_B1 : MSs := (.cons (.ifs (.cmp .isin (.idx (.var 4) (.int 1)) (.call "columns_from" (.cons (.var 0) (.cons (.var 1) (.cons (.idx (.var 4) (.int 0)) .nil))))) (.cons (.app 2 (.var 3)) .nil) .nil) (.cons (.fgt [3, 4]) .nil))
def x_keys_seen_L1 : MS := .for_ (.tp [3, 4]) (.enum (.idx (.var 0) (.int 0))) x_keys_seen_B1
def f_keys_seen : Fd := ⟨2, ["square", "pressed", "found", "key", "spot"], (.cons (.asgL 2 .nil) (.cons x_keys_seen_L1 (.cons (.frz 2) (.cons (.ret (.var 2)) .nil))))⟩
def m_keys_seen_B1 (square : ((List (Int × Int)) × (List Int))) (pressed : (List Int)) (key : Int) (spot : (Int × Int)) (s : (List Int)) : Ct (List Int) (List Int) := (R.ct ((R.bd (R.ok (spot).2) fun x4 => (R.bd (R.bd (R.ok square) fun x1 => (R.bd (R.ok pressed) fun x2 => (R.bd (R.ok (spot).1) fun x3 => (m_columns_from x1 x2 x3)))) fun x5 => (R.ok (memT x4 x5)))) : R Bool) fun b8 => if b8 then (R.ct ((R.ok key) : R Int) fun y7 => (R.ct (appR s [y7]) fun found_6 => (Ct.nx found_6))) else (Ct.nx s))
def m_keys_seen_L1 (square : ((List (Int × Int)) × (List Int))) (pressed : (List Int)) (s : (List Int)) : Ct (List Int) (List Int) := (R.ct ((R.ok (enT 0 (square).1)) : R (List (Int × (Int × Int)))) fun xs => forC (fun p s => m_keys_seen_B1 square pressed p.1 p.2 s) xs s)
theorem W_keys_seen_L1 (h_columns_from : S_columns_from c)  (square : ((List (Int × Int)) × (List Int))) (pressed : (List Int))  (s : (List Int)) : Lx (exS c x_keys_seen_L1 [.val ((eP (eT (eP eI eI)) (eT eI)) square), .val ((eT eI) pressed), .own (List.map eI s), .emp, .emp]).x ((m_keys_seen_L1 square pressed s).fx (fun s => [.val ((eP (eT (eP eI eI)) (eT eI)) square), .val ((eT eI) pressed), .own (List.map eI s), .emp, .emp]) (eL eI)) := by
  unfold m_keys_seen_L1
  refine s_for (E := fun s => [.val ((eP (eT (eP eI eI)) (eT eI)) square), .val ((eT eI) pressed), .own (List.map eI s), .emp, .emp]) (s := s) (xr := (R.ok (enT 0 (square).1))) (g := (eP eI (eP eI eI))) (B := (fun p s => m_keys_seen_B1 square pressed p.1 p.2 s)) ?_ ?_
  · exact (i_enT (ra := (R.ok (square).1)) (g := (eP eI eI)) (t_fst (ra := (R.ok square)) (g := (eT (eP eI eI))) (h := (eT eI)) (t_var (x := square) (g := (eP (eT (eP eI eI)) (eT eI))) (by rfl))))
  rintro ⟨key, spot⟩ s
  show Lx (xK c x_keys_seen_B1 .nx _) ((m_keys_seen_B1 square pressed key spot s).fx _ _)
  unfold m_keys_seen_B1
  refine k_if (r := (R.bd (R.ok (spot).2) fun x4 => (R.bd (R.bd (R.ok square) fun x1 => (R.bd (R.ok pressed) fun x2 => (R.bd (R.ok (spot).1) fun x3 => (m_columns_from x1 x2 x3)))) fun x5 => (R.ok (memT x4 x5))))) ?_ ?_ ?_
  · exact (t_cmp (o_inL eI (by decide)) (ra := (R.ok (spot).2)) (rb := (R.bd (R.ok square) fun x1 => (R.bd (R.ok pressed) fun x2 => (R.bd (R.ok (spot).1) fun x3 => (m_columns_from x1 x2 x3)))))  (t_snd (ra := (R.ok spot)) (g := eI) (h := eI) (t_var (x := spot) (g := (eP eI eI)) (by rfl))) (t_call3 (ra := (R.ok square)) (rb := (R.ok pressed)) (rd := (R.ok (spot).1)) (g := (eP (eT (eP eI eI)) (eT eI))) (h := (eT eI)) (l := eI) (k := (eL eI)) h_columns_from (t_var (x := square) (g := (eP (eT (eP eI eI)) (eT eI))) (by rfl)) (t_var (x := pressed) (g := (eT eI)) (by rfl)) (t_fst (ra := (R.ok spot)) (g := eI) (h := eI) (t_var (x := spot) (g := (eP eI eI)) (by rfl)))))
  ·
    refine k_app (r := (R.ok key)) (g := eI) (xs := s) rfl ?_ fun found_6 => ?_
    · exact (t_var (x := key) (g := eI) (by rfl))
    refine k_nil ?_
    refine k_fgt ?_
    exact k_end rfl
  ·
    refine k_nil ?_
    refine k_fgt ?_
    exact k_end rfl
def m_keys_seen (square : ((List (Int × Int)) × (List Int))) (pressed : (List Int)) : R (List Int) := Ct.run (R.ct ((R.ok ([] : List Int)) : R (List Int)) fun found => (Ct.bind (m_keys_seen_L1 square pressed found) fun s9 => (R.ct ((R.ok s9) : R (List Int)) Ct.rt)))
def S_keys_seen (c : Cv) : Prop := ∀ (square : ((List (Int × Int)) × (List Int))) (pressed : (List Int)), Lr (c.cal "keys_seen" [(eP (eT (eP eI eI)) (eT eI)) square, (eT eI) pressed]) ((m_keys_seen square pressed).mp (eL eI))
theorem W_keys_seen (h_columns_from : S_columns_from c)  (square : ((List (Int × Int)) × (List Int))) (pressed : (List Int)) : Lr (endR (exSs c f_keys_seen.body (startE f_keys_seen.N.length [(eP (eT (eP eI eI)) (eT eI)) square, (eT eI) pressed]))) ((m_keys_seen square pressed).mp (eL eI)) := by
  unfold m_keys_seen
  refine f_end ?_
  show Lx (xK c f_keys_seen.body .nx [.val ((eP (eT (eP eI eI)) (eT eI)) square), .val ((eT eI) pressed), .emp, .emp, .emp]) _
  refine k_asgL (r := (R.ok ([] : List Int))) (g := eI) ?_ fun found => ?_
  · exact (es_nil (g := eI))
  refine k_stm (P := (m_keys_seen_L1 square pressed found)) (W_keys_seen_L1 h_columns_from  square pressed  found) fun s9 => ?_
  refine k_frz (xs := s9.map eI) rfl ?_
  refine k_ret (r := (R.ok s9)) ?_
  exact (t_var (x := s9) (g := (eL eI)) (by rfl))
def f_seen : Fd := ⟨2, ["square", "pressed"], (.cons (.exp (.call "need_square" (.cons (.var 0) .nil))) (.cons (.exp (.call "need_keys" (.cons (.var 0) (.cons (.var 1) .nil)))) (.cons (.ret (.call "keys_seen" (.cons (.var 0) (.cons (.var 1) .nil)))) .nil)))⟩
def m_seen (square : ((List (Int × Int)) × (List Int))) (pressed : (List Int)) : R (List Int) := Ct.run (R.ct ((R.bd (R.ok ((eP (eT (eP eI eI)) (eT eI)) square)) fun x1 => (needSq x1)) : R Unit) fun _ => (R.ct ((R.bd (R.ok square) fun x2 => (R.bd (R.ok ((eT eI) pressed)) fun x3 => (needKs x2 x3))) : R Unit) fun _ => (R.ct ((R.bd (R.ok square) fun x4 => (R.bd (R.ok pressed) fun x5 => (m_keys_seen x4 x5))) : R (List Int)) Ct.rt)))
def S_seen (c : Cv) : Prop := ∀ (square : ((List (Int × Int)) × (List Int))) (pressed : (List Int)), Lr (c.cal "seen" [(eP (eT (eP eI eI)) (eT eI)) square, (eT eI) pressed]) ((m_seen square pressed).mp (eL eI))
theorem W_seen (h_need_square : S_need_square c) (h_need_keys : S_need_keys c) (h_keys_seen : S_keys_seen c)  (square : ((List (Int × Int)) × (List Int))) (pressed : (List Int)) : Lr (endR (exSs c f_seen.body (startE f_seen.N.length [(eP (eT (eP eI eI)) (eT eI)) square, (eT eI) pressed]))) ((m_seen square pressed).mp (eL eI)) := by
  unfold m_seen
  refine f_end ?_
  show Lx (xK c f_seen.body .nx [.val ((eP (eT (eP eI eI)) (eT eI)) square), .val ((eT eI) pressed)]) _
  refine k_exp (r := (R.bd (R.ok ((eP (eT (eP eI eI)) (eT eI)) square)) fun x1 => (needSq x1))) (g := eU) ?_ ?_
  · exact (t_call1 (ra := (R.ok ((eP (eT (eP eI eI)) (eT eI)) square))) (g := eD) (k := eU) (fun x0 => Lr.of (h_need_square x0)) (t_toD (ra := (R.ok square)) (g := (eP (eT (eP eI eI)) (eT eI))) (t_var (x := square) (g := (eP (eT (eP eI eI)) (eT eI))) (by rfl))))
  refine k_exp (r := (R.bd (R.ok square) fun x2 => (R.bd (R.ok ((eT eI) pressed)) fun x3 => (needKs x2 x3)))) (g := eU) ?_ ?_
  · exact (t_call2 (ra := (R.ok square)) (rb := (R.ok ((eT eI) pressed))) (g := (eP (eT (eP eI eI)) (eT eI))) (h := eD) (k := eU) (fun x0 x1 => Lr.of (h_need_keys x0 x1)) (t_var (x := square) (g := (eP (eT (eP eI eI)) (eT eI))) (by rfl)) (t_toD (ra := (R.ok pressed)) (g := (eT eI)) (t_var (x := pressed) (g := (eT eI)) (by rfl))))
  refine k_ret (r := (R.bd (R.ok square) fun x4 => (R.bd (R.ok pressed) fun x5 => (m_keys_seen x4 x5)))) ?_
  exact (t_call2 (ra := (R.ok square)) (rb := (R.ok pressed)) (g := (eP (eT (eP eI eI)) (eT eI))) (h := (eT eI)) (k := (eL eI)) h_keys_seen (t_var (x := square) (g := (eP (eT (eP eI eI)) (eT eI))) (by rfl)) (t_var (x := pressed) (g := (eT eI)) (by rfl)))
def m_seen_D (square : D) (pressed : D) : R (List Int) := Ct.run (R.ct ((R.bd (R.ok square) fun x1 => (needSq x1)) : R Unit) fun _ => (R.ct ((R.bd (R.bd (R.ok square) fun z => (deR (dPr (dTl (dPr dI dI)) (dTl dI)) z)) fun x2 => (R.bd (R.ok pressed) fun x3 => (needKs x2 x3))) : R Unit) fun _ => (R.ct ((R.bd (R.bd (R.ok square) fun z => (deR (dPr (dTl (dPr dI dI)) (dTl dI)) z)) fun x4 => (R.bd (R.bd (R.ok pressed) fun z => (deR (dTl dI) z)) fun x5 => (m_keys_seen x4 x5))) : R (List Int)) Ct.rt)))
def S_seen_D (c : Cv) : Prop := ∀ (square : D) (pressed : D), Lr (c.cal "seen" [eD square, eD pressed]) ((m_seen_D square pressed).mp (eL eI))
theorem W_seen_D (h_need_square : S_need_square c) (h_need_keys : S_need_keys c) (h_keys_seen : S_keys_seen c)  (square : D) (pressed : D) : Lr (endR (exSs c f_seen.body (startE f_seen.N.length [eD square, eD pressed]))) ((m_seen_D square pressed).mp (eL eI)) := by
  unfold m_seen_D
  refine f_end ?_
  show Lx (xK c f_seen.body .nx [.val (eD square), .val (eD pressed)]) _
  refine k_exp (r := (R.bd (R.ok square) fun x1 => (needSq x1))) (g := eU) ?_ ?_
  · exact (t_call1 (ra := (R.ok square)) (g := eD) (k := eU) (fun x0 => Lr.of (h_need_square x0)) (t_var (x := square) (g := eD) (by rfl)))
  refine k_exp (r := (R.bd (R.bd (R.ok square) fun z => (deR (dPr (dTl (dPr dI dI)) (dTl dI)) z)) fun x2 => (R.bd (R.ok pressed) fun x3 => (needKs x2 x3)))) (g := eU) ?_ ?_
  · exact (t_call2 (ra := (R.bd (R.ok square) fun z => (deR (dPr (dTl (dPr dI dI)) (dTl dI)) z))) (rb := (R.ok pressed)) (g := (eP (eT (eP eI eI)) (eT eI))) (h := eD) (k := eU) (fun x0 x1 => Lr.of (h_need_keys x0 x1)) (t_dec (ra := (R.ok square)) (g := (eP (eT (eP eI eI)) (eT eI))) (dec := (dPr (dTl (dPr dI dI)) (dTl dI))) (dPr_ok (dTl_ok (dPr_ok dI_ok dI_ok)) (dTl_ok dI_ok)) (t_var (x := square) (g := eD) (by rfl))) (t_var (x := pressed) (g := eD) (by rfl)))
  refine k_ret (r := (R.bd (R.bd (R.ok square) fun z => (deR (dPr (dTl (dPr dI dI)) (dTl dI)) z)) fun x4 => (R.bd (R.bd (R.ok pressed) fun z => (deR (dTl dI) z)) fun x5 => (m_keys_seen x4 x5)))) ?_
  exact (t_call2 (ra := (R.bd (R.ok square) fun z => (deR (dPr (dTl (dPr dI dI)) (dTl dI)) z))) (rb := (R.bd (R.ok pressed) fun z => (deR (dTl dI) z))) (g := (eP (eT (eP eI eI)) (eT eI))) (h := (eT eI)) (k := (eL eI)) h_keys_seen (t_dec (ra := (R.ok square)) (g := (eP (eT (eP eI eI)) (eT eI))) (dec := (dPr (dTl (dPr dI dI)) (dTl dI))) (dPr_ok (dTl_ok (dPr_ok dI_ok dI_ok)) (dTl_ok dI_ok)) (t_var (x := square) (g := eD) (by rfl))) (t_dec (ra := (R.ok pressed)) (g := (eT eI)) (dec := (dTl dI)) (dTl_ok dI_ok) (t_var (x := pressed) (g := eD) (by rfl))))
def x_false_keys_C1 : ME := .lc (.var 2) (.nm 2) (.seq (.call "keys_seen" (.cons (.var 0) (.cons (.var 1) .nil)))) (.some (.cmp .notin (.var 2) (.var 1))) [2]
def f_false_keys : Fd := ⟨2, ["square", "pressed", "key"], (.cons (.exp (.call "need_square" (.cons (.var 0) .nil))) (.cons (.exp (.call "need_keys" (.cons (.var 0) (.cons (.var 1) .nil)))) (.cons (.ret x_false_keys_C1) .nil)))⟩
def m_false_keys (square : ((List (Int × Int)) × (List Int))) (pressed : (List Int)) : R (List Int) := Ct.run (R.ct ((R.bd (R.ok ((eP (eT (eP eI eI)) (eT eI)) square)) fun x1 => (needSq x1)) : R Unit) fun _ => (R.ct ((R.bd (R.ok square) fun x2 => (R.bd (R.ok ((eT eI) pressed)) fun x3 => (needKs x2 x3))) : R Unit) fun _ => (R.ct ((R.bd (R.bd (R.ok square) fun x4 => (R.bd (R.ok pressed) fun x5 => (m_keys_seen x4 x5))) fun x6 => (R.ok (List.filter (fun (key : Int) => (!memT key pressed)) x6))) : R (List Int)) Ct.rt)))
def S_false_keys (c : Cv) : Prop := ∀ (square : ((List (Int × Int)) × (List Int))) (pressed : (List Int)), Lr (c.cal "false_keys" [(eP (eT (eP eI eI)) (eT eI)) square, (eT eI) pressed]) ((m_false_keys square pressed).mp (eL eI))
theorem W_false_keys (h_need_square : S_need_square c) (h_need_keys : S_need_keys c) (h_keys_seen : S_keys_seen c)  (square : ((List (Int × Int)) × (List Int))) (pressed : (List Int)) : Lr (endR (exSs c f_false_keys.body (startE f_false_keys.N.length [(eP (eT (eP eI eI)) (eT eI)) square, (eT eI) pressed]))) ((m_false_keys square pressed).mp (eL eI)) := by
  unfold m_false_keys
  refine f_end ?_
  show Lx (xK c f_false_keys.body .nx [.val ((eP (eT (eP eI eI)) (eT eI)) square), .val ((eT eI) pressed), .emp]) _
  refine k_exp (r := (R.bd (R.ok ((eP (eT (eP eI eI)) (eT eI)) square)) fun x1 => (needSq x1))) (g := eU) ?_ ?_
  · exact (t_call1 (ra := (R.ok ((eP (eT (eP eI eI)) (eT eI)) square))) (g := eD) (k := eU) (fun x0 => Lr.of (h_need_square x0)) (t_toD (ra := (R.ok square)) (g := (eP (eT (eP eI eI)) (eT eI))) (t_var (x := square) (g := (eP (eT (eP eI eI)) (eT eI))) (by rfl))))
  refine k_exp (r := (R.bd (R.ok square) fun x2 => (R.bd (R.ok ((eT eI) pressed)) fun x3 => (needKs x2 x3)))) (g := eU) ?_ ?_
  · exact (t_call2 (ra := (R.ok square)) (rb := (R.ok ((eT eI) pressed))) (g := (eP (eT (eP eI eI)) (eT eI))) (h := eD) (k := eU) (fun x0 x1 => Lr.of (h_need_keys x0 x1)) (t_var (x := square) (g := (eP (eT (eP eI eI)) (eT eI))) (by rfl)) (t_toD (ra := (R.ok pressed)) (g := (eT eI)) (t_var (x := pressed) (g := (eT eI)) (by rfl))))
  refine k_ret (r := (R.bd (R.bd (R.ok square) fun x4 => (R.bd (R.ok pressed) fun x5 => (m_keys_seen x4 x5))) fun x6 => (R.ok (List.filter (fun (key : Int) => (!memT key pressed)) x6)))) ?_
  exact (lc_nmI (xr := (R.bd (R.ok square) fun x4 => (R.bd (R.ok pressed) fun x5 => (m_keys_seen x4 x5)))) (g := eI) (p := fun key => (!memT key pressed)) (i_seqL (ra := (R.bd (R.ok square) fun x4 => (R.bd (R.ok pressed) fun x5 => (m_keys_seen x4 x5)))) (g := eI) (t_call2 (ra := (R.ok square)) (rb := (R.ok pressed)) (g := (eP (eT (eP eI eI)) (eT eI))) (h := (eT eI)) (k := (eL eI)) h_keys_seen (t_var (x := square) (g := (eP (eT (eP eI eI)) (eT eI))) (by rfl)) (t_var (x := pressed) (g := (eT eI)) (by rfl)))) (fun key => c_some (rb := (R.ok (!memT key pressed))) (t_cmp (o_niT eI (by decide)) (ra := (R.ok key)) (rb := (R.ok pressed))  (t_var (x := key) (g := eI) (by rfl)) (t_var (x := pressed) (g := (eT eI)) (by rfl)))) (fun key => (t_var (x := key) (g := eI) (by rfl))))
def m_false_keys_D (square : D) (pressed : D) : R (List Int) := Ct.run (R.ct ((R.bd (R.ok square) fun x1 => (needSq x1)) : R Unit) fun _ => (R.ct ((R.bd (R.bd (R.ok square) fun z => (deR (dPr (dTl (dPr dI dI)) (dTl dI)) z)) fun x2 => (R.bd (R.ok pressed) fun x3 => (needKs x2 x3))) : R Unit) fun _ => (R.ct ((R.bd (R.bd (R.bd (R.ok square) fun z => (deR (dPr (dTl (dPr dI dI)) (dTl dI)) z)) fun x4 => (R.bd (R.bd (R.ok pressed) fun z => (deR (dTl dI) z)) fun x5 => (m_keys_seen x4 x5))) fun x8 => (lcR (fun (key : Int) => (R.bd (R.bd (R.ok key) fun x6 => (R.bd (R.bd (R.ok pressed) fun z => (deR (dTl dI) z)) fun x7 => (R.ok (!memT x6 x7)))) fun b => if b then (R.mp (R.ok key) some) else (R.ok none))) x8)) : R (List Int)) Ct.rt)))
def S_false_keys_D (c : Cv) : Prop := ∀ (square : D) (pressed : D), Lr (c.cal "false_keys" [eD square, eD pressed]) ((m_false_keys_D square pressed).mp (eL eI))
theorem W_false_keys_D (h_need_square : S_need_square c) (h_need_keys : S_need_keys c) (h_keys_seen : S_keys_seen c)  (square : D) (pressed : D) : Lr (endR (exSs c f_false_keys.body (startE f_false_keys.N.length [eD square, eD pressed]))) ((m_false_keys_D square pressed).mp (eL eI)) := by
  unfold m_false_keys_D
  refine f_end ?_
  show Lx (xK c f_false_keys.body .nx [.val (eD square), .val (eD pressed), .emp]) _
  refine k_exp (r := (R.bd (R.ok square) fun x1 => (needSq x1))) (g := eU) ?_ ?_
  · exact (t_call1 (ra := (R.ok square)) (g := eD) (k := eU) (fun x0 => Lr.of (h_need_square x0)) (t_var (x := square) (g := eD) (by rfl)))
  refine k_exp (r := (R.bd (R.bd (R.ok square) fun z => (deR (dPr (dTl (dPr dI dI)) (dTl dI)) z)) fun x2 => (R.bd (R.ok pressed) fun x3 => (needKs x2 x3)))) (g := eU) ?_ ?_
  · exact (t_call2 (ra := (R.bd (R.ok square) fun z => (deR (dPr (dTl (dPr dI dI)) (dTl dI)) z))) (rb := (R.ok pressed)) (g := (eP (eT (eP eI eI)) (eT eI))) (h := eD) (k := eU) (fun x0 x1 => Lr.of (h_need_keys x0 x1)) (t_dec (ra := (R.ok square)) (g := (eP (eT (eP eI eI)) (eT eI))) (dec := (dPr (dTl (dPr dI dI)) (dTl dI))) (dPr_ok (dTl_ok (dPr_ok dI_ok dI_ok)) (dTl_ok dI_ok)) (t_var (x := square) (g := eD) (by rfl))) (t_var (x := pressed) (g := eD) (by rfl)))
  refine k_ret (r := (R.bd (R.bd (R.bd (R.ok square) fun z => (deR (dPr (dTl (dPr dI dI)) (dTl dI)) z)) fun x4 => (R.bd (R.bd (R.ok pressed) fun z => (deR (dTl dI) z)) fun x5 => (m_keys_seen x4 x5))) fun x8 => (lcR (fun (key : Int) => (R.bd (R.bd (R.ok key) fun x6 => (R.bd (R.bd (R.ok pressed) fun z => (deR (dTl dI) z)) fun x7 => (R.ok (!memT x6 x7)))) fun b => if b then (R.mp (R.ok key) some) else (R.ok none))) x8))) ?_
  exact (lc_nm (xr := (R.bd (R.bd (R.ok square) fun z => (deR (dPr (dTl (dPr dI dI)) (dTl dI)) z)) fun x4 => (R.bd (R.bd (R.ok pressed) fun z => (deR (dTl dI) z)) fun x5 => (m_keys_seen x4 x5)))) (g := eI) (h := eI) (fc := fun key => (R.bd (R.ok key) fun x6 => (R.bd (R.bd (R.ok pressed) fun z => (deR (dTl dI) z)) fun x7 => (R.ok (!memT x6 x7))))) (fe := fun key => (R.ok key)) (i_seqL (ra := (R.bd (R.bd (R.ok square) fun z => (deR (dPr (dTl (dPr dI dI)) (dTl dI)) z)) fun x4 => (R.bd (R.bd (R.ok pressed) fun z => (deR (dTl dI) z)) fun x5 => (m_keys_seen x4 x5)))) (g := eI) (t_call2 (ra := (R.bd (R.ok square) fun z => (deR (dPr (dTl (dPr dI dI)) (dTl dI)) z))) (rb := (R.bd (R.ok pressed) fun z => (deR (dTl dI) z))) (g := (eP (eT (eP eI eI)) (eT eI))) (h := (eT eI)) (k := (eL eI)) h_keys_seen (t_dec (ra := (R.ok square)) (g := (eP (eT (eP eI eI)) (eT eI))) (dec := (dPr (dTl (dPr dI dI)) (dTl dI))) (dPr_ok (dTl_ok (dPr_ok dI_ok dI_ok)) (dTl_ok dI_ok)) (t_var (x := square) (g := eD) (by rfl))) (t_dec (ra := (R.ok pressed)) (g := (eT eI)) (dec := (dTl dI)) (dTl_ok dI_ok) (t_var (x := pressed) (g := eD) (by rfl))))) (fun key => c_some (rb := (R.bd (R.ok key) fun x6 => (R.bd (R.bd (R.ok pressed) fun z => (deR (dTl dI) z)) fun x7 => (R.ok (!memT x6 x7))))) (t_cmp (o_niT eI (by decide)) (ra := (R.ok key)) (rb := (R.bd (R.ok pressed) fun z => (deR (dTl dI) z)))  (t_var (x := key) (g := eI) (by rfl)) (t_dec (ra := (R.ok pressed)) (g := (eT eI)) (dec := (dTl dI)) (dTl_ok dI_ok) (t_var (x := pressed) (g := eD) (by rfl))))) (fun key => (t_var (x := key) (g := eI) (by rfl))))
def f_is_true : Fd := ⟨2, ["square", "pressed"], (.cons (.exp (.call "need_square" (.cons (.var 0) .nil))) (.cons (.exp (.call "need_keys" (.cons (.var 0) (.cons (.var 1) .nil)))) (.cons (.ret (.cmp .eq (.call "keys_seen" (.cons (.var 0) (.cons (.var 1) .nil))) (.bi .list (.cons (.var 1) .nil)))) .nil)))⟩
def m_is_true (square : ((List (Int × Int)) × (List Int))) (pressed : (List Int)) : R Bool := Ct.run (R.ct ((R.bd (R.ok ((eP (eT (eP eI eI)) (eT eI)) square)) fun x1 => (needSq x1)) : R Unit) fun _ => (R.ct ((R.bd (R.ok square) fun x2 => (R.bd (R.ok ((eT eI) pressed)) fun x3 => (needKs x2 x3))) : R Unit) fun _ => (R.ct ((R.bd (R.bd (R.ok square) fun x4 => (R.bd (R.ok pressed) fun x5 => (m_keys_seen x4 x5))) fun x6 => (R.bd (R.ok pressed) fun x7 => (R.ok (decide (x6 = x7))))) : R Bool) Ct.rt)))
def S_is_true (c : Cv) : Prop := ∀ (square : ((List (Int × Int)) × (List Int))) (pressed : (List Int)), Lr (c.cal "is_true" [(eP (eT (eP eI eI)) (eT eI)) square, (eT eI) pressed]) ((m_is_true square pressed).mp eB)
theorem W_is_true (h_need_square : S_need_square c) (h_need_keys : S_need_keys c) (h_keys_seen : S_keys_seen c)  (square : ((List (Int × Int)) × (List Int))) (pressed : (List Int)) : Lr (endR (exSs c f_is_true.body (startE f_is_true.N.length [(eP (eT (eP eI eI)) (eT eI)) square, (eT eI) pressed]))) ((m_is_true square pressed).mp eB) := by
  unfold m_is_true
  refine f_end ?_
  show Lx (xK c f_is_true.body .nx [.val ((eP (eT (eP eI eI)) (eT eI)) square), .val ((eT eI) pressed)]) _
  refine k_exp (r := (R.bd (R.ok ((eP (eT (eP eI eI)) (eT eI)) square)) fun x1 => (needSq x1))) (g := eU) ?_ ?_
  · exact (t_call1 (ra := (R.ok ((eP (eT (eP eI eI)) (eT eI)) square))) (g := eD) (k := eU) (fun x0 => Lr.of (h_need_square x0)) (t_toD (ra := (R.ok square)) (g := (eP (eT (eP eI eI)) (eT eI))) (t_var (x := square) (g := (eP (eT (eP eI eI)) (eT eI))) (by rfl))))
  refine k_exp (r := (R.bd (R.ok square) fun x2 => (R.bd (R.ok ((eT eI) pressed)) fun x3 => (needKs x2 x3)))) (g := eU) ?_ ?_
  · exact (t_call2 (ra := (R.ok square)) (rb := (R.ok ((eT eI) pressed))) (g := (eP (eT (eP eI eI)) (eT eI))) (h := eD) (k := eU) (fun x0 x1 => Lr.of (h_need_keys x0 x1)) (t_var (x := square) (g := (eP (eT (eP eI eI)) (eT eI))) (by rfl)) (t_toD (ra := (R.ok pressed)) (g := (eT eI)) (t_var (x := pressed) (g := (eT eI)) (by rfl))))
  refine k_ret (r := (R.bd (R.bd (R.ok square) fun x4 => (R.bd (R.ok pressed) fun x5 => (m_keys_seen x4 x5))) fun x6 => (R.bd (R.ok pressed) fun x7 => (R.ok (decide (x6 = x7)))))) ?_
  exact (t_cmp (o_eq (eL eI) (by decide)) (ra := (R.bd (R.ok square) fun x4 => (R.bd (R.ok pressed) fun x5 => (m_keys_seen x4 x5)))) (rb := (R.ok pressed))  (t_call2 (ra := (R.ok square)) (rb := (R.ok pressed)) (g := (eP (eT (eP eI eI)) (eT eI))) (h := (eT eI)) (k := (eL eI)) h_keys_seen (t_var (x := square) (g := (eP (eT (eP eI eI)) (eT eI))) (by rfl)) (t_var (x := pressed) (g := (eT eI)) (by rfl))) (t_bi1 (o_LT eI) (ra := (R.ok pressed))  (t_var (x := pressed) (g := (eT eI)) (by rfl))))
def m_is_true_D (square : D) (pressed : D) : R Bool := Ct.run (R.ct ((R.bd (R.ok square) fun x1 => (needSq x1)) : R Unit) fun _ => (R.ct ((R.bd (R.bd (R.ok square) fun z => (deR (dPr (dTl (dPr dI dI)) (dTl dI)) z)) fun x2 => (R.bd (R.ok pressed) fun x3 => (needKs x2 x3))) : R Unit) fun _ => (R.ct ((R.bd (R.bd (R.bd (R.ok square) fun z => (deR (dPr (dTl (dPr dI dI)) (dTl dI)) z)) fun x4 => (R.bd (R.bd (R.ok pressed) fun z => (deR (dTl dI) z)) fun x5 => (m_keys_seen x4 x5))) fun x7 => (R.bd (R.bd (R.bd (R.ok pressed) fun z => (deR (dTl dI) z)) fun x6 => (R.ok x6)) fun x8 => (R.ok (decide (x7 = x8))))) : R Bool) Ct.rt)))
def S_is_true_D (c : Cv) : Prop := ∀ (square : D) (pressed : D), Lr (c.cal "is_true" [eD square, eD pressed]) ((m_is_true_D square pressed).mp eB)
theorem W_is_true_D (h_need_square : S_need_square c) (h_need_keys : S_need_keys c) (h_keys_seen : S_keys_seen c)  (square : D) (pressed : D) : Lr (endR (exSs c f_is_true.body (startE f_is_true.N.length [eD square, eD pressed]))) ((m_is_true_D square pressed).mp eB) := by
  unfold m_is_true_D
  refine f_end ?_
  show Lx (xK c f_is_true.body .nx [.val (eD square), .val (eD pressed)]) _
  refine k_exp (r := (R.bd (R.ok square) fun x1 => (needSq x1))) (g := eU) ?_ ?_
  · exact (t_call1 (ra := (R.ok square)) (g := eD) (k := eU) (fun x0 => Lr.of (h_need_square x0)) (t_var (x := square) (g := eD) (by rfl)))
  refine k_exp (r := (R.bd (R.bd (R.ok square) fun z => (deR (dPr (dTl (dPr dI dI)) (dTl dI)) z)) fun x2 => (R.bd (R.ok pressed) fun x3 => (needKs x2 x3)))) (g := eU) ?_ ?_
  · exact (t_call2 (ra := (R.bd (R.ok square) fun z => (deR (dPr (dTl (dPr dI dI)) (dTl dI)) z))) (rb := (R.ok pressed)) (g := (eP (eT (eP eI eI)) (eT eI))) (h := eD) (k := eU) (fun x0 x1 => Lr.of (h_need_keys x0 x1)) (t_dec (ra := (R.ok square)) (g := (eP (eT (eP eI eI)) (eT eI))) (dec := (dPr (dTl (dPr dI dI)) (dTl dI))) (dPr_ok (dTl_ok (dPr_ok dI_ok dI_ok)) (dTl_ok dI_ok)) (t_var (x := square) (g := eD) (by rfl))) (t_var (x := pressed) (g := eD) (by rfl)))
  refine k_ret (r := (R.bd (R.bd (R.bd (R.ok square) fun z => (deR (dPr (dTl (dPr dI dI)) (dTl dI)) z)) fun x4 => (R.bd (R.bd (R.ok pressed) fun z => (deR (dTl dI) z)) fun x5 => (m_keys_seen x4 x5))) fun x7 => (R.bd (R.bd (R.bd (R.ok pressed) fun z => (deR (dTl dI) z)) fun x6 => (R.ok x6)) fun x8 => (R.ok (decide (x7 = x8)))))) ?_
  exact (t_cmp (o_eq (eL eI) (by decide)) (ra := (R.bd (R.bd (R.ok square) fun z => (deR (dPr (dTl (dPr dI dI)) (dTl dI)) z)) fun x4 => (R.bd (R.bd (R.ok pressed) fun z => (deR (dTl dI) z)) fun x5 => (m_keys_seen x4 x5)))) (rb := (R.bd (R.bd (R.ok pressed) fun z => (deR (dTl dI) z)) fun x6 => (R.ok x6)))  (t_call2 (ra := (R.bd (R.ok square) fun z => (deR (dPr (dTl (dPr dI dI)) (dTl dI)) z))) (rb := (R.bd (R.ok pressed) fun z => (deR (dTl dI) z))) (g := (eP (eT (eP eI eI)) (eT eI))) (h := (eT eI)) (k := (eL eI)) h_keys_seen (t_dec (ra := (R.ok square)) (g := (eP (eT (eP eI eI)) (eT eI))) (dec := (dPr (dTl (dPr dI dI)) (dTl dI))) (dPr_ok (dTl_ok (dPr_ok dI_ok dI_ok)) (dTl_ok dI_ok)) (t_var (x := square) (g := eD) (by rfl))) (t_dec (ra := (R.ok pressed)) (g := (eT eI)) (dec := (dTl dI)) (dTl_ok dI_ok) (t_var (x := pressed) (g := eD) (by rfl)))) (t_bi1 (o_LT eI) (ra := (R.bd (R.ok pressed) fun z => (deR (dTl dI) z)))  (t_dec (ra := (R.ok pressed)) (g := (eT eI)) (dec := (dTl dI)) (dTl_ok dI_ok) (t_var (x := pressed) (g := eD) (by rfl)))))
def x_wires_of_C1 : ME := .lc (.var 1) (.tp [1, 2]) (.seq (.var 0)) .none [1, 2]
def x_wires_of_C2 : ME := .lc (.var 2) (.tp [1, 2]) (.seq (.var 0)) .none [1, 2]
def f_wires_of : Fd := ⟨1, ["spots", "row", "column"], (.cons (.ret (.tup (.cons (.sortset x_wires_of_C1) (.cons (.sortset x_wires_of_C2) .nil)))) .nil)⟩
def m_wires_of (spots : (List (Int × Int))) : R ((List Int) × (List Int)) := Ct.run (R.ct ((R.bd (R.bd (R.ok (List.map (fun (p : Int × Int) => p.1) spots)) fun x1 => (R.mp (setR 4000 x1) srtT)) fun x3 => (R.bd (R.bd (R.ok (List.map (fun (p : Int × Int) => p.2) spots)) fun x2 => (R.mp (setR 4000 x2) srtT)) fun x4 => (R.ok (x3, x4)))) : R ((List Int) × (List Int))) Ct.rt)
def S_wires_of (c : Cv) : Prop := ∀ (spots : (List (Int × Int))), Lr (c.cal "wires_of" [(eT (eP eI eI)) spots]) ((m_wires_of spots).mp (eP (eL eI) (eL eI)))
theorem W_wires_of   (spots : (List (Int × Int))) : Lr (endR (exSs c f_wires_of.body (startE f_wires_of.N.length [(eT (eP eI eI)) spots]))) ((m_wires_of spots).mp (eP (eL eI) (eL eI))) := by
  unfold m_wires_of
  refine f_end ?_
  show Lx (xK c f_wires_of.body .nx [.val ((eT (eP eI eI)) spots), .emp, .emp]) _
  refine k_ret (r := (R.bd (R.bd (R.ok (List.map (fun (p : Int × Int) => p.1) spots)) fun x1 => (R.mp (setR 4000 x1) srtT)) fun x3 => (R.bd (R.bd (R.ok (List.map (fun (p : Int × Int) => p.2) spots)) fun x2 => (R.mp (setR 4000 x2) srtT)) fun x4 => (R.ok (x3, x4))))) ?_
  exact (t_tup2 (ra := (R.bd (R.ok (List.map (fun (p : Int × Int) => p.1) spots)) fun x1 => (R.mp (setR 4000 x1) srtT))) (rb := (R.bd (R.ok (List.map (fun (p : Int × Int) => p.2) spots)) fun x2 => (R.mp (setR 4000 x2) srtT))) (g := (eL eI)) (h := (eL eI)) (t_ssetL (ra := (R.ok (List.map (fun (p : Int × Int) => p.1) spots))) (g := eI) (by decide) (lc_tpM (xr := (R.ok spots)) (g := eI) (g' := eI) (h := eI) (f := fun row column => row) (i_seqT (ra := (R.ok spots)) (g := (eP eI eI)) (t_var (x := spots) (g := (eT (eP eI eI))) (by rfl))) (fun row column => (t_var (x := row) (g := eI) (by rfl))))) (t_ssetL (ra := (R.ok (List.map (fun (p : Int × Int) => p.2) spots))) (g := eI) (by decide) (lc_tpM (xr := (R.ok spots)) (g := eI) (g' := eI) (h := eI) (f := fun row column => column) (i_seqT (ra := (R.ok spots)) (g := (eP eI eI)) (t_var (x := spots) (g := (eT (eP eI eI))) (by rfl))) (fun row column => (t_var (x := column) (g := eI) (by rfl))))))
def f_wires : Fd := ⟨1, ["square", "rows", "columns"], (.cons (.exp (.call "need_square" (.cons (.var 0) .nil))) (.cons (.asg (.tp [1, 2]) (.call "wires_of" (.cons (.idx (.var 0) (.int 0)) .nil))) (.cons (.ret (.bin .add (.bi .len (.cons (.var 1) .nil)) (.bi .len (.cons (.var 2) .nil)))) .nil)))⟩
def m_wires (square : ((List (Int × Int)) × (List Int))) : R Int := Ct.run (R.ct ((R.bd (R.ok ((eP (eT (eP eI eI)) (eT eI)) square)) fun x1 => (needSq x1)) : R Unit) fun _ => (R.ct2 ((R.bd (R.ok (square).1) fun x2 => (m_wires_of x2)) : R ((List Int) × (List Int))) fun rows columns => (R.ct ((R.ok (((rows).length : Int) + ((columns).length : Int))) : R Int) Ct.rt)))
def S_wires (c : Cv) : Prop := ∀ (square : ((List (Int × Int)) × (List Int))), Lr (c.cal "wires" [(eP (eT (eP eI eI)) (eT eI)) square]) ((m_wires square).mp eI)
theorem W_wires (h_need_square : S_need_square c) (h_wires_of : S_wires_of c)  (square : ((List (Int × Int)) × (List Int))) : Lr (endR (exSs c f_wires.body (startE f_wires.N.length [(eP (eT (eP eI eI)) (eT eI)) square]))) ((m_wires square).mp eI) := by
  unfold m_wires
  refine f_end ?_
  show Lx (xK c f_wires.body .nx [.val ((eP (eT (eP eI eI)) (eT eI)) square), .emp, .emp]) _
  refine k_exp (r := (R.bd (R.ok ((eP (eT (eP eI eI)) (eT eI)) square)) fun x1 => (needSq x1))) (g := eU) ?_ ?_
  · exact (t_call1 (ra := (R.ok ((eP (eT (eP eI eI)) (eT eI)) square))) (g := eD) (k := eU) (fun x0 => Lr.of (h_need_square x0)) (t_toD (ra := (R.ok square)) (g := (eP (eT (eP eI eI)) (eT eI))) (t_var (x := square) (g := (eP (eT (eP eI eI)) (eT eI))) (by rfl))))
  refine k_tp (r := (R.bd (R.ok (square).1) fun x2 => (m_wires_of x2))) (g := (eL eI)) (g' := (eL eI)) ?_ fun rows columns => ?_
  · exact (t_call1 (ra := (R.ok (square).1)) (g := (eT (eP eI eI))) (k := (eP (eL eI) (eL eI))) h_wires_of (t_fst (ra := (R.ok square)) (g := (eT (eP eI eI))) (h := (eT eI)) (t_var (x := square) (g := (eP (eT (eP eI eI)) (eT eI))) (by rfl))))
  refine k_ret (r := (R.ok (((rows).length : Int) + ((columns).length : Int)))) ?_
  exact (t_bin o_add (ra := (R.ok ((rows).length : Int))) (rb := (R.ok ((columns).length : Int)))  (t_bi1 (o_lenL eI) (ra := (R.ok rows))  (t_var (x := rows) (g := (eL eI)) (by rfl))) (t_bi1 (o_lenL eI) (ra := (R.ok columns))  (t_var (x := columns) (g := (eL eI)) (by rfl))))
def m_wires_D (square : D) : R Int := Ct.run (R.ct ((R.bd (R.ok square) fun x1 => (needSq x1)) : R Unit) fun _ => (R.ct2 ((R.bd (R.bd (R.bd (R.ok square) fun z => (deR (dPr (dTl (dPr dI dI)) (dTl dI)) z)) fun x2 => (R.ok (x2).1)) fun x3 => (m_wires_of x3)) : R ((List Int) × (List Int))) fun rows columns => (R.ct ((R.ok (((rows).length : Int) + ((columns).length : Int))) : R Int) Ct.rt)))
def S_wires_D (c : Cv) : Prop := ∀ (square : D), Lr (c.cal "wires" [eD square]) ((m_wires_D square).mp eI)
theorem W_wires_D (h_need_square : S_need_square c) (h_wires_of : S_wires_of c)  (square : D) : Lr (endR (exSs c f_wires.body (startE f_wires.N.length [eD square]))) ((m_wires_D square).mp eI) := by
  unfold m_wires_D
  refine f_end ?_
  show Lx (xK c f_wires.body .nx [.val (eD square), .emp, .emp]) _
  refine k_exp (r := (R.bd (R.ok square) fun x1 => (needSq x1))) (g := eU) ?_ ?_
  · exact (t_call1 (ra := (R.ok square)) (g := eD) (k := eU) (fun x0 => Lr.of (h_need_square x0)) (t_var (x := square) (g := eD) (by rfl)))
  refine k_tp (r := (R.bd (R.bd (R.bd (R.ok square) fun z => (deR (dPr (dTl (dPr dI dI)) (dTl dI)) z)) fun x2 => (R.ok (x2).1)) fun x3 => (m_wires_of x3))) (g := (eL eI)) (g' := (eL eI)) ?_ fun rows columns => ?_
  · exact (t_call1 (ra := (R.bd (R.bd (R.ok square) fun z => (deR (dPr (dTl (dPr dI dI)) (dTl dI)) z)) fun x2 => (R.ok (x2).1))) (g := (eT (eP eI eI))) (k := (eP (eL eI) (eL eI))) h_wires_of (t_fst (ra := (R.bd (R.ok square) fun z => (deR (dPr (dTl (dPr dI dI)) (dTl dI)) z))) (g := (eT (eP eI eI))) (h := (eT eI)) (t_dec (ra := (R.ok square)) (g := (eP (eT (eP eI eI)) (eT eI))) (dec := (dPr (dTl (dPr dI dI)) (dTl dI))) (dPr_ok (dTl_ok (dPr_ok dI_ok dI_ok)) (dTl_ok dI_ok)) (t_var (x := square) (g := eD) (by rfl)))))
  refine k_ret (r := (R.ok (((rows).length : Int) + ((columns).length : Int)))) ?_
  exact (t_bin o_add (ra := (R.ok ((rows).length : Int))) (rb := (R.ok ((columns).length : Int)))  (t_bi1 (o_lenL eI) (ra := (R.ok rows))  (t_var (x := rows) (g := (eL eI)) (by rfl))) (t_bi1 (o_lenL eI) (ra := (R.ok columns))  (t_var (x := columns) (g := (eL eI)) (by rfl))))
def x_tight_C1 : ME := .lc (.tup (.cons (.mt .index (.var 1) (.cons (.var 3) .nil)) (.cons (.mt .index (.var 2) (.cons (.var 4) .nil)) .nil))) (.tp [3, 4]) (.seq (.idx (.var 0) (.int 0))) .none [3, 4]
def f_tight : Fd := ⟨1, ["square", "rows", "columns", "row", "column"], (.cons (.exp (.call "need_square" (.cons (.var 0) .nil))) (.cons (.asg (.tp [1, 2]) (.call "wires_of" (.cons (.idx (.var 0) (.int 0)) .nil))) (.cons (.ret (.tup (.cons (.bi .tuple (.cons x_tight_C1 .nil)) (.cons (.idx (.var 0) (.int 1)) .nil)))) .nil)))⟩
def m_tight (square : ((List (Int × Int)) × (List Int))) : R ((List (Int × Int)) × (List Int)) := Ct.run (R.ct ((R.bd (R.ok ((eP (eT (eP eI eI)) (eT eI)) square)) fun x1 => (needSq x1)) : R Unit) fun _ => (R.ct2 ((R.bd (R.ok (square).1) fun x2 => (m_wires_of x2)) : R ((List Int) × (List Int))) fun rows columns => (R.ct ((R.bd (R.bd (R.bd (R.ok (square).1) fun x9 => (lcR (fun (p : Int × Int) => (R.bd (R.ok true) fun b => if b then (R.mp (R.bd (R.bd (R.ok rows) fun x3 => (R.bd (R.ok p.1) fun x4 => (idxT x3 x4))) fun x7 => (R.bd (R.bd (R.ok columns) fun x5 => (R.bd (R.ok p.2) fun x6 => (idxT x5 x6))) fun x8 => (R.ok (x7, x8)))) some) else (R.ok none))) x9)) fun x10 => (R.ok x10)) fun x11 => (R.bd (R.ok (square).2) fun x12 => (R.ok (x11, x12)))) : R ((List (Int × Int)) × (List Int))) Ct.rt)))
def S_tight (c : Cv) : Prop := ∀ (square : ((List (Int × Int)) × (List Int))), Lr (c.cal "tight" [(eP (eT (eP eI eI)) (eT eI)) square]) ((m_tight square).mp (eP (eT (eP eI eI)) (eT eI)))
theorem W_tight (h_need_square : S_need_square c) (h_wires_of : S_wires_of c)  (square : ((List (Int × Int)) × (List Int))) : Lr (endR (exSs c f_tight.body (startE f_tight.N.length [(eP (eT (eP eI eI)) (eT eI)) square]))) ((m_tight square).mp (eP (eT (eP eI eI)) (eT eI))) := by
  unfold m_tight
  refine f_end ?_
  show Lx (xK c f_tight.body .nx [.val ((eP (eT (eP eI eI)) (eT eI)) square), .emp, .emp, .emp, .emp]) _
  refine k_exp (r := (R.bd (R.ok ((eP (eT (eP eI eI)) (eT eI)) square)) fun x1 => (needSq x1))) (g := eU) ?_ ?_
  · exact (t_call1 (ra := (R.ok ((eP (eT (eP eI eI)) (eT eI)) square))) (g := eD) (k := eU) (fun x0 => Lr.of (h_need_square x0)) (t_toD (ra := (R.ok square)) (g := (eP (eT (eP eI eI)) (eT eI))) (t_var (x := square) (g := (eP (eT (eP eI eI)) (eT eI))) (by rfl))))
  refine k_tp (r := (R.bd (R.ok (square).1) fun x2 => (m_wires_of x2))) (g := (eL eI)) (g' := (eL eI)) ?_ fun rows columns => ?_
  · exact (t_call1 (ra := (R.ok (square).1)) (g := (eT (eP eI eI))) (k := (eP (eL eI) (eL eI))) h_wires_of (t_fst (ra := (R.ok square)) (g := (eT (eP eI eI))) (h := (eT eI)) (t_var (x := square) (g := (eP (eT (eP eI eI)) (eT eI))) (by rfl))))
  refine k_ret (r := (R.bd (R.bd (R.bd (R.ok (square).1) fun x9 => (lcR (fun (p : Int × Int) => (R.bd (R.ok true) fun b => if b then (R.mp (R.bd (R.bd (R.ok rows) fun x3 => (R.bd (R.ok p.1) fun x4 => (idxT x3 x4))) fun x7 => (R.bd (R.bd (R.ok columns) fun x5 => (R.bd (R.ok p.2) fun x6 => (idxT x5 x6))) fun x8 => (R.ok (x7, x8)))) some) else (R.ok none))) x9)) fun x10 => (R.ok x10)) fun x11 => (R.bd (R.ok (square).2) fun x12 => (R.ok (x11, x12))))) ?_
  exact (t_tup2 (ra := (R.bd (R.bd (R.ok (square).1) fun x9 => (lcR (fun (p : Int × Int) => (R.bd (R.ok true) fun b => if b then (R.mp (R.bd (R.bd (R.ok rows) fun x3 => (R.bd (R.ok p.1) fun x4 => (idxT x3 x4))) fun x7 => (R.bd (R.bd (R.ok columns) fun x5 => (R.bd (R.ok p.2) fun x6 => (idxT x5 x6))) fun x8 => (R.ok (x7, x8)))) some) else (R.ok none))) x9)) fun x10 => (R.ok x10))) (rb := (R.ok (square).2)) (g := (eT (eP eI eI))) (h := (eT eI)) (t_bi1 (o_TL (eP eI eI)) (ra := (R.bd (R.ok (square).1) fun x9 => (lcR (fun (p : Int × Int) => (R.bd (R.ok true) fun b => if b then (R.mp (R.bd (R.bd (R.ok rows) fun x3 => (R.bd (R.ok p.1) fun x4 => (idxT x3 x4))) fun x7 => (R.bd (R.bd (R.ok columns) fun x5 => (R.bd (R.ok p.2) fun x6 => (idxT x5 x6))) fun x8 => (R.ok (x7, x8)))) some) else (R.ok none))) x9)))  (lc_tp (xr := (R.ok (square).1)) (g := eI) (g' := eI) (h := (eP eI eI)) (fc := fun row column => (R.ok true)) (fe := fun row column => (R.bd (R.bd (R.ok rows) fun x3 => (R.bd (R.ok row) fun x4 => (idxT x3 x4))) fun x7 => (R.bd (R.bd (R.ok columns) fun x5 => (R.bd (R.ok column) fun x6 => (idxT x5 x6))) fun x8 => (R.ok (x7, x8))))) (i_seqT (ra := (R.ok (square).1)) (g := (eP eI eI)) (t_fst (ra := (R.ok square)) (g := (eT (eP eI eI))) (h := (eT eI)) (t_var (x := square) (g := (eP (eT (eP eI eI)) (eT eI))) (by rfl)))) (fun row column => c_none) (fun row column => (t_tup2 (ra := (R.bd (R.ok rows) fun x3 => (R.bd (R.ok row) fun x4 => (idxT x3 x4)))) (rb := (R.bd (R.ok columns) fun x5 => (R.bd (R.ok column) fun x6 => (idxT x5 x6)))) (g := eI) (h := eI) (t_indexL (ra := (R.ok rows)) (rb := (R.ok row)) (g := eI) (by decide) (t_var (x := rows) (g := (eL eI)) (by rfl)) (t_var (x := row) (g := eI) (by rfl))) (t_indexL (ra := (R.ok columns)) (rb := (R.ok column)) (g := eI) (by decide) (t_var (x := columns) (g := (eL eI)) (by rfl)) (t_var (x := column) (g := eI) (by rfl))))))) (t_snd (ra := (R.ok square)) (g := (eT (eP eI eI))) (h := (eT eI)) (t_var (x := square) (g := (eP (eT (eP eI eI)) (eT eI))) (by rfl))))
def m_tight_D (square : D) : R ((List (Int × Int)) × (List Int)) := Ct.run (R.ct ((R.bd (R.ok square) fun x1 => (needSq x1)) : R Unit) fun _ => (R.ct2 ((R.bd (R.bd (R.bd (R.ok square) fun z => (deR (dPr (dTl (dPr dI dI)) (dTl dI)) z)) fun x2 => (R.ok (x2).1)) fun x3 => (m_wires_of x3)) : R ((List Int) × (List Int))) fun rows columns => (R.ct ((R.bd (R.bd (R.bd (R.bd (R.bd (R.ok square) fun z => (deR (dPr (dTl (dPr dI dI)) (dTl dI)) z)) fun x4 => (R.ok (x4).1)) fun x11 => (lcR (fun (p : Int × Int) => (R.bd (R.ok true) fun b => if b then (R.mp (R.bd (R.bd (R.ok rows) fun x5 => (R.bd (R.ok p.1) fun x6 => (idxT x5 x6))) fun x9 => (R.bd (R.bd (R.ok columns) fun x7 => (R.bd (R.ok p.2) fun x8 => (idxT x7 x8))) fun x10 => (R.ok (x9, x10)))) some) else (R.ok none))) x11)) fun x12 => (R.ok x12)) fun x14 => (R.bd (R.bd (R.bd (R.ok square) fun z => (deR (dPr (dTl (dPr dI dI)) (dTl dI)) z)) fun x13 => (R.ok (x13).2)) fun x15 => (R.ok (x14, x15)))) : R ((List (Int × Int)) × (List Int))) Ct.rt)))
def S_tight_D (c : Cv) : Prop := ∀ (square : D), Lr (c.cal "tight" [eD square]) ((m_tight_D square).mp (eP (eT (eP eI eI)) (eT eI)))
theorem W_tight_D (h_need_square : S_need_square c) (h_wires_of : S_wires_of c)  (square : D) : Lr (endR (exSs c f_tight.body (startE f_tight.N.length [eD square]))) ((m_tight_D square).mp (eP (eT (eP eI eI)) (eT eI))) := by
  unfold m_tight_D
  refine f_end ?_
  show Lx (xK c f_tight.body .nx [.val (eD square), .emp, .emp, .emp, .emp]) _
  refine k_exp (r := (R.bd (R.ok square) fun x1 => (needSq x1))) (g := eU) ?_ ?_
  · exact (t_call1 (ra := (R.ok square)) (g := eD) (k := eU) (fun x0 => Lr.of (h_need_square x0)) (t_var (x := square) (g := eD) (by rfl)))
  refine k_tp (r := (R.bd (R.bd (R.bd (R.ok square) fun z => (deR (dPr (dTl (dPr dI dI)) (dTl dI)) z)) fun x2 => (R.ok (x2).1)) fun x3 => (m_wires_of x3))) (g := (eL eI)) (g' := (eL eI)) ?_ fun rows columns => ?_
  · exact (t_call1 (ra := (R.bd (R.bd (R.ok square) fun z => (deR (dPr (dTl (dPr dI dI)) (dTl dI)) z)) fun x2 => (R.ok (x2).1))) (g := (eT (eP eI eI))) (k := (eP (eL eI) (eL eI))) h_wires_of (t_fst (ra := (R.bd (R.ok square) fun z => (deR (dPr (dTl (dPr dI dI)) (dTl dI)) z))) (g := (eT (eP eI eI))) (h := (eT eI)) (t_dec (ra := (R.ok square)) (g := (eP (eT (eP eI eI)) (eT eI))) (dec := (dPr (dTl (dPr dI dI)) (dTl dI))) (dPr_ok (dTl_ok (dPr_ok dI_ok dI_ok)) (dTl_ok dI_ok)) (t_var (x := square) (g := eD) (by rfl)))))
  refine k_ret (r := (R.bd (R.bd (R.bd (R.bd (R.bd (R.ok square) fun z => (deR (dPr (dTl (dPr dI dI)) (dTl dI)) z)) fun x4 => (R.ok (x4).1)) fun x11 => (lcR (fun (p : Int × Int) => (R.bd (R.ok true) fun b => if b then (R.mp (R.bd (R.bd (R.ok rows) fun x5 => (R.bd (R.ok p.1) fun x6 => (idxT x5 x6))) fun x9 => (R.bd (R.bd (R.ok columns) fun x7 => (R.bd (R.ok p.2) fun x8 => (idxT x7 x8))) fun x10 => (R.ok (x9, x10)))) some) else (R.ok none))) x11)) fun x12 => (R.ok x12)) fun x14 => (R.bd (R.bd (R.bd (R.ok square) fun z => (deR (dPr (dTl (dPr dI dI)) (dTl dI)) z)) fun x13 => (R.ok (x13).2)) fun x15 => (R.ok (x14, x15))))) ?_
  exact (t_tup2 (ra := (R.bd (R.bd (R.bd (R.bd (R.ok square) fun z => (deR (dPr (dTl (dPr dI dI)) (dTl dI)) z)) fun x4 => (R.ok (x4).1)) fun x11 => (lcR (fun (p : Int × Int) => (R.bd (R.ok true) fun b => if b then (R.mp (R.bd (R.bd (R.ok rows) fun x5 => (R.bd (R.ok p.1) fun x6 => (idxT x5 x6))) fun x9 => (R.bd (R.bd (R.ok columns) fun x7 => (R.bd (R.ok p.2) fun x8 => (idxT x7 x8))) fun x10 => (R.ok (x9, x10)))) some) else (R.ok none))) x11)) fun x12 => (R.ok x12))) (rb := (R.bd (R.bd (R.ok square) fun z => (deR (dPr (dTl (dPr dI dI)) (dTl dI)) z)) fun x13 => (R.ok (x13).2))) (g := (eT (eP eI eI))) (h := (eT eI)) (t_bi1 (o_TL (eP eI eI)) (ra := (R.bd (R.bd (R.bd (R.ok square) fun z => (deR (dPr (dTl (dPr dI dI)) (dTl dI)) z)) fun x4 => (R.ok (x4).1)) fun x11 => (lcR (fun (p : Int × Int) => (R.bd (R.ok true) fun b => if b then (R.mp (R.bd (R.bd (R.ok rows) fun x5 => (R.bd (R.ok p.1) fun x6 => (idxT x5 x6))) fun x9 => (R.bd (R.bd (R.ok columns) fun x7 => (R.bd (R.ok p.2) fun x8 => (idxT x7 x8))) fun x10 => (R.ok (x9, x10)))) some) else (R.ok none))) x11)))  (lc_tp (xr := (R.bd (R.bd (R.ok square) fun z => (deR (dPr (dTl (dPr dI dI)) (dTl dI)) z)) fun x4 => (R.ok (x4).1))) (g := eI) (g' := eI) (h := (eP eI eI)) (fc := fun row column => (R.ok true)) (fe := fun row column => (R.bd (R.bd (R.ok rows) fun x5 => (R.bd (R.ok row) fun x6 => (idxT x5 x6))) fun x9 => (R.bd (R.bd (R.ok columns) fun x7 => (R.bd (R.ok column) fun x8 => (idxT x7 x8))) fun x10 => (R.ok (x9, x10))))) (i_seqT (ra := (R.bd (R.bd (R.ok square) fun z => (deR (dPr (dTl (dPr dI dI)) (dTl dI)) z)) fun x4 => (R.ok (x4).1))) (g := (eP eI eI)) (t_fst (ra := (R.bd (R.ok square) fun z => (deR (dPr (dTl (dPr dI dI)) (dTl dI)) z))) (g := (eT (eP eI eI))) (h := (eT eI)) (t_dec (ra := (R.ok square)) (g := (eP (eT (eP eI eI)) (eT eI))) (dec := (dPr (dTl (dPr dI dI)) (dTl dI))) (dPr_ok (dTl_ok (dPr_ok dI_ok dI_ok)) (dTl_ok dI_ok)) (t_var (x := square) (g := eD) (by rfl))))) (fun row column => c_none) (fun row column => (t_tup2 (ra := (R.bd (R.ok rows) fun x5 => (R.bd (R.ok row) fun x6 => (idxT x5 x6)))) (rb := (R.bd (R.ok columns) fun x7 => (R.bd (R.ok column) fun x8 => (idxT x7 x8)))) (g := eI) (h := eI) (t_indexL (ra := (R.ok rows)) (rb := (R.ok row)) (g := eI) (by decide) (t_var (x := rows) (g := (eL eI)) (by rfl)) (t_var (x := row) (g := eI) (by rfl))) (t_indexL (ra := (R.ok columns)) (rb := (R.ok column)) (g := eI) (by decide) (t_var (x := columns) (g := (eL eI)) (by rfl)) (t_var (x := column) (g := eI) (by rfl))))))) (t_snd (ra := (R.bd (R.ok square) fun z => (deR (dPr (dTl (dPr dI dI)) (dTl dI)) z))) (g := (eT (eP eI eI))) (h := (eT eI)) (t_dec (ra := (R.ok square)) (g := (eP (eT (eP eI eI)) (eT eI))) (dec := (dPr (dTl (dPr dI dI)) (dTl dI))) (dPr_ok (dTl_ok (dPr_ok dI_ok dI_ok)) (dTl_ok dI_ok)) (t_var (x := square) (g := eD) (by rfl)))))
def x_turned_C1 : ME := .lc (.tup (.cons (.var 2) (.cons (.var 1) .nil))) (.tp [1, 2]) (.seq (.idx (.var 0) (.int 0))) .none [1, 2]
def f_turned : Fd := ⟨1, ["square", "row", "column"], (.cons (.exp (.call "need_square" (.cons (.var 0) .nil))) (.cons (.ret (.tup (.cons (.bi .tuple (.cons x_turned_C1 .nil)) (.cons (.idx (.var 0) (.int 1)) .nil)))) .nil))⟩
def m_turned (square : ((List (Int × Int)) × (List Int))) : R ((List (Int × Int)) × (List Int)) := Ct.run (R.ct ((R.bd (R.ok ((eP (eT (eP eI eI)) (eT eI)) square)) fun x1 => (needSq x1)) : R Unit) fun _ => (R.ct ((R.ok ((List.map (fun (p : Int × Int) => (p.2, p.1)) (square).1), (square).2)) : R ((List (Int × Int)) × (List Int))) Ct.rt))
def S_turned (c : Cv) : Prop := ∀ (square : ((List (Int × Int)) × (List Int))), Lr (c.cal "turned" [(eP (eT (eP eI eI)) (eT eI)) square]) ((m_turned square).mp (eP (eT (eP eI eI)) (eT eI)))
theorem W_turned (h_need_square : S_need_square c)  (square : ((List (Int × Int)) × (List Int))) : Lr (endR (exSs c f_turned.body (startE f_turned.N.length [(eP (eT (eP eI eI)) (eT eI)) square]))) ((m_turned square).mp (eP (eT (eP eI eI)) (eT eI))) := by
  unfold m_turned
  refine f_end ?_
  show Lx (xK c f_turned.body .nx [.val ((eP (eT (eP eI eI)) (eT eI)) square), .emp, .emp]) _
  refine k_exp (r := (R.bd (R.ok ((eP (eT (eP eI eI)) (eT eI)) square)) fun x1 => (needSq x1))) (g := eU) ?_ ?_
  · exact (t_call1 (ra := (R.ok ((eP (eT (eP eI eI)) (eT eI)) square))) (g := eD) (k := eU) (fun x0 => Lr.of (h_need_square x0)) (t_toD (ra := (R.ok square)) (g := (eP (eT (eP eI eI)) (eT eI))) (t_var (x := square) (g := (eP (eT (eP eI eI)) (eT eI))) (by rfl))))
  refine k_ret (r := (R.ok ((List.map (fun (p : Int × Int) => (p.2, p.1)) (square).1), (square).2))) ?_
  exact (t_tup2 (ra := (R.ok (List.map (fun (p : Int × Int) => (p.2, p.1)) (square).1))) (rb := (R.ok (square).2)) (g := (eT (eP eI eI))) (h := (eT eI)) (t_bi1 (o_TL (eP eI eI)) (ra := (R.ok (List.map (fun (p : Int × Int) => (p.2, p.1)) (square).1)))  (lc_tpM (xr := (R.ok (square).1)) (g := eI) (g' := eI) (h := (eP eI eI)) (f := fun row column => (column, row)) (i_seqT (ra := (R.ok (square).1)) (g := (eP eI eI)) (t_fst (ra := (R.ok square)) (g := (eT (eP eI eI))) (h := (eT eI)) (t_var (x := square) (g := (eP (eT (eP eI eI)) (eT eI))) (by rfl)))) (fun row column => (t_tup2 (ra := (R.ok column)) (rb := (R.ok row)) (g := eI) (h := eI) (t_var (x := column) (g := eI) (by rfl)) (t_var (x := row) (g := eI) (by rfl)))))) (t_snd (ra := (R.ok square)) (g := (eT (eP eI eI))) (h := (eT eI)) (t_var (x := square) (g := (eP (eT (eP eI eI)) (eT eI))) (by rfl))))
def m_turned_D (square : D) : R ((List (Int × Int)) × (List Int)) := Ct.run (R.ct ((R.bd (R.ok square) fun x1 => (needSq x1)) : R Unit) fun _ => (R.ct ((R.bd (R.bd (R.bd (R.bd (R.bd (R.ok square) fun z => (deR (dPr (dTl (dPr dI dI)) (dTl dI)) z)) fun x2 => (R.ok (x2).1)) fun x3 => (R.ok (List.map (fun (p : Int × Int) => (p.2, p.1)) x3))) fun x4 => (R.ok x4)) fun x6 => (R.bd (R.bd (R.bd (R.ok square) fun z => (deR (dPr (dTl (dPr dI dI)) (dTl dI)) z)) fun x5 => (R.ok (x5).2)) fun x7 => (R.ok (x6, x7)))) : R ((List (Int × Int)) × (List Int))) Ct.rt))
def S_turned_D (c : Cv) : Prop := ∀ (square : D), Lr (c.cal "turned" [eD square]) ((m_turned_D square).mp (eP (eT (eP eI eI)) (eT eI)))
theorem W_turned_D (h_need_square : S_need_square c)  (square : D) : Lr (endR (exSs c f_turned.body (startE f_turned.N.length [eD square]))) ((m_turned_D square).mp (eP (eT (eP eI eI)) (eT eI))) := by
  unfold m_turned_D
  refine f_end ?_
  show Lx (xK c f_turned.body .nx [.val (eD square), .emp, .emp]) _
  refine k_exp (r := (R.bd (R.ok square) fun x1 => (needSq x1))) (g := eU) ?_ ?_
  · exact (t_call1 (ra := (R.ok square)) (g := eD) (k := eU) (fun x0 => Lr.of (h_need_square x0)) (t_var (x := square) (g := eD) (by rfl)))
  refine k_ret (r := (R.bd (R.bd (R.bd (R.bd (R.bd (R.ok square) fun z => (deR (dPr (dTl (dPr dI dI)) (dTl dI)) z)) fun x2 => (R.ok (x2).1)) fun x3 => (R.ok (List.map (fun (p : Int × Int) => (p.2, p.1)) x3))) fun x4 => (R.ok x4)) fun x6 => (R.bd (R.bd (R.bd (R.ok square) fun z => (deR (dPr (dTl (dPr dI dI)) (dTl dI)) z)) fun x5 => (R.ok (x5).2)) fun x7 => (R.ok (x6, x7))))) ?_
  exact (t_tup2 (ra := (R.bd (R.bd (R.bd (R.bd (R.ok square) fun z => (deR (dPr (dTl (dPr dI dI)) (dTl dI)) z)) fun x2 => (R.ok (x2).1)) fun x3 => (R.ok (List.map (fun (p : Int × Int) => (p.2, p.1)) x3))) fun x4 => (R.ok x4))) (rb := (R.bd (R.bd (R.ok square) fun z => (deR (dPr (dTl (dPr dI dI)) (dTl dI)) z)) fun x5 => (R.ok (x5).2))) (g := (eT (eP eI eI))) (h := (eT eI)) (t_bi1 (o_TL (eP eI eI)) (ra := (R.bd (R.bd (R.bd (R.ok square) fun z => (deR (dPr (dTl (dPr dI dI)) (dTl dI)) z)) fun x2 => (R.ok (x2).1)) fun x3 => (R.ok (List.map (fun (p : Int × Int) => (p.2, p.1)) x3))))  (lc_tpM (xr := (R.bd (R.bd (R.ok square) fun z => (deR (dPr (dTl (dPr dI dI)) (dTl dI)) z)) fun x2 => (R.ok (x2).1))) (g := eI) (g' := eI) (h := (eP eI eI)) (f := fun row column => (column, row)) (i_seqT (ra := (R.bd (R.bd (R.ok square) fun z => (deR (dPr (dTl (dPr dI dI)) (dTl dI)) z)) fun x2 => (R.ok (x2).1))) (g := (eP eI eI)) (t_fst (ra := (R.bd (R.ok square) fun z => (deR (dPr (dTl (dPr dI dI)) (dTl dI)) z))) (g := (eT (eP eI eI))) (h := (eT eI)) (t_dec (ra := (R.ok square)) (g := (eP (eT (eP eI eI)) (eT eI))) (dec := (dPr (dTl (dPr dI dI)) (dTl dI))) (dPr_ok (dTl_ok (dPr_ok dI_ok dI_ok)) (dTl_ok dI_ok)) (t_var (x := square) (g := eD) (by rfl))))) (fun row column => (t_tup2 (ra := (R.ok column)) (rb := (R.ok row)) (g := eI) (h := eI) (t_var (x := column) (g := eI) (by rfl)) (t_var (x := row) (g := eI) (by rfl)))))) (t_snd (ra := (R.bd (R.ok square) fun z => (deR (dPr (dTl (dPr dI dI)) (dTl dI)) z))) (g := (eT (eP eI eI))) (h := (eT eI)) (t_dec (ra := (R.ok square)) (g := (eP (eT (eP eI eI)) (eT eI))) (dec := (dPr (dTl (dPr dI dI)) (dTl dI))) (dPr_ok (dTl_ok (dPr_ok dI_ok dI_ok)) (dTl_ok dI_ok)) (t_var (x := square) (g := eD) (by rfl)))))
def f_with_diodes : Fd := ⟨2, ["square", "keys"], (.cons (.exp (.call "need_square" (.cons (.var 0) .nil))) (.cons (.exp (.call "need_keys" (.cons (.var 0) (.cons (.var 1) .nil)))) (.cons (.ret (.tup (.cons (.idx (.var 0) (.int 0)) (.cons (.var 1) .nil)))) .nil)))⟩
def m_with_diodes (square : ((List (Int × Int)) × (List Int))) (keys : (List Int)) : R ((List (Int × Int)) × (List Int)) := Ct.run (R.ct ((R.bd (R.ok ((eP (eT (eP eI eI)) (eT eI)) square)) fun x1 => (needSq x1)) : R Unit) fun _ => (R.ct ((R.bd (R.ok square) fun x2 => (R.bd (R.ok ((eT eI) keys)) fun x3 => (needKs x2 x3))) : R Unit) fun _ => (R.ct ((R.ok ((square).1, keys)) : R ((List (Int × Int)) × (List Int))) Ct.rt)))
def S_with_diodes (c : Cv) : Prop := ∀ (square : ((List (Int × Int)) × (List Int))) (keys : (List Int)), Lr (c.cal "with_diodes" [(eP (eT (eP eI eI)) (eT eI)) square, (eT eI) keys]) ((m_with_diodes square keys).mp (eP (eT (eP eI eI)) (eT eI)))
theorem W_with_diodes (h_need_square : S_need_square c) (h_need_keys : S_need_keys c)  (square : ((List (Int × Int)) × (List Int))) (keys : (List Int)) : Lr (endR (exSs c f_with_diodes.body (startE f_with_diodes.N.length [(eP (eT (eP eI eI)) (eT eI)) square, (eT eI) keys]))) ((m_with_diodes square keys).mp (eP (eT (eP eI eI)) (eT eI))) := by
  unfold m_with_diodes
  refine f_end ?_
  show Lx (xK c f_with_diodes.body .nx [.val ((eP (eT (eP eI eI)) (eT eI)) square), .val ((eT eI) keys)]) _
  refine k_exp (r := (R.bd (R.ok ((eP (eT (eP eI eI)) (eT eI)) square)) fun x1 => (needSq x1))) (g := eU) ?_ ?_
  · exact (t_call1 (ra := (R.ok ((eP (eT (eP eI eI)) (eT eI)) square))) (g := eD) (k := eU) (fun x0 => Lr.of (h_need_square x0)) (t_toD (ra := (R.ok square)) (g := (eP (eT (eP eI eI)) (eT eI))) (t_var (x := square) (g := (eP (eT (eP eI eI)) (eT eI))) (by rfl))))
  refine k_exp (r := (R.bd (R.ok square) fun x2 => (R.bd (R.ok ((eT eI) keys)) fun x3 => (needKs x2 x3)))) (g := eU) ?_ ?_
  · exact (t_call2 (ra := (R.ok square)) (rb := (R.ok ((eT eI) keys))) (g := (eP (eT (eP eI eI)) (eT eI))) (h := eD) (k := eU) (fun x0 x1 => Lr.of (h_need_keys x0 x1)) (t_var (x := square) (g := (eP (eT (eP eI eI)) (eT eI))) (by rfl)) (t_toD (ra := (R.ok keys)) (g := (eT eI)) (t_var (x := keys) (g := (eT eI)) (by rfl))))
  refine k_ret (r := (R.ok ((square).1, keys))) ?_
  exact (t_tup2 (ra := (R.ok (square).1)) (rb := (R.ok keys)) (g := (eT (eP eI eI))) (h := (eT eI)) (t_fst (ra := (R.ok square)) (g := (eT (eP eI eI))) (h := (eT eI)) (t_var (x := square) (g := (eP (eT (eP eI eI)) (eT eI))) (by rfl))) (t_var (x := keys) (g := (eT eI)) (by rfl)))
def m_with_diodes_D (square : D) (keys : D) : R ((List (Int × Int)) × (List Int)) := Ct.run (R.ct ((R.bd (R.ok square) fun x1 => (needSq x1)) : R Unit) fun _ => (R.ct ((R.bd (R.bd (R.ok square) fun z => (deR (dPr (dTl (dPr dI dI)) (dTl dI)) z)) fun x2 => (R.bd (R.ok keys) fun x3 => (needKs x2 x3))) : R Unit) fun _ => (R.ct ((R.bd (R.bd (R.bd (R.ok square) fun z => (deR (dPr (dTl (dPr dI dI)) (dTl dI)) z)) fun x4 => (R.ok (x4).1)) fun x5 => (R.bd (R.bd (R.ok keys) fun z => (deR (dTl dI) z)) fun x6 => (R.ok (x5, x6)))) : R ((List (Int × Int)) × (List Int))) Ct.rt)))
def S_with_diodes_D (c : Cv) : Prop := ∀ (square : D) (keys : D), Lr (c.cal "with_diodes" [eD square, eD keys]) ((m_with_diodes_D square keys).mp (eP (eT (eP eI eI)) (eT eI)))
theorem W_with_diodes_D (h_need_square : S_need_square c) (h_need_keys : S_need_keys c)  (square : D) (keys : D) : Lr (endR (exSs c f_with_diodes.body (startE f_with_diodes.N.length [eD square, eD keys]))) ((m_with_diodes_D square keys).mp (eP (eT (eP eI eI)) (eT eI))) := by
  unfold m_with_diodes_D
  refine f_end ?_
  show Lx (xK c f_with_diodes.body .nx [.val (eD square), .val (eD keys)]) _
  refine k_exp (r := (R.bd (R.ok square) fun x1 => (needSq x1))) (g := eU) ?_ ?_
  · exact (t_call1 (ra := (R.ok square)) (g := eD) (k := eU) (fun x0 => Lr.of (h_need_square x0)) (t_var (x := square) (g := eD) (by rfl)))
  refine k_exp (r := (R.bd (R.bd (R.ok square) fun z => (deR (dPr (dTl (dPr dI dI)) (dTl dI)) z)) fun x2 => (R.bd (R.ok keys) fun x3 => (needKs x2 x3)))) (g := eU) ?_ ?_
  · exact (t_call2 (ra := (R.bd (R.ok square) fun z => (deR (dPr (dTl (dPr dI dI)) (dTl dI)) z))) (rb := (R.ok keys)) (g := (eP (eT (eP eI eI)) (eT eI))) (h := eD) (k := eU) (fun x0 x1 => Lr.of (h_need_keys x0 x1)) (t_dec (ra := (R.ok square)) (g := (eP (eT (eP eI eI)) (eT eI))) (dec := (dPr (dTl (dPr dI dI)) (dTl dI))) (dPr_ok (dTl_ok (dPr_ok dI_ok dI_ok)) (dTl_ok dI_ok)) (t_var (x := square) (g := eD) (by rfl))) (t_var (x := keys) (g := eD) (by rfl)))
  refine k_ret (r := (R.bd (R.bd (R.bd (R.ok square) fun z => (deR (dPr (dTl (dPr dI dI)) (dTl dI)) z)) fun x4 => (R.ok (x4).1)) fun x5 => (R.bd (R.bd (R.ok keys) fun z => (deR (dTl dI) z)) fun x6 => (R.ok (x5, x6))))) ?_
  exact (t_tup2 (ra := (R.bd (R.bd (R.ok square) fun z => (deR (dPr (dTl (dPr dI dI)) (dTl dI)) z)) fun x4 => (R.ok (x4).1))) (rb := (R.bd (R.ok keys) fun z => (deR (dTl dI) z))) (g := (eT (eP eI eI))) (h := (eT eI)) (t_fst (ra := (R.bd (R.ok square) fun z => (deR (dPr (dTl (dPr dI dI)) (dTl dI)) z))) (g := (eT (eP eI eI))) (h := (eT eI)) (t_dec (ra := (R.ok square)) (g := (eP (eT (eP eI eI)) (eT eI))) (dec := (dPr (dTl (dPr dI dI)) (dTl dI))) (dPr_ok (dTl_ok (dPr_ok dI_ok dI_ok)) (dTl_ok dI_ok)) (t_var (x := square) (g := eD) (by rfl)))) (t_dec (ra := (R.ok keys)) (g := (eT eI)) (dec := (dTl dI)) (dTl_ok dI_ok) (t_var (x := keys) (g := eD) (by rfl))))
end Wq.P

end
section
set_option Elab.async false
set_option linter.all false
set_option autoImplicit false
set_option maxRecDepth 100000
set_option maxHeartbeats 0
namespace Wq.P
open PySem Wq
variable {c : Cv}
def x__law_sets_C1 : ME := .lc (.bin .add (.var 3) (.tup (.cons (.var 2) .nil))) (.nm 3) (.seq (.var 1)) .none [3]
def x__law_sets_B1 : MSs := (.cons (.asg (.nm 1) (.bin .add (.var 1) x__law_sets_C1)) (.cons (.fgt [2]) .nil))
def x__law_sets_L1 : MS := .for_ (.nm 2) (.rng (.var 0)) x__law_sets_B1
def f__law_sets : Fd := ⟨1, ["many", "found", "key", "one"], (.cons (.asg (.nm 1) (.lst (.cons (.tup .nil) .nil))) (.cons x__law_sets_L1 (.cons (.ret (.bi .sorted (.cons (.var 1) .nil))) .nil)))⟩
def m__law_sets_B1 (many : Int) (key : Int) (s : (List (List Int))) : Ct (List (List Int)) (List (List Int)) := (R.ct ((R.bd (R.ok s) fun x5 => (R.bd (R.bd (R.ok s) fun x4 => (lcR (fun (one : (List Int)) => (R.bd (R.ok true) fun b => if b then (R.mp (R.bd (R.ok one) fun x2 => (R.bd (R.ok (key :: ([] : List Int))) fun x3 => (catR x2 x3))) some) else (R.ok none))) x4)) fun x6 => (catR x5 x6))) : R (List (List Int))) fun found => (Ct.nx found))
def m__law_sets_L1 (many : Int) (s : (List (List Int))) : Ct (List (List Int)) (List (List Int)) := (R.ct ((R.bd (R.ok many) fun x1 => (rngR 0 x1)) : R (List Int)) fun xs => forC (m__law_sets_B1 many) xs s)
theorem W__law_sets_L1   (many : Int) (z3 : Sl) (s : (List (List Int))) : Lx (exS c x__law_sets_L1 [.val (eI many), .val ((eL (eT eI)) s), .emp, z3]).x ((m__law_sets_L1 many s).fx (fun s => [.val (eI many), .val ((eL (eT eI)) s), .emp, z3]) (eL (eT eI))) := by
  unfold m__law_sets_L1
  refine s_for (E := fun s => [.val (eI many), .val ((eL (eT eI)) s), .emp, z3]) (s := s) (xr := (R.bd (R.ok many) fun x1 => (rngR 0 x1))) (g := eI) (B := (m__law_sets_B1 many)) ?_ ?_
  · exact (i_rng (ra := (R.ok many))  (t_var (x := many) (g := eI) (by rfl)))
  intro key s
  show Lx (xK c x__law_sets_B1 .nx _) ((m__law_sets_B1 many key s).fx _ _)
  unfold m__law_sets_B1
  refine k_asg (r := (R.bd (R.ok s) fun x5 => (R.bd (R.bd (R.ok s) fun x4 => (lcR (fun (one : (List Int)) => (R.bd (R.ok true) fun b => if b then (R.mp (R.bd (R.ok one) fun x2 => (R.bd (R.ok (key :: ([] : List Int))) fun x3 => (catR x2 x3))) some) else (R.ok none))) x4)) fun x6 => (catR x5 x6)))) (g := (eL (eT eI))) ?_ fun found => ?_
  · exact (t_bin (o_catL (eT eI)) (ra := (R.ok s)) (rb := (R.bd (R.ok s) fun x4 => (lcR (fun (one : (List Int)) => (R.bd (R.ok true) fun b => if b then (R.mp (R.bd (R.ok one) fun x2 => (R.bd (R.ok (key :: ([] : List Int))) fun x3 => (catR x2 x3))) some) else (R.ok none))) x4)))  (t_var (x := s) (g := (eL (eT eI))) (by rfl)) (lc_nm (xr := (R.ok s)) (g := (eT eI)) (h := (eT eI)) (fc := fun one => (R.ok true)) (fe := fun one => (R.bd (R.ok one) fun x2 => (R.bd (R.ok (key :: ([] : List Int))) fun x3 => (catR x2 x3)))) (i_seqL (ra := (R.ok s)) (g := (eT eI)) (t_var (x := s) (g := (eL (eT eI))) (by rfl))) (fun one => c_none) (fun one => (t_bin (o_catT eI) (ra := (R.ok one)) (rb := (R.ok (key :: ([] : List Int))))  (t_var (x := one) (g := (eT eI)) (by rfl)) (t_tupT (rs := (R.ok (key :: ([] : List Int)))) (g := eI) (es_cons (ra := (R.ok key)) (rs := (R.ok ([] : List Int))) (g := eI) (t_var (x := key) (g := eI) (by rfl)) (es_nil (g := eI))))))))
  refine k_fgt ?_
  exact k_end rfl
def m__law_sets (many : Int) : R (List (List Int)) := Ct.run (R.ct ((R.ok (([] : List Int) :: ([] : List (List Int)))) : R (List (List Int))) fun found => (Ct.bind (m__law_sets_L1 many found) fun s7 => (R.ct ((R.ok (srtT s7)) : R (List (List Int))) Ct.rt)))
def S__law_sets (c : Cv) : Prop := ∀ (many : Int), Lr (c.cal "_law_sets" [eI many]) ((m__law_sets many).mp (eL (eT eI)))
theorem W__law_sets   (many : Int) : Lr (endR (exSs c f__law_sets.body (startE f__law_sets.N.length [eI many]))) ((m__law_sets many).mp (eL (eT eI))) := by
  unfold m__law_sets
  refine f_end ?_
  show Lx (xK c f__law_sets.body .nx [.val (eI many), .emp, .emp, .emp]) _
  refine k_asg (r := (R.ok (([] : List Int) :: ([] : List (List Int))))) (g := (eL (eT eI))) ?_ fun found => ?_
  · exact (t_lst (rs := (R.ok (([] : List Int) :: ([] : List (List Int))))) (g := (eT eI)) (es_cons (ra := (R.ok ([] : List Int))) (rs := (R.ok ([] : List (List Int)))) (g := (eT eI)) (t_tupT (rs := (R.ok ([] : List Int))) (g := eI) (es_nil (g := eI))) (es_nil (g := (eT eI)))))
  refine k_stm (P := (m__law_sets_L1 many found)) (W__law_sets_L1   many _ found) fun s7 => ?_
  refine k_ret (r := (R.ok (srtT s7))) ?_
  exact (t_bi1 (o_srtL (eT eI) (by decide)) (ra := (R.ok s7))  (t_var (x := s7) (g := (eL (eT eI))) (by rfl)))
end Wq.P

end
section
set_option Elab.async false
set_option linter.all false
set_option autoImplicit false
set_option maxRecDepth 100000
/-! Plain facts: order, sets, squares. -/
namespace Wq.P
open PySem Wq
section
variable {α β : Type}
/-- a strict order of all -/
class PLo (α : Type) [PLt α] : Prop where
  irr : ∀ a : α, plt a a = false
  tr : ∀ a b c : α, plt a b = true → plt b c = true → plt a c = true
  tot : ∀ a b : α, a ≠ b → plt a b = true ∨ plt b a = true
theorem plt_int {a b : Int} : plt a b = true ↔ a < b := by simp [plt, PLt.pl]
instance : PLo Int := ⟨fun a => by simp [plt, PLt.pl], fun a b c h1 h2 => by rw [plt_int] at *; omega, fun a b h => by rw [plt_int, plt_int]; omega⟩
theorem plt_list [PLt α] [DecidableEq α] {a b : List α} : plt a b = pltL a b := rfl
instance [PLt α] [DecidableEq α] [PLo α] : PLo (List α) := ⟨fun a => by
    rw [plt_list]
    induction a with
    | nil => rfl
    | cons x xs ih => simp [pltL, ih], fun a => by
    induction a with
    | nil => intro b c h1 h2; cases b <;> cases c <;> simp_all [plt_list, pltL]
    | cons x xs ih =>
      intro b c h1 h2
      cases b with
      | nil => simp [plt_list, pltL] at h1
      | cons y ys =>
        cases c with
        | nil => simp [plt_list, pltL] at h2
        | cons z zs =>
          simp only [plt_list, pltL] at h1 h2 ⊢
          by_cases e1 : x = y
          · subst e1
            rw [if_pos rfl] at h1
            by_cases e2 : x = z
            · subst e2
              rw [if_pos rfl] at h2 ⊢
              exact ih ys zs h1 h2
            · rw [if_neg e2] at h2 ⊢
              exact h2
          · rw [if_neg e1] at h1
            by_cases e2 : y = z
            · subst e2
              rw [if_neg e1]
              exact h1
            · rw [if_neg e2] at h2
              have h3 := PLo.tr x y z h1 h2
              by_cases e3 : x = z
              · subst e3
                rw [PLo.irr] at h3
                cases h3
              · rw [if_neg e3]
                exact h3, fun a => by
    induction a with
    | nil => intro b h; cases b <;> simp_all [plt_list, pltL]
    | cons x xs ih =>
      intro b h
      cases b with
      | nil => simp [plt_list, pltL]
      | cons y ys =>
        simp only [plt_list, pltL]
        by_cases e : x = y
        · subst e
          simp only [if_pos]
          exact ih ys (fun z => h (by rw [z]))
        · rw [if_neg e, if_neg (fun z => e z.symm)]
          exact PLo.tot x y e⟩
/-- rising -/
def Inc [PLt α] (l : List α) : Prop := l.Pairwise fun a b => plt a b = true
theorem inc_cons [PLt α] {a : α} {l : List α} : Inc (a :: l) ↔ (∀ b ∈ l, plt a b = true) ∧ Inc l := List.pairwise_cons
theorem inc_nil [PLt α] : Inc ([] : List α) := List.Pairwise.nil
theorem inc_nodup [PLt α] [PLo α] {l : List α} (h : Inc l) : l.Nodup := by
  refine List.Pairwise.imp ?_ h
  intro a b hab e
  subst e
  rw [PLo.irr] at hab
  cases hab
theorem inc_filter [PLt α] {l : List α} (p : α → Bool) (h : Inc l) : Inc (l.filter p) := List.Pairwise.filter p h
theorem inc_ext [PLt α] [PLo α] : ∀ {l m : List α}, Inc l → Inc m → (∀ x, x ∈ l ↔ x ∈ m) → l = m
  | [], [], _, _, _ => rfl
  | [], b :: m, _, _, h => by have := (h b).mpr (by simp); cases this
  | a :: l, [], _, _, h => by have := (h a).mp (by simp); cases this
  | a :: l, b :: m, hl, hm, h => by
    rw [inc_cons] at hl hm
    have e : a = b := by
      have h1 : a ∈ b :: m := (h a).mp (by simp)
      have h2 : b ∈ a :: l := (h b).mpr (by simp)
      rcases List.mem_cons.mp h1 with e | h1
      · exact e
      rcases List.mem_cons.mp h2 with e | h2
      · exact e.symm
      have := PLo.tr a b a (hl.1 b h2) (hm.1 a h1)
      rw [PLo.irr] at this
      cases this
    subst e
    have : l = m := inc_ext hl.2 hm.2 fun x => by
      have hx := h x
      simp only [List.mem_cons] at hx
      constructor
      · intro q
        rcases hx.mp (.inr q) with e | r
        · subst e
          have := hl.1 x q
          rw [PLo.irr] at this
          cases this
        · exact r
      · intro q
        rcases hx.mpr (.inr q) with e | r
        · subst e
          have := hm.1 x q
          rw [PLo.irr] at this
          cases this
        · exact r
    rw [this]
theorem mem_insT [PLt α] {x y : α} : ∀ {l : List α}, y ∈ insT x l ↔ y = x ∨ y ∈ l
  | [] => by simp [insT]
  | z :: l => by
    unfold insT
    split
    · simp only [List.mem_cons, mem_insT (l := l)]
      constructor
      · rintro (h | h | h) <;> simp [h]
      · rintro (h | h | h) <;> simp [h]
    · simp
theorem mem_srtT [PLt α] {y : α} : ∀ {l : List α}, y ∈ srtT l ↔ y ∈ l
  | [] => by simp [srtT]
  | x :: l => by simp [srtT, mem_insT, mem_srtT (l := l)]
theorem inc_insT [PLt α] [PLo α] {x : α} : ∀ {l : List α}, Inc l → x ∉ l → Inc (insT x l)
  | [], _, _ => by simp [insT, Inc]
  | y :: l, h, hx => by
    rw [inc_cons] at h
    unfold insT
    split
    · rename_i hy
      rw [inc_cons]
      refine ⟨fun b hb => ?_, inc_insT h.2 (fun q => hx (by simp [q]))⟩
      rcases mem_insT.mp hb with e | hb
      · subst e; exact hy
      · exact h.1 b hb
    · rename_i hy
      rw [inc_cons]
      have hxy : plt x y = true := by
        rcases PLo.tot x y (fun e => hx (by simp [e])) with q | q
        · exact q
        · exact absurd q hy
      refine ⟨fun b hb => ?_, inc_cons.mpr h⟩
      rcases List.mem_cons.mp hb with e | hb
      · subst e; exact hxy
      · exact PLo.tr _ _ _ hxy (h.1 b hb)
theorem inc_srtT [PLt α] [PLo α] : ∀ {l : List α}, l.Nodup → Inc (srtT l)
  | [], _ => inc_nil
  | x :: l, h => by
    rw [List.nodup_cons] at h
    exact inc_insT (inc_srtT h.2) (fun q => h.1 (mem_srtT.mp q))
theorem insT_len [PLt α] (x : α) : ∀ l : List α, (insT x l).length = l.length + 1
  | [] => rfl
  | y :: l => by unfold insT; split <;> simp [insT_len x l]
theorem srtT_len [PLt α] : ∀ l : List α, (srtT l).length = l.length
  | [] => rfl
  | x :: l => by simp [srtT, insT_len, srtT_len l]
theorem mem_dedT [DecidableEq α] {y : α} : ∀ {l : List α}, y ∈ dedT l ↔ y ∈ l
  | [] => by simp [dedT]
  | x :: l => by
    unfold dedT
    split
    · rename_i h
      rw [mem_dedT (l := l)]
      constructor
      · intro q; simp [q]
      · intro q
        rcases List.mem_cons.mp q with e | q
        · subst e; exact h
        · exact q
    · simp [mem_dedT (l := l)]
theorem nodup_dedT [DecidableEq α] : ∀ l : List α, (dedT l).Nodup
  | [] => by simp [dedT]
  | x :: l => by
    unfold dedT
    split
    · exact nodup_dedT l
    · rename_i h
      rw [List.nodup_cons]
      exact ⟨fun q => h (mem_dedT.mp q), nodup_dedT l⟩
theorem dedT_len [DecidableEq α] : ∀ l : List α, (dedT l).length ≤ l.length
  | [] => by simp [dedT]
  | x :: l => by
    have := dedT_len l
    unfold dedT
    split <;> simp <;> omega
theorem dedT_id [DecidableEq α] : ∀ {l : List α}, l.Nodup → dedT l = l
  | [], _ => rfl
  | x :: l, h => by
    rw [List.nodup_cons] at h
    unfold dedT
    rw [if_neg h.1, dedT_id h.2]
/-- sorted(set(..)) -/
def sset [PLt α] [DecidableEq α] (l : List α) : List α := srtT (dedT l)
theorem mem_sset [PLt α] [DecidableEq α] {y : α} {l : List α} : y ∈ sset l ↔ y ∈ l := by rw [sset, mem_srtT, mem_dedT]
theorem inc_sset [PLt α] [PLo α] [DecidableEq α] (l : List α) : Inc (sset l) := inc_srtT (nodup_dedT l)
theorem sset_len [PLt α] [DecidableEq α] (l : List α) : (sset l).length ≤ l.length := by rw [sset, srtT_len]; exact dedT_len l
theorem sset_of [PLt α] [PLo α] [DecidableEq α] {l m : List α} (hm : Inc m) (h : ∀ x, x ∈ l ↔ x ∈ m) : sset l = m := inc_ext (inc_sset l) hm fun x => by rw [mem_sset, h]
theorem srt_of [PLt α] [PLo α] {l m : List α} (hl : l.Nodup) (hm : Inc m) (h : ∀ x, x ∈ l ↔ x ∈ m) : srtT l = m := inc_ext (inc_srtT hl) hm fun x => by rw [mem_srtT, h]
theorem srt_inc [PLt α] [PLo α] {l : List α} (h : Inc l) : srtT l = l := srt_of (inc_nodup h) h fun _ => Iff.rfl
theorem setR_ok [PLt α] [DecidableEq α] {m : Nat} {l : List α} (h : l.length < m) : (setR m l).mp srtT = .ok (sset l) := by rw [setR, if_pos h]; rfl
end
/-! ### ranges -/
theorem mem_irg {a b x : Int} : x ∈ irg a b ↔ a ≤ x ∧ x < b := by
  simp only [irg, List.mem_map, List.mem_range]
  constructor
  · rintro ⟨n, hn, rfl⟩; omega
  · intro h
    exact ⟨(x - a).toNat, by omega, by omega⟩
theorem irg_len {a b : Int} : (irg a b).length = (b - a).toNat := by simp [irg]
theorem inc_irg (a b : Int) : Inc (irg a b) := by
  unfold irg Inc
  rw [List.pairwise_map]
  refine List.Pairwise.imp ?_ List.pairwise_lt_range
  intro x y h
  rw [plt_int]
  omega
theorem rgOk_s {n : Int} (h : n ≤ 1000) (h0 : -1000 ≤ n) : rgOk 0 n = true := by
  have : n.toNat ≤ 1000 := by omega
  simp only [rgOk, Bool.and_eq_true, decide_eq_true_eq, LIM]
  refine ⟨⟨⟨⟨by omega, by omega⟩, by omega⟩, by omega⟩, ?_⟩
  omega
theorem rgOk_s2 {a n : Int} (h : n ≤ 1000) (h0 : -1000 ≤ n) (h2 : -1000 ≤ a) (h3 : a ≤ 1000) : rgOk a n = true := by
  simp only [rgOk, Bool.and_eq_true, decide_eq_true_eq, LIM]
  refine ⟨⟨⟨⟨by omega, by omega⟩, by omega⟩, by omega⟩, ?_⟩
  omega
theorem rng_ok {n : Int} (h : n ≤ 1000) (h0 : -1000 ≤ n) : rngR 0 n = .ok (irg 0 n) := by rw [rngR, if_pos (rgOk_s h h0)]
theorem rng_ok2 {a n : Int} (h : n ≤ 1000) (h0 : -1000 ≤ n) (h2 : -1000 ≤ a) (h3 : a ≤ 1000) : rngR a n = .ok (irg a n) := by rw [rngR, if_pos (rgOk_s2 h h0 h2 h3)]
theorem cat_ok {α : Type} {a b : List α} (h : a.length + b.length ≤ 100000) : catR a b = .ok (a ++ b) := by
  rw [catR, if_pos (by unfold LIM; omega)]
theorem app_ok {α : Type} {a b : List α} (h : a.length + b.length ≤ 100000) : appR a b = .ok (a ++ b) := by
  rw [appR, if_pos (by unfold LIM; omega)]
/-! ### keys -/
def Vk (n : Int) (ks : List Int) : Prop := (∀ k ∈ ks, 0 ≤ k ∧ k < n) ∧ Inc ks
theorem rise_inc : ∀ {ks : List Int}, rise (ks.map .int) = true ↔ Inc ks
  | [] => by simp [rise, Inc]
  | [a] => by simp [rise, Inc]
  | a :: b :: r => by
    have ih := rise_inc (ks := b :: r)
    simp only [List.map_cons] at ih
    simp only [List.map_cons, rise, Bool.and_eq_true, decide_eq_true_eq, ih]
    constructor
    · rintro ⟨h1, h2⟩
      rw [inc_cons]
      refine ⟨fun x hx => ?_, h2⟩
      rw [plt_int]
      rcases List.mem_cons.mp hx with e | hx
      · omega
      · have := (inc_cons.mp h2).1 x hx
        rw [plt_int] at this
        omega
    · intro h
      rw [inc_cons] at h
      exact ⟨plt_int.mp (h.1 b (by simp)), h.2⟩
theorem keysOf_iff {n : Int} {ks : List Int} : keysOf n (eT eI ks) = true ↔ Vk n ks := by
  simp only [keysOf, eT, Bool.and_eq_true, Vk]
  have h2 : rise (ks.map eI) = true ↔ Inc ks := rise_inc
  rw [h2]
  have h1 : nums 0 (n - 1) (ks.map eI) = true ↔ ∀ k ∈ ks, 0 ≤ k ∧ k < n := by
    simp only [nums, List.all_map, List.all_eq_true, Function.comp, eI, isNum, Bool.and_eq_true, decide_eq_true_eq]
    constructor
    · intro h k hk; have := h k hk; omega
    · intro h k hk; have := h k hk; omega
  rw [h1]
theorem inc_len {n : Int} : ∀ {ks : List Int} {a : Int}, (∀ k ∈ ks, a ≤ k ∧ k < n) → Inc ks → ks.length ≤ (n - a).toNat
  | [], _, _, _ => by simp
  | k :: r, a, h, hi => by
    rw [inc_cons] at hi
    have h0 := h k (by simp)
    have := inc_len (ks := r) (a := k + 1) (fun x hx => ⟨by have := plt_int.mp (hi.1 x hx); omega, (h x (by simp [hx])).2⟩) hi.2
    simp only [List.length_cons]
    omega
theorem vk_len {n : Int} {ks : List Int} (h : Vk n ks) : ks.length ≤ n.toNat := by
  have := inc_len h.1 h.2
  simpa using this
theorem vk_nil (n : Int) : Vk n [] := ⟨by simp, inc_nil⟩
theorem vk_all (n : Int) : Vk n (irg 0 n) := ⟨fun k h => mem_irg.mp h, inc_irg 0 n⟩
theorem vk_filter (n : Int) (p : Int → Bool) : Vk n ((irg 0 n).filter p) := ⟨fun k h => mem_irg.mp (List.mem_filter.mp h).1, inc_filter p (inc_irg 0 n)⟩
/-! ### squares -/
structure Vs (sq : Sq) : Prop where
  one : 1 ≤ sq.1.length
  six : sq.1.length ≤ 6
  co : ∀ p ∈ sq.1, (0 ≤ p.1 ∧ p.1 ≤ 5) ∧ 0 ≤ p.2 ∧ p.2 ≤ 5
  nd : sq.1.Nodup
  dk : Vk (sq.1.length : Int) sq.2
theorem isSq_iff {sq : Sq} : isSquareD (eSq sq) = true ↔ Vs sq := by
  have e : isSquareD (eSq sq) = ((decide (1 ≤ (sq.1.length : Int)) && decide ((sq.1.length : Int) ≤ 6)) && ((sq.1.map (eP eI eI)).all isSpot && (decide (((dedT sq.1).length : Int) = (sq.1.length : Int)) && keysOf sq.1.length (eT eI sq.2)))) := by
    simp only [eSq, eP, eT, isSquareD, List.length_map]
    have : dedup (List.map (fun p : Int × Int => PyData.tuple [eI p.1, eI p.2]) sq.1) = (dedT sq.1).map (eP eI eI) := dedup_map (e := eP eI eI) sq.1
    rw [show (List.map (eP eI eI) sq.1) = List.map (fun p : Int × Int => PyData.tuple [eI p.1, eI p.2]) sq.1 from rfl, this, List.length_map]
  rw [e]
  simp only [Bool.and_eq_true, decide_eq_true_eq, keysOf_iff, List.all_map, List.all_eq_true, Function.comp]
  have hs : (∀ x ∈ sq.1, isSpot (eP eI eI x) = true) ↔ ∀ p ∈ sq.1, (0 ≤ p.1 ∧ p.1 ≤ 5) ∧ 0 ≤ p.2 ∧ p.2 ≤ 5 := by
    simp only [eP, isSpot, isNum, eI, Bool.and_eq_true, decide_eq_true_eq]
  have hd : ((dedT sq.1).length : Int) = (sq.1.length : Int) ↔ sq.1.Nodup := by
    constructor
    · intro h
      have h : (dedT sq.1).length = sq.1.length := by omega
      generalize sq.1 = l at h
      induction l with
      | nil => exact List.nodup_nil
      | cons x l ih =>
        unfold dedT at h
        split at h
        · have := dedT_len l
          simp at h
          omega
        · rename_i hx
          rw [List.nodup_cons]
          exact ⟨hx, ih (by simpa using h)⟩
    · intro h
      rw [dedT_id h]
  rw [hs, hd]
  constructor
  · rintro ⟨⟨h1, h2⟩, h3, h4, h5⟩
    exact ⟨by omega, by omega, h3, h4, h5⟩
  · rintro ⟨h1, h2, h3, h4, h5⟩
    exact ⟨⟨by omega, by omega⟩, h3, h4, h5⟩
theorem needSq_ok {sq : Sq} (h : Vs sq) : needSq (eSq sq) = .ok () := by rw [needSq, isSq_iff.mpr h]; rfl
theorem needKs_ok {sq : Sq} {ks : List Int} (h : Vk sq.1.length ks) : needKs sq (eT eI ks) = .ok () := by rw [needKs, keysOf_iff.mpr h]; rfl
/-! ### places in lists -/
def ixOf (l : List Int) (x : Int) : Int := (l.idxOf x : Nat)
theorem idxT_ok {l : List Int} {x : Int} (h : x ∈ l) : idxT l x = .ok (ixOf l x) := by rw [idxT, if_pos h]; rfl
theorem lcR_all {α β : Type} {f : α → R (Option β)} {p : α → Option β} : ∀ {xs : List α}, (∀ x ∈ xs, f x = .ok (p x)) → lcR f xs = .ok (xs.filterMap p)
  | [], _ => rfl
  | x :: xs, h => by
    rw [lcR, h x (by simp), lcR_all (xs := xs) fun y hy => h y (by simp [hy])]
    cases q : p x <;> simp [List.filterMap_cons, q]
theorem lcR_one {α β : Type} {f : α → R (Option β)} {p : α → β} {xs : List α} (h : ∀ x ∈ xs, f x = .ok (some (p x))) : lcR f xs = .ok (xs.map p) := by
  rw [lcR_all h, fm_some]
theorem lcR_flt {α : Type} {f : α → R (Option α)} {p : α → Bool} {xs : List α} (h : ∀ x ∈ xs, f x = .ok (if p x then some x else none)) : lcR f xs = .ok (xs.filter p) := by
  rw [lcR_all h]
  congr 1
  induction xs with
  | nil => rfl
  | cons x xs ih =>
    rw [List.filterMap_cons, List.filter_cons, ih fun y hy => h y (by simp [hy])]
    cases p x <;> rfl
end Wq.P

end
section
set_option Elab.async false
set_option linter.all false
set_option autoImplicit false
set_option maxRecDepth 100000
/-! Plain facts: squares, drawn ones. -/
namespace Wq.P
open PySem Wq
theorem forC_inv {α σ τ : Type} {f : α → σ → Ct σ τ} {I : σ → Prop} : ∀ {xs : List α}, (∀ x ∈ xs, ∀ s, I s → ∃ s', f x s = .nx s' ∧ I s') → ∀ s, I s → ∃ s', forC f xs s = .nx s' ∧ I s'
  | [], _, s, hs => ⟨s, rfl, hs⟩
  | x :: xs, h, s, hs => by
    obtain ⟨s1, e1, h1⟩ := h x (by simp) s hs
    obtain ⟨s2, e2, h2⟩ := forC_inv (xs := xs) (fun y hy => h y (by simp [hy])) s1 h1
    refine ⟨s2, ?_, h2⟩
    rw [forC, e1]
    exact e2
theorem forC_true {α σ τ : Type} {f : α → σ → Ct σ τ} {xs : List α} {s : σ} (h : ∀ x ∈ xs, f x s = .nx s) : forC f xs s = .nx s := by
  obtain ⟨s', e, r⟩ := forC_inv (I := fun t => t = s) (f := f) (xs := xs) (fun x hx t ht => ⟨s, by rw [ht]; exact h x hx, rfl⟩) s rfl
  rw [e, r]
/-! ### the defs on squares -/
def turnF (sq : Sq) : Sq := (sq.1.map fun p => (p.2, p.1), sq.2)
def rowsF (sq : Sq) : List Int := sset (sq.1.map fun p => p.1)
def colsF (sq : Sq) : List Int := sset (sq.1.map fun p => p.2)
def tightF (sq : Sq) : Sq := (sq.1.map fun p => (ixOf (rowsF sq) p.1, ixOf (colsF sq) p.2), sq.2)
def wiresF (sq : Sq) : Int := ((rowsF sq).length : Int) + ((colsF sq).length : Int)
theorem m_wires_of_ok {l : List (Int × Int)} (h : l.length ≤ 6) : m_wires_of l = .ok (sset (l.map fun p => p.1), sset (l.map fun p => p.2)) := by
  have h1 : (setR 4000 (l.map fun p => p.1)).mp srtT = .ok (sset (l.map fun p => p.1)) := setR_ok (by simp; omega)
  have h2 : (setR 4000 (l.map fun p => p.2)).mp srtT = .ok (sset (l.map fun p => p.2)) := setR_ok (by simp; omega)
  simp only [m_wires_of, bd_ok, h1, h2, ct_ok, run_rt]
theorem m_wires_ok {sq : Sq} (h : Vs sq) : m_wires sq = .ok (wiresF sq) := by
  simp only [m_wires, bd_ok, needSq_ok h, m_wires_of_ok h.six, ct_ok, ct2_ok, run_rt]
  rfl
theorem m_turned_ok {sq : Sq} (h : Vs sq) : m_turned sq = .ok (turnF sq) := by
  simp only [m_turned, bd_ok, needSq_ok h, ct_ok, ct2_ok, run_rt]
  rfl
theorem m_tight_ok {sq : Sq} (h : Vs sq) : m_tight sq = .ok (tightF sq) := by
  have e : lcR (fun (p : Int × Int) => (R.bd (R.ok true) fun b => if b then (R.mp (R.bd (R.bd (R.ok (rowsF sq)) fun x3 => (R.bd (R.ok p.1) fun x4 => (idxT x3 x4))) fun x7 => (R.bd (R.bd (R.ok (colsF sq)) fun x5 => (R.bd (R.ok p.2) fun x6 => (idxT x5 x6))) fun x8 => (R.ok (x7, x8)))) some) else (R.ok none))) sq.1 = .ok (sq.1.map fun p => (ixOf (rowsF sq) p.1, ixOf (colsF sq) p.2)) := by
    refine lcR_one fun p hp => ?_
    have h1 : p.1 ∈ rowsF sq := mem_sset.mpr (List.mem_map.mpr ⟨p, hp, rfl⟩)
    have h2 : p.2 ∈ colsF sq := mem_sset.mpr (List.mem_map.mpr ⟨p, hp, rfl⟩)
    simp only [bd_ok, if_true, idxT_ok h1, idxT_ok h2, mp_ok]
  simp only [rowsF, colsF] at e
  simp only [m_tight, bd_ok, needSq_ok h, m_wires_of_ok h.six, ct_ok, ct2_ok, run_rt]
  simp only [bd_ok] at e
  rw [e]
  simp only [bd_ok, ct_ok, run_rt]
  rfl
theorem m_with_diodes_ok {sq : Sq} {ks : List Int} (h : Vs sq) (hk : Vk sq.1.length ks) : m_with_diodes sq ks = .ok (sq.1, ks) := by
  simp only [m_with_diodes, bd_ok, needSq_ok h, needKs_ok hk, ct_ok, run_rt]
theorem vs_turn {sq : Sq} (h : Vs sq) : Vs (turnF sq) := by
  refine ⟨by simpa [turnF] using h.one, by simpa [turnF] using h.six, ?_, ?_, by simpa [turnF] using h.dk⟩
  · intro p hp
    simp only [turnF, List.mem_map] at hp
    obtain ⟨q, hq, rfl⟩ := hp
    have := h.co q hq
    exact ⟨this.2, this.1⟩
  · simp only [turnF]
    rw [List.Nodup, List.pairwise_map]
    refine List.Pairwise.imp ?_ h.nd
    intro a b hab e
    apply hab
    obtain ⟨a1, a2⟩ := a
    obtain ⟨b1, b2⟩ := b
    simp only [Prod.mk.injEq] at e ⊢
    exact ⟨e.2, e.1⟩
theorem vs_dio {sq : Sq} {ks : List Int} (h : Vs sq) (hk : Vk sq.1.length ks) : Vs (sq.1, ks) := ⟨h.one, h.six, h.co, h.nd, hk⟩
theorem ix_lt {l : List Int} {x : Int} (h : x ∈ l) : 0 ≤ ixOf l x ∧ ixOf l x < l.length := by
  have := List.idxOf_lt_length_iff.mpr h
  unfold ixOf
  omega
theorem ix_get {l : List Int} {x : Int} (h : x ∈ l) : l[(ixOf l x).toNat]? = some x := by
  have h1 := List.idxOf_lt_length_iff.mpr h
  have : (ixOf l x).toNat = l.idxOf x := by simp [ixOf]
  rw [this, List.getElem?_eq_getElem h1, List.getElem_idxOf]
theorem ix_inj {l : List Int} {x y : Int} (hx : x ∈ l) (hy : y ∈ l) (h : ixOf l x = ixOf l y) : x = y := by
  have h1 := ix_get hx
  have h2 := ix_get hy
  rw [h, h2] at h1
  exact (Option.some.inj h1).symm
theorem row_mem {sq : Sq} {p : Int × Int} (hp : p ∈ sq.1) : p.1 ∈ rowsF sq := mem_sset.mpr (List.mem_map.mpr ⟨p, hp, rfl⟩)
theorem col_mem {sq : Sq} {p : Int × Int} (hp : p ∈ sq.1) : p.2 ∈ colsF sq := mem_sset.mpr (List.mem_map.mpr ⟨p, hp, rfl⟩)
theorem rows_len (sq : Sq) : (rowsF sq).length ≤ sq.1.length := by
  have := sset_len (sq.1.map fun p => p.1)
  simpa [rowsF] using this
theorem cols_len (sq : Sq) : (colsF sq).length ≤ sq.1.length := by
  have := sset_len (sq.1.map fun p => p.2)
  simpa [colsF] using this
theorem nodup_map_on {α β : Type} {f : α → β} : ∀ {l : List α}, (∀ a ∈ l, ∀ b ∈ l, f a = f b → a = b) → l.Nodup → (l.map f).Nodup
  | [], _, _ => List.nodup_nil
  | a :: l, h, hn => by
    rw [List.nodup_cons] at hn
    rw [List.map_cons, List.nodup_cons]
    refine ⟨fun q => ?_, nodup_map_on (fun x hx y hy => h x (by simp [hx]) y (by simp [hy])) hn.2⟩
    obtain ⟨b, hb, e⟩ := List.mem_map.mp q
    have := h b (by simp [hb]) a (by simp) e
    subst this
    exact hn.1 hb
theorem vs_tight {sq : Sq} (h : Vs sq) : Vs (tightF sq) := by
  refine ⟨by simpa [tightF] using h.one, by simpa [tightF] using h.six, ?_, ?_, by simpa [tightF] using h.dk⟩
  · intro p hp
    simp only [tightF, List.mem_map] at hp
    obtain ⟨q, hq, rfl⟩ := hp
    have h1 := ix_lt (row_mem hq)
    have h2 := ix_lt (col_mem hq)
    have h3 := rows_len sq
    have h4 := cols_len sq
    have h5 := h.six
    simp only
    omega
  · simp only [tightF]
    refine nodup_map_on (fun a ha b hb e => ?_) h.nd
    simp only [Prod.mk.injEq] at e
    have e1 := ix_inj (row_mem ha) (row_mem hb) e.1
    have e2 := ix_inj (col_mem ha) (col_mem hb) e.2
    exact Prod.ext e1 e2
/-! ### drawn ones -/
theorem drawn_ok (s : Sc) (k : Int) {m : Int} (h : 0 < m) : drawnR s k m = .ok (drawn s k m) := by rw [drawnR, if_pos h]
theorem ixR_ok {α : Type} {l : List α} {n : Int} (h0 : 0 ≤ n) (h : n < l.length) : ∃ x, ixR l n = .ok x ∧ l[n.toNat]? = some x := by
  have h1 : n.toNat < l.length := by omega
  refine ⟨l[n.toNat], ?_, List.getElem?_eq_getElem h1⟩
  simp [ixR, L2.atI, L2.ixN, h0, h, List.getElem?_eq_getElem h1, ofO]
def Near (many : Int) (s : List (Int × Int)) : Prop := (s.length : Int) ≤ many ∧ s.Nodup ∧ ∀ p ∈ s, (0 ≤ p.1 ∧ p.1 ≤ 5) ∧ 0 ≤ p.2 ∧ p.2 ≤ 5
theorem law_square_ok (s : Sc) (at_ : Int) {most : Int} (h1 : 1 ≤ most) (h6 : most ≤ 6) : ∃ sq, m__law_square s at_ most = .ok sq ∧ Vs sq ∧ (sq.1.length : Int) ≤ most := by
  have hm := drawn_bd s at_ (many := most) (by omega)
  have hw := drawn_bd s (at_ + 1) (many := 2) (by omega)
  have hs := drawn_bd s (at_ + 2) (many := 3) (by omega)
  have hr := drawn_bd s (at_ + 60) (many := 3) (by omega)
  generalize hmany : 1 + drawn s at_ most = many
  generalize hwide : 2 + drawn s (at_ + 1) 2 = wide
  generalize hshift : drawn s (at_ + 2) 3 = shift at *
  have step : ∀ k t, Near many t → ∃ t', m__law_square_B1 s at_ many wide shift k t = .nx t' ∧ (Near many t' ∧ 1 ≤ t'.length) := by
    intro k t ht
    have d1 := drawn_bd s (at_ + 3 + 2 * k) (many := wide) (by omega)
    have d2 := drawn_bd s (at_ + 3 + 2 * k + 1) (many := wide) (by omega)
    have e1 := drawn_ok s (at_ + 3 + 2 * k) (m := wide) (by omega)
    have e2 := drawn_ok s (at_ + 3 + 2 * k + 1) (m := wide) (by omega)
    simp only [m__law_square_B1, ct_ok, bd_ok, e1, e2]
    generalize hp : (shift + drawn s (at_ + 3 + 2 * k) wide, drawn s (at_ + 3 + 2 * k + 1) wide + 2 - shift) = p
    have hpc : (0 ≤ p.1 ∧ p.1 ≤ 5) ∧ 0 ≤ p.2 ∧ p.2 ≤ 5 := by
      subst hp
      simp only
      omega
    by_cases hc : (!memT p t && decide ((t.length : Int) < many)) = true
    · rw [if_pos hc, cat_ok (by have := ht.1; simp; omega), ct_ok]
      refine ⟨t ++ [p], rfl, ⟨?_, ?_, ?_⟩, by simp⟩
      · simp only [Bool.and_eq_true, decide_eq_true_eq] at hc
        simp
        omega
      · simp only [Bool.and_eq_true, Bool.not_eq_true', ← Bool.not_eq_true, memT_iff] at hc
        rw [List.nodup_append]
        refine ⟨ht.2.1, by simp, ?_⟩
        intro a ha b hb e
        simp only [List.mem_singleton] at hb
        subst hb
        subst e
        exact hc.1 ha
      · intro q hq
        rcases List.mem_append.mp hq with hq | hq
        · exact ht.2.2 q hq
        · rw [List.mem_singleton] at hq
          subst hq
          exact hpc
    · rw [if_neg hc, cat_ok (by have := ht.1; simp; omega), ct_ok]
      refine ⟨t ++ [], rfl, ?_⟩
      rw [List.append_nil]
      refine ⟨ht, ?_⟩
      cases t with
      | nil =>
        exfalso
        apply hc
        simp [memT]
        omega
      | cons _ _ => simp
  have hrg : rngR 0 (4 * many) = .ok (irg 0 (4 * many)) := rng_ok (by omega) (by omega)
  have hloop : ∃ t, m__law_square_L1 s at_ many wide shift [] = .nx t ∧ (Near many t ∧ 1 ≤ t.length) := by
    simp only [m__law_square_L1, bd_ok, hrg, ct_ok]
    cases hx : irg 0 (4 * many) with
    | nil =>
      have := irg_len (a := 0) (b := 4 * many)
      rw [hx] at this
      simp at this
      omega
    | cons x xs =>
      obtain ⟨t1, e1, n1⟩ := step x [] ⟨by simp; omega, List.nodup_nil, by simp⟩
      obtain ⟨t2, e2, n2⟩ := forC_inv (I := fun t => Near many t ∧ 1 ≤ t.length) (f := m__law_square_B1 s at_ many wide shift) (xs := xs) (fun y _ t ht => step y t ht.1) t1 n1
      refine ⟨t2, ?_, n2⟩
      rw [forC, e1]
      exact e2
  obtain ⟨t, et, nt, ht⟩ := hloop
  have hl : (t.length : Int) ≤ 6 := by have := nt.1; omega
  obtain ⟨rare, er, hr1⟩ : ∃ rare : Int, ixR [2, 4, 9] (drawn s (at_ + 60) 3) = .ok rare ∧ 0 < rare := by
    obtain ⟨x, e, hx⟩ := ixR_ok (l := ([2, 4, 9] : List Int)) hr.1 (by simpa using hr.2)
    refine ⟨x, e, ?_⟩
    have : x ∈ ([2, 4, 9] : List Int) := List.mem_of_getElem? hx
    simp at this
    omega
  have hrg2 : rngR 0 (t.length : Int) = .ok (irg 0 t.length) := rng_ok (by omega) (by omega)
  have hd : lcR (fun (key : Int) => (R.bd (R.bd (drawnR s ((at_ + (61 : Int)) + key) rare) fun x30 => (R.ok (decide (x30 = (0 : Int))))) fun b => if b then (R.ok (some key)) else (R.ok none))) (irg 0 t.length) = .ok ((irg 0 t.length).filter fun key => decide (drawn s (at_ + 61 + key) rare = 0)) := by
    refine lcR_flt fun k hk => ?_
    simp only [drawn_ok s _ hr1, bd_ok]
    split <;> rfl
  refine ⟨(t, (irg 0 t.length).filter fun key => decide (drawn s (at_ + 61 + key) rare = 0)), ?_, ⟨ht, by simp only; omega, nt.2.2, nt.2.1, vk_filter _ _⟩, by simp only; have := nt.1; omega⟩
  simp only [m__law_square, bd_ok, drawn_ok s at_ (show 0 < most by omega), hmany, hwide, hshift, ct_ok, et, cbind_nx, er, hrg2, mp_ok, hd, run_rt]
theorem law_set_ok (s : Sc) (at_ : Int) {many : Int} (h0 : 0 ≤ many) (h : many ≤ 1000) : ∃ ks, m__law_set s at_ many = .ok ks ∧ Vk many ks := by
  refine ⟨(irg 0 many).filter fun key => decide (0 < drawn s (at_ + key) 3), ?_, vk_filter _ _⟩
  simp only [m__law_set, bd_ok, rng_ok h (by omega), ct_ok, run_rt]
/-! ### the wires of a square, numbered -/
theorem ix_irg {n x : Int} (h0 : 0 ≤ x) (h : x < n) : ixOf (irg 0 n) x = x := by
  have hm : x ∈ irg 0 n := mem_irg.mpr ⟨h0, h⟩
  have h1 := ix_lt hm
  have h2 := ix_get hm
  rw [irg_len] at h1
  generalize ixOf (irg 0 n) x = i at *
  have h3 : i.toNat < (n - 0).toNat := by omega
  rw [irg, List.getElem?_map, List.getElem?_range h3] at h2
  simp only [Option.map_some, Option.some.injEq] at h2
  omega
theorem idx_nodup : ∀ {l : List Int}, l.Nodup → ∀ (i : Nat) (h : i < l.length), l.idxOf l[i] = i
  | a :: l, _, 0, _ => by simp
  | a :: l, hn, i + 1, h => by
    rw [List.nodup_cons] at hn
    have h1 : i < l.length := by simpa using h
    have h2 : (a == l[i]) = false := by
      rw [beq_eq_false_iff_ne]
      intro e
      exact hn.1 (e ▸ List.getElem_mem h1)
    simp only [List.getElem_cons_succ, List.idxOf_cons, h2, Bool.cond_false, idx_nodup hn.2 i h1]
/-- numbered anew, they are all from nought on -/
theorem sset_ix (xs : List Int) : sset (xs.map (ixOf (sset xs))) = irg 0 (sset xs).length := by
  refine sset_of (inc_irg _ _) fun y => ?_
  rw [mem_irg, List.mem_map]
  constructor
  · rintro ⟨x, hx, rfl⟩
    exact ix_lt (mem_sset.mpr hx)
  · rintro ⟨h0, h1⟩
    have h2 : y.toNat < (sset xs).length := by omega
    refine ⟨(sset xs)[y.toNat], mem_sset.mp (List.getElem_mem h2), ?_⟩
    have := idx_nodup (inc_nodup (inc_sset xs)) y.toNat h2
    rw [ixOf, this]
    omega
theorem rows_tight (sq : Sq) : rowsF (tightF sq) = irg 0 (rowsF sq).length := by
  have : (tightF sq).1.map (fun p => p.1) = (sq.1.map fun p => p.1).map (ixOf (sset (sq.1.map fun p => p.1))) := by
    simp [tightF, rowsF, Function.comp]
  rw [rowsF, this, sset_ix]
  rfl
theorem cols_tight (sq : Sq) : colsF (tightF sq) = irg 0 (colsF sq).length := by
  have : (tightF sq).1.map (fun p => p.2) = (sq.1.map fun p => p.2).map (ixOf (sset (sq.1.map fun p => p.2))) := by
    simp [tightF, colsF, Function.comp]
  rw [colsF, this, sset_ix]
  rfl
theorem rows_turn (sq : Sq) : rowsF (turnF sq) = colsF sq := by
  simp only [rowsF, colsF, turnF, List.map_map]
  rfl
theorem cols_turn (sq : Sq) : colsF (turnF sq) = rowsF sq := by
  simp only [rowsF, colsF, turnF, List.map_map]
  rfl
theorem turn_turn (sq : Sq) : turnF (turnF sq) = sq := by
  obtain ⟨a, b⟩ := sq
  simp only [turnF, List.map_map]
  exact Prod.ext (List.map_id'' (fun p => rfl) a) rfl
theorem tight_tight (sq : Sq) : tightF (tightF sq) = tightF sq := by
  rw [tightF, rows_tight, cols_tight]
  refine Prod.ext ?_ rfl
  simp only [tightF, List.map_map]
  apply List.map_congr_left
  intro p hp
  have h1 := ix_lt (row_mem hp)
  have h2 := ix_lt (col_mem hp)
  simp only [Function.comp, ix_irg h1.1 h1.2, ix_irg h2.1 h2.2]
theorem tight_turn (sq : Sq) : tightF (turnF sq) = turnF (tightF sq) := by
  rw [tightF, rows_turn, cols_turn]
  refine Prod.ext ?_ rfl
  simp [turnF, tightF, Function.comp]
theorem wires_turn (sq : Sq) : wiresF (turnF sq) = wiresF sq := by
  rw [wiresF, wiresF, rows_turn, cols_turn]
  omega
theorem wires_tight (sq : Sq) : wiresF (tightF sq) = wiresF sq := by
  rw [wiresF, wiresF, rows_tight, cols_tight, irg_len, irg_len]
  omega
theorem wires_dio (sq : Sq) (ks : List Int) : wiresF (sq.1, ks) = wiresF sq := rfl
end Wq.P

end
section
set_option Elab.async false
set_option linter.all false
set_option autoImplicit false
set_option maxRecDepth 100000
/-! What is seen: the rows and columns to which one is led. -/
namespace Wq.P
open PySem Wq
/-! ### loops -/
theorem forC_pre {α σ τ : Type} {f : α → σ → Ct σ τ} {I : List α → σ → Prop} : ∀ {xs done : List α}, (∀ pre x post, done ++ xs = pre ++ x :: post → ∀ s, I pre s → ∃ s', f x s = .nx s' ∧ I (pre ++ [x]) s') → ∀ s, I done s → ∃ s', forC f xs s = .nx s' ∧ I (done ++ xs) s'
  | [], done, _, s, hs => ⟨s, rfl, by simpa using hs⟩
  | x :: xs, done, h, s, hs => by
    obtain ⟨s1, e1, h1⟩ := h done x xs rfl s hs
    obtain ⟨s2, e2, h2⟩ := forC_pre (xs := xs) (done := done ++ [x]) (fun pre y post e => h pre y post (by simpa using e)) s1 h1
    refine ⟨s2, ?_, by simpa using h2⟩
    rw [forC, e1]
    exact e2
theorem whC_inv {σ τ : Type} {T : σ → R Bool} {B : σ → Ct σ τ} {I : σ → Prop} {t : σ → Bool} {μ : σ → Nat} (ht : ∀ s, I s → T s = .ok (t s)) (hb : ∀ s, I s → t s = true → ∃ s', B s = .nx s' ∧ I s' ∧ μ s' < μ s) : ∀ (n : Nat) (s : σ), I s → μ s < n → ∃ s', whC T B n s = .nx s' ∧ I s' ∧ t s' = false
  | 0, s, _, h => by omega
  | n + 1, s, hs, h => by
    rw [whC, ht s hs, ct_ok]
    cases q : t s with
    | false => exact ⟨s, by simp, hs, q⟩
    | true =>
      obtain ⟨s1, e1, h1, h2⟩ := hb s hs q
      obtain ⟨s2, e2, h3⟩ := whC_inv ht hb n s1 h1 (by omega)
      exact ⟨s2, by rw [if_pos rfl, e1]; exact e2, h3⟩
/-! ### numbered lists -/
theorem mem_enT {α : Type} {i : Int} {x : α} : ∀ {l : List α} {n : Int}, (i, x) ∈ enT n l ↔ n ≤ i ∧ l[(i - n).toNat]? = some x
  | [], n => by simp [enT]
  | y :: l, n => by
    rw [enT, List.mem_cons, mem_enT (l := l), Prod.mk.injEq]
    constructor
    · rintro (⟨rfl, rfl⟩ | ⟨h1, h2⟩)
      · simp
      · refine ⟨by omega, ?_⟩
        have : (i - n).toNat = (i - (n + 1)).toNat + 1 := by omega
        rw [this, List.getElem?_cons_succ]
        exact h2
    · rintro ⟨h1, h2⟩
      by_cases e : i = n
      · subst e
        simp at h2
        exact .inl ⟨rfl, h2.symm⟩
      · have : (i - n).toNat = (i - (n + 1)).toNat + 1 := by omega
        rw [this, List.getElem?_cons_succ] at h2
        exact .inr ⟨by omega, h2⟩
theorem enT_inc {α : Type} : ∀ (l : List α) (n : Int), (enT n l).Pairwise fun p q => p.1 < q.1
  | [], _ => List.Pairwise.nil
  | x :: l, n => by
    rw [enT, List.pairwise_cons]
    refine ⟨fun q hq => ?_, enT_inc l (n + 1)⟩
    obtain ⟨i, y⟩ := q
    have := (mem_enT.mp hq).1
    simp only
    omega
theorem enT_len {α : Type} : ∀ (l : List α) (n : Int), (enT n l).length = l.length
  | [], _ => rfl
  | x :: l, n => by simp [enT, enT_len l]
theorem cut_take {α : Type} (l : List α) {i : Int} (h : 0 ≤ i) : cut l none (some i) = l.take i.toNat := by
  have h1 : HT.sIx l.length 0 none = 0 := rfl
  simp only [cut, h1, List.drop_zero, HT.sIx]
  have h2 : ¬ i < 0 := by omega
  simp only [h2, if_false, Nat.sub_zero]
  by_cases q : i.toNat ≤ l.length
  · congr 1
    omega
  · rw [List.take_of_length_le (by omega), List.take_of_length_le (by omega)]
theorem idx_le : ∀ (l : List Int) (i : Nat) (x : Int) (h : i < l.length), l[i] = x → l.idxOf x ≤ i
  | a :: l, 0, x, _, e => by
    simp at e
    subst e
    simp
  | a :: l, i + 1, x, h, e => by
    simp only [List.getElem_cons_succ] at e
    have := idx_le l i x (by simpa using h) e
    rw [List.idxOf_cons]
    cases a == x
    · simp; omega
    · simp
/-- rows with others -/
theorem with_more_ok {rows more : List Int} (hl : rows.length + more.length ≤ 1000) (hr : rows.Nodup) : ∃ ex, m_with_more rows more = .ok (rows ++ ex) ∧ (rows ++ ex).Nodup ∧ (∀ x, x ∈ rows ++ ex ↔ x ∈ rows ∨ x ∈ more) := by
  have hle : ((enT 0 more).filter fun p => (!memT p.2 rows) && (!memT p.2 (cut more none (some p.1)))).length ≤ more.length := by
    have := List.length_filter_le (fun p : Int × Int => (!memT p.2 rows) && (!memT p.2 (cut more none (some p.1)))) (enT 0 more)
    rw [enT_len] at this
    exact this
  refine ⟨((enT 0 more).filter fun p => (!memT p.2 rows) && (!memT p.2 (cut more none (some p.1)))).map fun p => p.2, ?_, ?_, ?_⟩
  · simp only [m_with_more, bd_ok]
    rw [cat_ok (by rw [List.length_map]; omega)]
    simp only [ct_ok, run_rt]
  · rw [List.nodup_append]
    refine ⟨hr, ?_, ?_⟩
    · rw [List.Nodup, List.pairwise_map, List.pairwise_filter]
      refine List.Pairwise.imp_of_mem ?_ (enT_inc more 0)
      intro p q hp hq hlt h1 h2 e
      obtain ⟨i, x⟩ := p
      obtain ⟨j, y⟩ := q
      have hp := mem_enT.mp hp
      have hq := mem_enT.mp hq
      simp only at hlt e h2
      subst e
      simp only [Bool.and_eq_true, Bool.not_eq_true', ← Bool.not_eq_true, memT_iff] at h2
      apply h2.2
      rw [cut_take _ (by omega)]
      rw [List.mem_take_iff_getElem]
      have h3 := hp.2
      rw [Int.sub_zero] at h3
      obtain ⟨h4, h5⟩ := List.getElem?_eq_some_iff.mp h3
      exact ⟨i.toNat, by omega, h5⟩
    · intro a ha b hb e
      subst e
      obtain ⟨p, hp, rfl⟩ := List.mem_map.mp hb
      have := (List.mem_filter.mp hp).2
      simp only [Bool.and_eq_true, Bool.not_eq_true', ← Bool.not_eq_true, memT_iff] at this
      exact this.1 ha
  · intro x
    rw [List.mem_append]
    constructor
    · rintro (h | h)
      · exact .inl h
      · obtain ⟨p, hp, rfl⟩ := List.mem_map.mp h
        obtain ⟨i, y⟩ := p
        have := (mem_enT.mp (List.mem_filter.mp hp).1).2
        exact .inr (List.mem_of_getElem? this)
    · rintro (h | h)
      · exact .inl h
      · by_cases hx : x ∈ rows
        · exact .inl hx
        refine .inr (List.mem_map.mpr ⟨((more.idxOf x : Nat), x), List.mem_filter.mpr ⟨mem_enT.mpr ⟨by omega, ?_⟩, ?_⟩, rfl⟩)
        · have h1 := List.idxOf_lt_length_iff.mpr h
          have h2 : (((more.idxOf x : Nat) : Int) - 0).toNat = more.idxOf x := by omega
          rw [h2, List.getElem?_eq_getElem h1, List.getElem_idxOf]
        · simp only [Bool.and_eq_true, Bool.not_eq_true', ← Bool.not_eq_true, memT_iff]
          refine ⟨hx, ?_⟩
          rw [cut_take _ (by omega)]
          intro hm
          obtain ⟨i, hi, e⟩ := List.mem_take_iff_getElem.mp hm
          have h3 := idx_le more i x (by omega) e
          omega
/-! ### wires that lead to one another -/
def spotOf (sq : Sq) (k : Int) : Int × Int := (sq.1[k.toNat]?).getD (0, 0)
theorem spot_ok {sq : Sq} {k : Int} (h : 0 ≤ k ∧ k < sq.1.length) : ixR sq.1 k = .ok (spotOf sq k) := by
  obtain ⟨x, e, hx⟩ := ixR_ok h.1 h.2
  rw [e, spotOf, hx]
  rfl
/-- rows to which one is led from a row -/
inductive Rr (sq : Sq) (pr : List Int) (r0 : Int) : Int → Prop
  | base : Rr sq pr r0 r0
  | step {k k' : Int} : Rr sq pr r0 (spotOf sq k).1 → k ∈ pr → k' ∈ pr → (spotOf sq k').2 = (spotOf sq k).2 → k' ∉ sq.2 → Rr sq pr r0 (spotOf sq k').1
def Rc (sq : Sq) (pr : List Int) (r0 c : Int) : Prop := ∃ k ∈ pr, Rr sq pr r0 (spotOf sq k).1 ∧ (spotOf sq k).2 = c
def Sees (sq : Sq) (pr : List Int) (k : Int) : Prop := Rc sq pr (spotOf sq k).1 (spotOf sq k).2
theorem back_ok {sq : Sq} {pr : List Int} (hp : ∀ k ∈ pr, 0 ≤ k ∧ k < sq.1.length) (c : Int) : m_back_rows sq pr c = .ok ((pr.filter fun k => decide ((spotOf sq k).2 = c) && !memT k sq.2).map fun k => (spotOf sq k).1) := by
  have e : lcR (fun (key : Int) => (R.bd (R.bd (R.bd (R.bd (ixR sq.1 key) fun x6 => (R.ok (x6).2)) fun x7 => (R.ok (decide (x7 = c)))) fun b9 => (if b9 then (R.ok (!memT key sq.2)) else (R.ok false))) fun b => if b then (R.mp (R.bd (ixR sq.1 key) fun x3 => (R.ok (x3).1)) some) else (R.ok none))) pr = .ok (pr.filterMap fun k => if decide ((spotOf sq k).2 = c) && !memT k sq.2 then some (spotOf sq k).1 else none) := by
    refine lcR_all fun k hk => ?_
    simp only [spot_ok (hp k hk), bd_ok, mp_ok]
    by_cases h1 : (spotOf sq k).2 = c
    · simp only [h1, decide_true, if_true, bd_ok, Bool.true_and]
      split <;> rfl
    · simp [h1]
  simp only [m_back_rows, bd_ok, ct2_ok, e, ct_ok, run_rt]
  congr 1
  induction pr with
  | nil => rfl
  | cons x xs ih =>
    rw [List.filterMap_cons, List.filter_cons]
    have hx := fun k hk => hp k (List.mem_cons_of_mem x hk)
    have := ih hx ?_
    · split
      · rename_i h
        split at h
        · cases h
        · rename_i h2; rw [if_neg h2]; exact this
      · rename_i h
        split at h
        · rename_i h2
          rw [if_pos h2, List.map_cons]
          cases h
          rw [this]
        · cases h
    · refine lcR_all fun k hk => ?_
      simp only [spot_ok (hx k hk), bd_ok, mp_ok]
      by_cases h1 : (spotOf sq k).2 = c
      · simp only [h1, decide_true, if_true, bd_ok, Bool.true_and]
        split <;> rfl
      · simp [h1]
/-- how far the walk is: all rows and columns so far are such to which one is led -/
structure Wk (sq : Sq) (pr : List Int) (r0 : Int) (rows cols : List Int) : Prop where
  nd : rows.Nodup
  hd : rows.head? = some r0
  rr : ∀ r ∈ rows, Rr sq pr r0 r
  sub : ∀ r ∈ rows, r ∈ r0 :: pr.map fun k => (spotOf sq k).1
  rc : ∀ c ∈ cols, Rc sq pr r0 c
  cl : cols.Nodup
  csub : ∀ c ∈ cols, c ∈ pr.map fun k => (spotOf sq k).2
  bk : ∀ c ∈ cols, ∀ k ∈ pr, (spotOf sq k).2 = c → k ∉ sq.2 → (spotOf sq k).1 ∈ rows
theorem nodup_le {α : Type} [DecidableEq α] : ∀ {l m : List α}, l.Nodup → (∀ x ∈ l, x ∈ m) → l.length ≤ m.length
  | [], m, _, _ => by simp
  | a :: l, m, h, hs => by
    rw [List.nodup_cons] at h
    have h1 : ∀ x ∈ l, x ∈ m.erase a := fun x hx => (List.mem_erase_of_ne (fun e : x = a => h.1 (e ▸ hx))).mpr (hs x (by simp [hx]))
    have h2 := nodup_le h.2 h1
    have h3 := List.length_erase_of_mem (hs a (by simp))
    have h4 : 0 < m.length := List.length_pos_of_mem (hs a (by simp))
    simp only [List.length_cons]
    omega
theorem wk_len {sq : Sq} {pr : List Int} {r0 : Int} {rows cols : List Int} (h : Wk sq pr r0 rows cols) : rows.length ≤ pr.length + 1 ∧ cols.length ≤ pr.length := by
  have h1 := nodup_le h.nd h.sub
  have h2 := nodup_le h.cl h.csub
  simp at h1 h2
  exact ⟨h1, h2⟩
section
variable {sq : Sq} {pr : List Int} (hp : ∀ k ∈ pr, 0 ≤ k ∧ k < sq.1.length) (hl : pr.length ≤ 6)
include hp hl
/-- one row's keys -/
theorem from_L2 {r0 at_ : Int} {rows cols : List Int} (h : Wk sq pr r0 rows cols) (ha : 0 ≤ at_ ∧ at_ < rows.length) : ∃ rows' cols', m_columns_from_L2 sq pr at_ (rows, cols) = .nx (rows', cols') ∧ Wk sq pr r0 rows' cols' ∧ (∃ ex, rows' = rows ++ ex) ∧ (∀ c ∈ cols, c ∈ cols') ∧ ∀ k ∈ pr, rows[at_.toNat]? = some (spotOf sq k).1 → (spotOf sq k).2 ∈ cols' := by
  have key := forC_pre (f := m_columns_from_B2 sq pr at_) (xs := pr) (done := []) (I := fun pre s => Wk sq pr r0 s.1 s.2 ∧ (∃ ex, s.1 = rows ++ ex) ∧ (∀ c ∈ cols, c ∈ s.2) ∧ ∀ k ∈ pre, rows[at_.toNat]? = some (spotOf sq k).1 → (spotOf sq k).2 ∈ s.2) ?_ (rows, cols) ⟨h, ⟨[], by simp⟩, fun c hc => hc, by simp⟩
  · obtain ⟨⟨rows', cols'⟩, e, h1, h2, h3, h4⟩ := key
    refine ⟨rows', cols', ?_, h1, h2, h3, h4⟩
    simp only [m_columns_from_L2, ct_ok]
    exact e
  · rintro pre k post epr ⟨rs, cs⟩ ⟨w, ⟨ex, hex⟩, hc, hk⟩
    simp only at w hex hc hk
    subst hex
    have hkp : k ∈ pr := by
      simp only [List.nil_append] at epr
      rw [epr]; simp
    have hsp := spot_ok (hp k hkp)
    have hat : ∃ r, ixR (rows ++ ex) at_ = .ok r ∧ rows[at_.toNat]? = some r := by
      obtain ⟨x, e1, e2⟩ := ixR_ok (l := rows ++ ex) ha.1 (by simp; omega)
      refine ⟨x, e1, ?_⟩
      rw [List.getElem?_append_left (by omega)] at e2
      exact e2
    obtain ⟨r, er, hr⟩ := hat
    have hrm : r ∈ rows := List.mem_of_getElem? hr
    simp only [m_columns_from_B2, bd_ok, hsp, er]
    by_cases h1 : (spotOf sq k).1 = r
    · simp only [h1, decide_true, if_true, bd_ok, ct_ok]
      by_cases h2 : (spotOf sq k).2 ∈ cs
      · have : memT (spotOf sq k).2 cs = true := memT_iff.mpr h2
        simp only [this, Bool.not_true, ct_ok, Bool.false_eq_true, if_false]
        refine ⟨_, rfl, w, ⟨ex, rfl⟩, hc, ?_⟩
        intro k1 hk1 e1
        rcases List.mem_append.mp hk1 with hk1 | hk1
        · exact hk k1 hk1 e1
        · rw [List.mem_singleton] at hk1
          subst hk1
          exact h2
      · have : memT (spotOf sq k).2 cs = false := by rw [← Bool.not_eq_true, memT_iff]; exact h2
        have hlen := wk_len w
        have hb := back_ok hp (spotOf sq k).2
        have hbl : ((pr.filter fun k' => decide ((spotOf sq k').2 = (spotOf sq k).2) && !memT k' sq.2).map fun k => (spotOf sq k).1).length ≤ pr.length := by
          rw [List.length_map]; exact List.length_filter_le _ _
        obtain ⟨ex2, e2, n2, m2⟩ := with_more_ok (rows := rows ++ ex) (more := (pr.filter fun k' => decide ((spotOf sq k').2 = (spotOf sq k).2) && !memT k' sq.2).map fun k => (spotOf sq k).1) (by omega) w.nd
        have ha2 : appR cs [(spotOf sq k).2] = .ok (cs ++ [(spotOf sq k).2]) := app_ok (by simp; omega)
        simp only [this, Bool.not_false, ct_ok, if_true, ha2, hb, bd_ok, e2]
        refine ⟨_, rfl, ?_, ⟨ex ++ ex2, by simp⟩, fun c hcc => by simp [hc c hcc], ?_⟩
        · have hrk : Rr sq pr r0 (spotOf sq k).1 := by rw [h1]; exact w.rr r (by simp [hrm])
          have hbk : ∀ x, x ∈ (rows ++ ex) ++ ex2 ↔ x ∈ rows ++ ex ∨ ∃ k' ∈ pr, (spotOf sq k').2 = (spotOf sq k).2 ∧ k' ∉ sq.2 ∧ (spotOf sq k').1 = x := by
            intro x
            rw [m2]
            refine or_congr Iff.rfl ?_
            simp only [List.mem_map, List.mem_filter, Bool.and_eq_true, decide_eq_true_eq, Bool.not_eq_true', ← Bool.not_eq_true, memT_iff]
            constructor
            · rintro ⟨k', ⟨a1, a2, a3⟩, a4⟩; exact ⟨k', a1, a2, a3, a4⟩
            · rintro ⟨k', a1, a2, a3, a4⟩; exact ⟨k', ⟨a1, a2, a3⟩, a4⟩
          refine ⟨n2, ?_, ?_, ?_, ?_, ?_, ?_, ?_⟩
          · have := w.hd
            cases hro : rows ++ ex with
            | nil => rw [hro] at this; cases this
            | cons a l => rw [hro] at this; simpa using this
          · intro x hx
            rcases (hbk x).mp hx with hx | ⟨k', b1, b2, b3, rfl⟩
            · exact w.rr x hx
            · exact .step hrk hkp b1 b2 b3
          · intro x hx
            rcases (hbk x).mp hx with hx | ⟨k', b1, b2, b3, rfl⟩
            · exact w.sub x hx
            · exact List.mem_cons_of_mem _ (List.mem_map.mpr ⟨k', b1, rfl⟩)
          · intro c hcc
            rcases List.mem_append.mp hcc with hcc | hcc
            · exact w.rc c hcc
            · rw [List.mem_singleton] at hcc
              subst hcc
              exact ⟨k, hkp, hrk, rfl⟩
          · rw [List.nodup_append]
            refine ⟨w.cl, by simp, ?_⟩
            intro a ha' b hb' e
            rw [List.mem_singleton] at hb'
            subst hb'
            subst e
            exact h2 ha'
          · intro c hcc
            rcases List.mem_append.mp hcc with hcc | hcc
            · exact w.csub c hcc
            · rw [List.mem_singleton] at hcc
              subst hcc
              exact List.mem_map.mpr ⟨k, hkp, rfl⟩
          · intro c hcc k' b1 b2 b3
            rw [hbk]
            rcases List.mem_append.mp hcc with hcc | hcc
            · exact .inl (w.bk c hcc k' b1 b2 b3)
            · rw [List.mem_singleton] at hcc
              subst hcc
              exact .inr ⟨k', b1, b2, b3, rfl⟩
        · intro k1 hk1 e1
          rcases List.mem_append.mp hk1 with hk1 | hk1
          · simp [hk k1 hk1 e1]
          · rw [List.mem_singleton] at hk1
            subst hk1
            simp
    · simp only [h1, decide_false, Bool.false_eq_true, if_false, ct_ok]
      refine ⟨_, rfl, w, ⟨ex, rfl⟩, hc, ?_⟩
      intro k1 hk1 e1
      rcases List.mem_append.mp hk1 with hk1 | hk1
      · exact hk k1 hk1 e1
      · rw [List.mem_singleton] at hk1
        subst hk1
        rw [hr] at e1
        exact absurd (Option.some.inj e1).symm h1
/-- all columns to which one is led -/
theorem from_ok (r0 : Int) : ∃ cs, m_columns_from sq pr r0 = .ok cs ∧ ∀ c, c ∈ cs ↔ Rc sq pr r0 c := by
  let I : List Int × List Int × Int → Prop := fun s => Wk sq pr r0 s.1 s.2.1 ∧ (0 ≤ s.2.2 ∧ s.2.2 ≤ s.1.length) ∧ ∀ k ∈ pr, ∀ i : Nat, (i : Int) < s.2.2 → s.1[i]? = some (spotOf sq k).1 → (spotOf sq k).2 ∈ s.2.1
  have key := whC_inv (T := m_columns_from_B1T sq pr) (B := m_columns_from_B1 sq pr) (I := I) (t := fun s => decide (s.2.2 < (s.1.length : Int))) (μ := fun s => (pr.length + 1) - s.2.2.toNat) (fun s _ => rfl) ?_ 1000 ([r0], [], 0) ?_ (by simp only; omega)
  · obtain ⟨⟨rows, cols, at_⟩, e, ⟨w, ⟨a0, a1⟩, hk⟩, ht⟩ := key
    simp only at w a0 a1 hk ht
    have hfin : at_ = rows.length := by
      have := of_decide_eq_false ht
      omega
    refine ⟨srtT cols, ?_, ?_⟩
    · simp only [m_columns_from, ct_ok, m_columns_from_L1, e, cbind_nx, run_rt]
    · intro c
      rw [mem_srtT]
      constructor
      · exact w.rc c
      · have all : ∀ r, Rr sq pr r0 r → r ∈ rows := by
          intro r hr
          induction hr with
          | base =>
            have := w.hd
            cases rows with
            | nil => cases this
            | cons a l => simp at this; simp [this]
          | @step k k' h1 h2 h3 h4 h5 ih =>
            obtain ⟨i, hi⟩ := List.mem_iff_getElem?.mp ih
            have hi2 := (List.getElem?_eq_some_iff.mp hi).1
            have hc := hk k h2 i (by omega) hi
            exact w.bk _ hc k' h3 h4 h5
        rintro ⟨k, hkp, hr, rfl⟩
        obtain ⟨i, hi⟩ := List.mem_iff_getElem?.mp (all _ hr)
        have hi2 := (List.getElem?_eq_some_iff.mp hi).1
        exact hk k hkp i (by omega) hi
  · rintro ⟨rows, cols, at_⟩ ⟨w, ⟨a0, a1⟩, hk⟩ ht
    simp only [decide_eq_true_eq] at w a0 a1 hk ht
    obtain ⟨rows', cols', e, w', ⟨ex, hex⟩, hc, hnew⟩ := from_L2 hp hl w ⟨a0, ht⟩
    subst hex
    refine ⟨(rows ++ ex, cols', at_ + 1), ?_, ⟨w', ⟨by simp only; omega, by simp only [List.length_append]; omega⟩, ?_⟩, ?_⟩
    · simp only [m_columns_from_B1, e, cbind_nx, ct_ok]
    · intro k hkp i hi e1
      simp only at hi e1 ⊢
      rw [List.getElem?_append_left (by omega)] at e1
      by_cases q : (i : Int) < at_
      · exact hc _ (hk k hkp i q e1)
      · have : i = at_.toNat := by omega
        subst this
        exact hnew k hkp e1
    · have := (wk_len w).1
      simp only
      omega
  · refine ⟨⟨by simp, rfl, ?_, ?_, by simp, by simp, by simp, by simp⟩, ⟨by simp, by simp⟩, ?_⟩
    · intro r hr
      simp at hr
      subst hr
      exact .base
    · intro r hr
      simp at hr
      simp [hr]
    · intro k _ i hi
      simp only at hi
      omega
/-- all keys that are seen -/
theorem seen_ex (hn : sq.1.length ≤ 6) : ∃ ks, m_keys_seen sq pr = .ok ks ∧ Inc ks ∧ ∀ k, k ∈ ks ↔ (0 ≤ k ∧ k < sq.1.length) ∧ Sees sq pr k := by
  have hspot : ∀ i x, (i, x) ∈ enT 0 sq.1 → spotOf sq i = x ∧ 0 ≤ i ∧ i < sq.1.length := by
    intro i x h
    obtain ⟨h1, h2⟩ := mem_enT.mp h
    rw [Int.sub_zero] at h2
    have h3 := (List.getElem?_eq_some_iff.mp h2).1
    refine ⟨by rw [spotOf, h2]; rfl, h1, by omega⟩
  have hlen : ∀ pre post, enT 0 sq.1 = pre ++ post → pre.length ≤ 6 := by
    intro pre post e
    have := enT_len sq.1 0
    rw [e, List.length_append] at this
    omega
  obtain ⟨ks, e, h1, h2, h3⟩ := forC_pre (f := fun (p : Int × Int × Int) s => m_keys_seen_B1 sq pr p.1 p.2 s) (xs := enT 0 sq.1) (done := []) (I := fun pre s => Inc s ∧ (∀ k, k ∈ s ↔ (k ∈ pre.map fun p => p.1) ∧ Sees sq pr k) ∧ s.length ≤ pre.length) (by
    rintro pre ⟨i, x⟩ post epr s ⟨hs1, hs2, hs3⟩
    rw [List.nil_append] at epr
    obtain ⟨hx, hi⟩ := hspot i x (by rw [epr]; simp)
    obtain ⟨cs, ec, hc⟩ := from_ok hp hl x.1
    have hpl := hlen (pre ++ [(i, x)]) post (by rw [epr]; simp)
    rw [List.length_append] at hpl
    have hlt : ∀ k ∈ s, k < i := by
      intro k hk
      obtain ⟨p, hpp, rfl⟩ := List.mem_map.mp ((hs2 k).mp hk).1
      have := enT_inc sq.1 0
      rw [epr, List.pairwise_append] at this
      exact this.2.2 p hpp (i, x) (by simp)
    have hsee : x.2 ∈ cs ↔ Sees sq pr i := by
      rw [hc, Sees, hx]
    simp only [m_keys_seen_B1, bd_ok, ec, ct_ok]
    by_cases q : x.2 ∈ cs
    · have : memT x.2 cs = true := memT_iff.mpr q
      rw [this, if_pos rfl, app_ok (by simp; omega), ct_ok]
      refine ⟨_, rfl, ?_, ?_, by simp; omega⟩
      · rw [Inc, List.pairwise_append]
        refine ⟨hs1, by simp, ?_⟩
        intro a ha b hb
        rw [List.mem_singleton] at hb
        subst hb
        exact plt_int.mpr (hlt a ha)
      · intro k
        rw [List.mem_append, hs2, List.map_append, List.mem_append]
        simp only [List.map_cons, List.map_nil, List.mem_singleton]
        constructor
        · rintro (⟨a, b⟩ | rfl)
          · exact ⟨.inl a, b⟩
          · exact ⟨.inr rfl, hsee.mp q⟩
        · rintro ⟨a | rfl, b⟩
          · exact .inl ⟨a, b⟩
          · exact .inr rfl
    · have : memT x.2 cs = false := by rw [← Bool.not_eq_true, memT_iff]; exact q
      rw [this, if_neg (by decide)]
      refine ⟨_, rfl, hs1, ?_, by simp; omega⟩
      intro k
      rw [hs2, List.map_append, List.mem_append]
      simp only [List.map_cons, List.map_nil, List.mem_singleton]
      constructor
      · rintro ⟨a, b⟩; exact ⟨.inl a, b⟩
      · rintro ⟨a | rfl, b⟩
        · exact ⟨a, b⟩
        · exact absurd (hsee.mpr b) q) [] ⟨inc_nil, by simp, by simp⟩
  refine ⟨ks, ?_, h1, ?_⟩
  · simp only [m_keys_seen, ct_ok, m_keys_seen_L1, e, cbind_nx, run_rt]
  · intro k
    rw [h2, List.nil_append]
    refine and_congr_left fun _ => ?_
    rw [List.mem_map]
    constructor
    · rintro ⟨⟨i, x⟩, hm, rfl⟩
      exact (hspot i x hm).2
    · rintro ⟨a, b⟩
      have : k.toNat < sq.1.length := by omega
      refine ⟨(k, sq.1[k.toNat]), mem_enT.mpr ⟨a, ?_⟩, rfl⟩
      rw [Int.sub_zero, List.getElem?_eq_getElem this]
end
open Classical in
noncomputable def seenF (sq : Sq) (pr : List Int) : List Int := (irg 0 sq.1.length).filter fun k => decide (Sees sq pr k)
open Classical in
theorem mem_seenF {sq : Sq} {pr : List Int} {k : Int} : k ∈ seenF sq pr ↔ (0 ≤ k ∧ k < sq.1.length) ∧ Sees sq pr k := by
  rw [seenF, List.mem_filter, mem_irg, decide_eq_true_eq]
theorem vk_seen (sq : Sq) (pr : List Int) : Vk sq.1.length (seenF sq pr) := vk_filter _ _
theorem keys_seen_ok {sq : Sq} {pr : List Int} (hn : sq.1.length ≤ 6) (hp : Vk sq.1.length pr) : m_keys_seen sq pr = .ok (seenF sq pr) := by
  have hl := vk_len hp
  obtain ⟨ks, e, h1, h2⟩ := seen_ex hp.1 (by omega) hn
  rw [e, inc_ext h1 (vk_seen sq pr).2 fun k => by rw [h2, mem_seenF]]
theorem m_seen_ok {sq : Sq} {pr : List Int} (h : Vs sq) (hp : Vk sq.1.length pr) : m_seen sq pr = .ok (seenF sq pr) := by
  simp only [m_seen, bd_ok, needSq_ok h, needKs_ok hp, ct_ok, keys_seen_ok h.six hp, run_rt]
noncomputable def falseF (sq : Sq) (pr : List Int) : List Int := (seenF sq pr).filter fun k => !memT k pr
theorem m_false_ok {sq : Sq} {pr : List Int} (h : Vs sq) (hp : Vk sq.1.length pr) : m_false_keys sq pr = .ok (falseF sq pr) := by
  simp only [m_false_keys, bd_ok, needSq_ok h, needKs_ok hp, ct_ok, keys_seen_ok h.six hp, run_rt]
  rfl
theorem m_true_ok {sq : Sq} {pr : List Int} (h : Vs sq) (hp : Vk sq.1.length pr) : m_is_true sq pr = .ok (decide (seenF sq pr = pr)) := by
  simp only [m_is_true, bd_ok, needSq_ok h, needKs_ok hp, ct_ok, keys_seen_ok h.six hp, run_rt]
theorem mem_falseF {sq : Sq} {pr : List Int} {k : Int} : k ∈ falseF sq pr ↔ k ∈ seenF sq pr ∧ k ∉ pr := by
  simp only [falseF, List.mem_filter, Bool.not_eq_true', ← Bool.not_eq_true, memT_iff]
end Wq.P

end
section
set_option Elab.async false
set_option linter.all false
set_option autoImplicit false
set_option maxRecDepth 100000
/-! Laws of what is seen. -/
namespace Wq.P
open PySem Wq
variable {sq sq' : Sq} {pr pr' : List Int}
theorem Rr.trans {a b c : Int} (h : Rr sq pr a b) (h2 : Rr sq pr b c) : Rr sq pr a c := by
  induction h2 with
  | base => exact h
  | step _ h2 h3 h4 h5 ih => exact .step ih h2 h3 h4 h5
theorem Rr.mono (hs : ∀ k ∈ pr, k ∈ pr') {a b : Int} (h : Rr sq pr a b) : Rr sq pr' a b := by
  induction h with
  | base => exact .base
  | step _ h2 h3 h4 h5 ih => exact .step ih (hs _ h2) (hs _ h3) h4 h5
theorem Rc.mono (hs : ∀ k ∈ pr, k ∈ pr') {a c : Int} (h : Rc sq pr a c) : Rc sq pr' a c := by
  obtain ⟨k, h1, h2, h3⟩ := h
  exact ⟨k, hs k h1, h2.mono hs, h3⟩
theorem spot_dio (sq : Sq) (ds : List Int) (k : Int) : spotOf (sq.1, ds) k = spotOf sq k := rfl
theorem Rr.dio {ds ds' : List Int} {sp : List (Int × Int)} (hs : ∀ k ∈ ds', k ∈ ds) {a b : Int} (h : Rr (sp, ds) pr a b) : Rr (sp, ds') pr a b := by
  induction h with
  | base => exact .base
  | step _ h2 h3 h4 h5 ih => exact .step (sq := (sp, ds')) ih h2 h3 h4 (fun q => h5 (hs _ q))
theorem Sees.mono (hs : ∀ k ∈ pr, k ∈ pr') {k : Int} (h : Sees sq pr k) : Sees sq pr' k := Rc.mono hs h
theorem Sees.dio {ds ds' : List Int} {sp : List (Int × Int)} (hs : ∀ k ∈ ds', k ∈ ds) {k : Int} (h : Sees (sp, ds) pr k) : Sees (sp, ds') pr k := by
  obtain ⟨k, h1, h2, h3⟩ := h
  exact ⟨k, h1, h2.dio hs, h3⟩
theorem sees_pressed {k : Int} (h : k ∈ pr) : Sees sq pr k := ⟨k, h, .base, rfl⟩
theorem spot_inj (hn : sq.1.Nodup) {k l : Int} (hk : 0 ≤ k ∧ k < sq.1.length) (hl : 0 ≤ l ∧ l < sq.1.length) (h : spotOf sq k = spotOf sq l) : k = l := by
  have h1 : k.toNat < sq.1.length := by omega
  have h2 : l.toNat < sq.1.length := by omega
  simp only [spotOf, List.getElem?_eq_getElem h1, List.getElem?_eq_getElem h2, Option.getD_some] at h
  have : k.toNat = l.toNat := by
    have h3 : sq.1[k.toNat]? = sq.1[l.toNat]? := by rw [List.getElem?_eq_getElem h1, List.getElem?_eq_getElem h2, h]
    exact (List.getElem?_inj h1 hn).mp h3
  omega
theorem mem_spots {k : Int} (hk : 0 ≤ k ∧ k < sq.1.length) : spotOf sq k ∈ sq.1 := by
  have h1 : k.toNat < sq.1.length := by omega
  simp only [spotOf, List.getElem?_eq_getElem h1, Option.getD_some]
  exact List.getElem_mem h1
theorem spot_of_mem {p : Int × Int} (h : p ∈ sq.1) : ∃ k, (0 ≤ k ∧ k < sq.1.length) ∧ spotOf sq k = p := by
  obtain ⟨i, h1, h2⟩ := List.mem_iff_getElem.mp h
  refine ⟨(i : Nat), by omega, ?_⟩
  have : ((i : Int)).toNat = i := by omega
  simp only [spotOf, this, List.getElem?_eq_getElem h1, Option.getD_some, h2]
/-- with a diode at each pressed key no row leads on -/
theorem Rr.all_dio (hd : ∀ k ∈ pr, k ∈ sq.2) {a b : Int} (h : Rr sq pr a b) : a = b := by
  cases h with
  | base => rfl
  | step _ _ h3 _ h5 => exact absurd (hd _ h3) h5
theorem sees_all_dio (hn : sq.1.Nodup) (hp : ∀ k ∈ pr, 0 ≤ k ∧ k < sq.1.length) (hd : ∀ k ∈ pr, k ∈ sq.2) {k : Int} (hk : 0 ≤ k ∧ k < sq.1.length) (h : Sees sq pr k) : k ∈ pr := by
  obtain ⟨l, h1, h2, h3⟩ := h
  have e := h2.all_dio hd
  have : l = k := spot_inj hn (hp l h1) hk (Prod.ext e.symm h3)
  exact this ▸ h1
/-! ### ways by keys -/
def St (sq : Sq) (pr : List Int) (a b : Int) : Prop := b ∈ pr ∧ ∃ x ∈ pr, x ∉ sq.2 ∧ (spotOf sq x).2 = (spotOf sq a).2 ∧ (spotOf sq b).1 = (spotOf sq x).1
inductive Pa (S : Int → Int → Prop) (a : Int) : Int → Prop
  | refl : Pa S a a
  | tail {b c : Int} : Pa S a b → S b c → Pa S a c
theorem Pa.head {S : Int → Int → Prop} {a b c : Int} (h : S a b) (h2 : Pa S b c) : Pa S a c := by
  induction h2 with
  | refl => exact .tail .refl h
  | tail _ h2 ih => exact .tail ih h2
theorem Pa.symm {S S' : Int → Int → Prop} {a b : Int} (hs : ∀ x y, S x y → S' y x) (h : Pa S a b) : Pa S' b a := by
  induction h with
  | refl => exact .refl
  | tail _ h2 ih => exact .head (hs _ _ h2) ih
theorem sees_iff {k : Int} : Sees sq pr k ↔ ∃ a b, a ∈ pr ∧ b ∈ pr ∧ (spotOf sq a).1 = (spotOf sq k).1 ∧ Pa (fun x y => x ∈ pr ∧ St sq pr x y) a b ∧ (spotOf sq b).2 = (spotOf sq k).2 := by
  constructor
  · rintro ⟨b, hb, hr, hc⟩
    have key : ∀ r, Rr sq pr (spotOf sq k).1 r → ∀ b ∈ pr, (spotOf sq b).1 = r → ∃ a ∈ pr, (spotOf sq a).1 = (spotOf sq k).1 ∧ Pa (fun x y => x ∈ pr ∧ St sq pr x y) a b := by
      intro r hr
      induction hr with
      | base => exact fun b hb e => ⟨b, hb, e, .refl⟩
      | @step x x' h1 h2 h3 h4 h5 ih =>
        intro b hb e
        obtain ⟨a, ha, e1, p⟩ := ih x h2 rfl
        exact ⟨a, ha, e1, .tail p ⟨h2, hb, x', h3, h5, h4, e⟩⟩
    obtain ⟨a, ha, e, p⟩ := key _ hr b hb rfl
    exact ⟨a, b, ha, hb, e, p, hc⟩
  · rintro ⟨a, b, ha, hb, e, p, hc⟩
    refine ⟨b, hb, ?_, hc⟩
    have : ∀ c, Pa (fun x y => x ∈ pr ∧ St sq pr x y) a c → Rr sq pr (spotOf sq k).1 (spotOf sq c).1 := by
      intro c hp
      induction hp with
      | refl => rw [e]; exact .base
      | tail _ h2 ih =>
        obtain ⟨h3, h4, x, h5, h6, h7, h8⟩ := h2
        rw [h8]
        exact .step ih h3 h5 h7 h6
    exact this b p
/-- squares whose keys lie alike -/
theorem sees_alike {k : Int} (hd : ∀ x ∈ pr, x ∈ sq'.2 ↔ x ∈ sq.2) (V : Int → Prop) (hv : ∀ x ∈ pr, V x) (hk : V k) (hr : ∀ x y, V x → V y → ((spotOf sq' x).1 = (spotOf sq' y).1 ↔ (spotOf sq x).1 = (spotOf sq y).1)) (hc : ∀ x y, V x → V y → ((spotOf sq' x).2 = (spotOf sq' y).2 ↔ (spotOf sq x).2 = (spotOf sq y).2)) : Sees sq' pr k ↔ Sees sq pr k := by
  have st : ∀ x y, (x ∈ pr ∧ St sq' pr x y) ↔ (x ∈ pr ∧ St sq pr x y) := by
    intro x y
    refine and_congr_right fun hx => ?_
    unfold St
    refine and_congr_right fun hy => ?_
    constructor
    · rintro ⟨z, h1, h2, h3, h4⟩
      exact ⟨z, h1, fun q => h2 ((hd z h1).mpr q), (hc z x (hv z h1) (hv x hx)).mp h3, (hr y z (hv y hy) (hv z h1)).mp h4⟩
    · rintro ⟨z, h1, h2, h3, h4⟩
      exact ⟨z, h1, fun q => h2 ((hd z h1).mp q), (hc z x (hv z h1) (hv x hx)).mpr h3, (hr y z (hv y hy) (hv z h1)).mpr h4⟩
  have st2 : (fun x y => x ∈ pr ∧ St sq' pr x y) = fun x y => x ∈ pr ∧ St sq pr x y := by
    funext x y
    exact propext (st x y)
  rw [sees_iff, sees_iff, st2]
  constructor
  · rintro ⟨a, b, ha, hb, e, p, hcb⟩
    exact ⟨a, b, ha, hb, (hr a k (hv a ha) hk).mp e, p, (hc b k (hv b hb) hk).mp hcb⟩
  · rintro ⟨a, b, ha, hb, e, p, hcb⟩
    exact ⟨a, b, ha, hb, (hr a k (hv a ha) hk).mpr e, p, (hc b k (hv b hb) hk).mpr hcb⟩
/-- turned about -/
theorem sees_turn {k : Int} (hd : ∀ x ∈ pr, x ∈ sq'.2 ↔ x ∈ sq.2) (V : Int → Prop) (hv : ∀ x ∈ pr, V x) (hk : V k) (h : ∀ x, V x → spotOf sq' x = ((spotOf sq x).2, (spotOf sq x).1)) : Sees sq' pr k ↔ Sees sq pr k := by
  have one : ∀ {sq sq' : Sq} (hd : ∀ x ∈ pr, x ∈ sq'.2 ↔ x ∈ sq.2) (h : ∀ x, V x → spotOf sq' x = ((spotOf sq x).2, (spotOf sq x).1)), Sees sq' pr k → Sees sq pr k := by
    intro sq sq' hd h hs
    obtain ⟨a, b, ha, hb, e, p, hc⟩ := sees_iff.mp hs
    rw [h a (hv a ha), h k hk] at e
    rw [h b (hv b hb), h k hk] at hc
    refine sees_iff.mpr ⟨b, a, hb, ha, hc, ?_, e⟩
    refine p.symm ?_
    rintro x y ⟨hx, hy, z, h1, h2, h3, h4⟩
    rw [h z (hv z h1), h x (hv x hx)] at h3
    rw [h y (hv y hy), h z (hv z h1)] at h4
    exact ⟨hy, hx, z, h1, fun q => h2 ((hd z h1).mpr q), h4.symm, h3.symm⟩
  exact ⟨one hd h, one (fun x hx => (hd x hx).symm) fun x hx => by rw [h x hx]⟩
theorem spot_map {f : Int × Int → Int × Int} {sp : List (Int × Int)} {d : List Int} {ds : List Int} {k : Int} (hk : 0 ≤ k ∧ k < sp.length) : spotOf (sp.map f, ds) k = f (spotOf (sp, d) k) := by
  have h1 : k.toNat < sp.length := by omega
  simp [spotOf, List.getElem?_map, List.getElem?_eq_getElem h1]
theorem seen_turn (hp : Vk sq.1.length pr) : seenF (turnF sq) pr = seenF sq pr := by
  have hl : (turnF sq).1.length = sq.1.length := by simp [turnF]
  refine inc_ext (vk_seen _ _).2 (vk_seen _ _).2 fun k => ?_
  rw [mem_seenF, mem_seenF, hl]
  refine and_congr_right fun hk => ?_
  exact sees_turn (fun x _ => Iff.rfl) (fun x => 0 ≤ x ∧ x < sq.1.length) hp.1 hk fun x hx => spot_map (f := fun p => (p.2, p.1)) hx
theorem spot_tight {k : Int} (hk : 0 ≤ k ∧ k < sq.1.length) : spotOf (tightF sq) k = (ixOf (rowsF sq) (spotOf sq k).1, ixOf (colsF sq) (spotOf sq k).2) := spot_map (f := fun p => (ixOf (rowsF sq) p.1, ixOf (colsF sq) p.2)) hk
theorem tight_len (sq : Sq) : (tightF sq).1.length = sq.1.length := by simp [tightF]
theorem turn_len (sq : Sq) : (turnF sq).1.length = sq.1.length := by simp [turnF]
theorem seen_tight (hp : Vk sq.1.length pr) : seenF (tightF sq) pr = seenF sq pr := by
  refine inc_ext (vk_seen _ _).2 (vk_seen _ _).2 fun k => ?_
  rw [mem_seenF, mem_seenF, tight_len]
  refine and_congr_right fun hk => ?_
  refine sees_alike (fun x _ => Iff.rfl) (fun x => 0 ≤ x ∧ x < sq.1.length) hp.1 hk (fun x y hx hy => ?_) fun x y hx hy => ?_
  · rw [spot_tight hx, spot_tight hy]
    exact ⟨ix_inj (row_mem (mem_spots hx)) (row_mem (mem_spots hy)), fun e => by simp only [e]⟩
  · rw [spot_tight hx, spot_tight hy]
    exact ⟨ix_inj (col_mem (mem_spots hx)) (col_mem (mem_spots hy)), fun e => by simp only [e]⟩
/-! ### a false key, pressed too -/
theorem sees_more_dio {f : Int} (hd : f ∈ sq.2) (hf : Sees sq pr f) {k : Int} (hs : ∀ x ∈ pr', x = f ∨ x ∈ pr) (h : Sees sq pr' k) : Sees sq pr k := by
  obtain ⟨g, hg, hgr, hgc⟩ := hf
  have rows : ∀ {a b : Int}, Rr sq pr' a b → Rr sq pr a b := by
    intro a b hr
    induction hr with
    | base => exact .base
    | @step x x' _ h2 h3 h4 h5 ih =>
      have hx' : x' ∈ pr := by
        rcases hs x' h3 with e | e
        · subst e; exact absurd hd h5
        · exact e
      rcases hs x h2 with e | e
      · subst e
        exact .step (ih.trans hgr) hg hx' (h4.trans hgc.symm) h5
      · exact .step ih e hx' h4 h5
  obtain ⟨x, hx, hr, hc⟩ := h
  rcases hs x hx with e | e
  · subst e
    exact ⟨g, hg, (rows hr).trans hgr, hgc.trans hc⟩
  · exact ⟨x, e, rows hr, hc⟩
/-! ### without diodes -/
theorem Rr.symm (hd : ∀ x ∈ pr, x ∉ sq.2) {a b : Int} (h : Rr sq pr a b) : Rr sq pr b a := by
  induction h with
  | base => exact .base
  | @step x x' h1 h2 h3 h4 h5 ih => exact Rr.trans (.step .base h3 h2 h4.symm (hd x h2)) ih
theorem sees_twice (hd : ∀ x, x ∉ sq.2) (hs : ∀ x ∈ pr', Sees sq pr x) {k : Int} (h : Sees sq pr' k) : Sees sq pr k := by
  have rows : ∀ {a b : Int}, Rr sq pr' a b → Rr sq pr a b := by
    intro a b hr
    induction hr with
    | base => exact .base
    | @step x x' _ h2 h3 h4 h5 ih =>
      obtain ⟨g, g1, g2, g3⟩ := hs x h2
      obtain ⟨g', g1', g2', g3'⟩ := hs x' h3
      have r1 := ih.trans g2
      have r2 : Rr sq pr a (spotOf sq g').1 := .step r1 g1 g1' (by rw [g3, g3', h4]) (hd g')
      exact r2.trans (g2'.symm fun x _ => hd x)
  obtain ⟨x, hx, hr, hc⟩ := h
  obtain ⟨g, g1, g2, g3⟩ := hs x hx
  exact ⟨g, g1, (rows hr).trans g2, g3.trans hc⟩
/-! ### alone -/
theorem sees_alone {k : Int} (ha : ∀ x ∈ pr, (spotOf sq x).1 = (spotOf sq k).1 → x = k) (h : Sees sq pr k) : k ∈ pr := by
  obtain ⟨a, b, ha', _, e, _, _⟩ := sees_iff.mp h
  exact ha a ha' e ▸ ha'
theorem seen_nil : seenF sq [] = [] := by
  refine inc_ext (vk_seen _ _).2 inc_nil fun k => ?_
  rw [mem_seenF]
  constructor
  · rintro ⟨_, k', h, _⟩; cases h
  · intro h; cases h
theorem seen_all : seenF sq (irg 0 sq.1.length) = irg 0 sq.1.length := by
  refine inc_ext (vk_seen _ _).2 (inc_irg _ _) fun k => ?_
  rw [mem_seenF, mem_irg]
  exact ⟨fun h => h.1, fun h => ⟨h, sees_pressed (mem_irg.mpr h)⟩⟩
theorem pressed_seen (hp : Vk sq.1.length pr) {k : Int} (h : k ∈ pr) : k ∈ seenF sq pr := mem_seenF.mpr ⟨hp.1 k h, sees_pressed h⟩
theorem seen_mono (hs : ∀ k ∈ pr, k ∈ pr') {k : Int} (h : k ∈ seenF sq pr) : k ∈ seenF sq pr' := by
  rw [mem_seenF] at *
  exact ⟨h.1, h.2.mono hs⟩
theorem seen_dio {ds ds' : List Int} {sp : List (Int × Int)} (hs : ∀ k ∈ ds', k ∈ ds) {k : Int} (h : k ∈ seenF (sp, ds) pr) : k ∈ seenF (sp, ds') pr := by
  rw [mem_seenF] at *
  exact ⟨h.1, h.2.dio hs⟩
/-- the pressed ones with the false ones, in order -/
theorem srt_false (hp : Vk sq.1.length pr) : srtT (pr ++ falseF sq pr) = seenF sq pr := by
  refine srt_of ?_ (vk_seen _ _).2 fun k => ?_
  · rw [List.nodup_append]
    refine ⟨inc_nodup hp.2, List.Nodup.sublist List.filter_sublist (inc_nodup (vk_seen sq pr).2), ?_⟩
    intro a ha b hb e
    subst e
    exact (mem_falseF.mp hb).2 ha
  · rw [List.mem_append, mem_falseF]
    constructor
    · rintro (h | h)
      · exact pressed_seen hp h
      · exact h.1
    · intro h
      by_cases q : k ∈ pr
      · exact .inl q
      · exact .inr ⟨h, q⟩
theorem vk_sset {n : Int} {l : List Int} (h : ∀ k ∈ l, 0 ≤ k ∧ k < n) : Vk n (sset l) := ⟨fun k hk => h k (mem_sset.mp hk), inc_sset l⟩
theorem false_len (hn : sq.1.length ≤ 6) : (falseF sq pr).length ≤ 6 := by
  have h1 := vk_len (vk_seen sq pr)
  have h2 := List.length_filter_le (fun k => !memT k pr) (seenF sq pr)
  rw [falseF]
  omega
theorem flt_nil {α : Type} {p : α → Bool} {l : List α} (h : ∀ x ∈ l, p x = false) : l.filter p = [] := by
  rw [List.filter_eq_nil_iff]
  intro x hx
  rw [h x hx]
  decide
theorem not_mem {α : Type} [DecidableEq α] {x : α} {l : List α} (h : x ∈ l) : (!memT x l) = false := by rw [memT_iff.mpr h]; rfl
end Wq.P

end
section
set_option Elab.async false
set_option linter.all false
set_option autoImplicit false
set_option maxRecDepth 100000
/-! All sets. -/
namespace Wq.P
open PySem Wq
theorem irg_succ {n : Int} (h : 0 ≤ n) : irg 0 (n + 1) = irg 0 n ++ [n] := by
  refine inc_ext (inc_irg _ _) ?_ fun x => ?_
  · rw [Inc, List.pairwise_append]
    refine ⟨inc_irg _ _, by simp, ?_⟩
    intro a ha b hb
    rw [List.mem_singleton] at hb
    subst hb
    exact plt_int.mpr (mem_irg.mp ha).2
  · rw [List.mem_append, mem_irg, mem_irg, List.mem_singleton]
    omega
theorem irg_split {n k : Int} {pre post : List Int} (h : irg 0 n = pre ++ k :: post) : k = pre.length ∧ k < n := by
  have hm : k ∈ irg 0 n := by rw [h]; simp
  refine ⟨?_, (mem_irg.mp hm).2⟩
  have h1 : (irg 0 n)[pre.length]? = some k := by rw [h]; simp
  have h2 := (List.getElem?_eq_some_iff.mp h1).1
  rw [irg_len] at h2
  rw [irg, List.getElem?_map, List.getElem?_range h2] at h1
  simp only [Option.map_some, Option.some.injEq] at h1
  omega
theorem vk_snoc {n : Int} {x : List Int} (h0 : 0 ≤ n) : Vk (n + 1) x ↔ Vk n x ∨ ∃ y, Vk n y ∧ x = y ++ [n] := by
  constructor
  · rintro ⟨h1, h2⟩
    by_cases q : n ∈ x
    · right
      obtain ⟨y, z, rfl⟩ := List.append_of_mem q
      rw [Inc, List.pairwise_append] at h2
      obtain ⟨h3, h4, h5⟩ := h2
      have hz : z = [] := by
        cases z with
        | nil => rfl
        | cons a z =>
          have := plt_int.mp ((List.pairwise_cons.mp h4).1 a (by simp))
          have := (h1 a (by simp)).2
          omega
      subst hz
      refine ⟨y, ⟨fun k hk => ⟨(h1 k (by simp [hk])).1, ?_⟩, h3⟩, rfl⟩
      exact plt_int.mp (h5 k hk n (by simp))
    · left
      refine ⟨fun k hk => ?_, h2⟩
      have := h1 k hk
      have : k ≠ n := fun e => q (e ▸ hk)
      omega
  · rintro (h | ⟨y, hy, rfl⟩)
    · exact ⟨fun k hk => by have := h.1 k hk; omega, h.2⟩
    · refine ⟨fun k hk => ?_, ?_⟩
      · rcases List.mem_append.mp hk with hk | hk
        · have := hy.1 k hk; omega
        · rw [List.mem_singleton] at hk; omega
      · rw [Inc, List.pairwise_append]
        refine ⟨hy.2, by simp, ?_⟩
        intro a ha b hb
        rw [List.mem_singleton] at hb
        subst hb
        exact plt_int.mpr (hy.1 a ha).2
theorem vk_zero {x : List Int} : Vk 0 x ↔ x = [] := by
  constructor
  · intro h
    cases x with
    | nil => rfl
    | cons a x => have := h.1 a (by simp); omega
  · rintro rfl; exact vk_nil 0
theorem sets_L1_ok {n : Int} (h0 : 0 ≤ n) (h6 : n ≤ 6) : ∃ L, m__law_sets_L1 n [[]] = .nx L ∧ L.Nodup ∧ ∀ x, x ∈ L ↔ Vk n x := by
  obtain ⟨L, e, h1, h2, h3⟩ := forC_pre (f := m__law_sets_B1 n) (xs := irg 0 n) (done := []) (I := fun pre s => s.Nodup ∧ (∀ x, x ∈ s ↔ Vk pre.length x) ∧ s.length = 2 ^ pre.length) (by
    intro pre key post epr s ⟨hs1, hs2, hs3⟩
    rw [List.nil_append] at epr
    obtain ⟨hk, hlt⟩ := irg_split epr
    have hp : pre.length ≤ 6 := by omega
    have hlen : s.length ≤ 64 := by
      rw [hs3]
      exact Nat.le_trans (Nat.pow_le_pow_right (show 0 < 2 by decide) hp) (by decide)
    have e1 : lcR (fun (one : List Int) => (R.mp (catR one [key]) some)) s = .ok (s.map fun one => one ++ [key]) := by
      refine lcR_one fun one ho => ?_
      have := vk_len ((hs2 one).mp ho)
      rw [cat_ok (by simp; omega)]
      rfl
    have e2 : catR s (s.map fun one => one ++ [key]) = .ok (s ++ s.map fun one => one ++ [key]) := cat_ok (by simp; omega)
    have hnk : ∀ x ∈ s, key ∉ x := fun x hx hkx => by
      have := (((hs2 x).mp hx).1 key hkx).2
      omega
    simp only [m__law_sets_B1, bd_ok, if_true, e1, e2, ct_ok]
    refine ⟨_, rfl, ?_, ?_, ?_⟩
    · rw [List.nodup_append]
      refine ⟨hs1, nodup_map_on (fun a _ b _ e => by simpa using e) hs1, ?_⟩
      intro a ha b hb e
      subst e
      obtain ⟨y, hy, rfl⟩ := List.mem_map.mp hb
      exact hnk _ ha (by simp)
    · intro x
      rw [List.length_append, List.length_singleton, List.mem_append, List.mem_map]
      have := vk_snoc (n := (pre.length : Int)) (x := x) (by omega)
      rw [show ((pre.length + 1 : Nat) : Int) = (pre.length : Int) + 1 by omega, this, hs2]
      refine or_congr Iff.rfl ?_
      constructor
      · rintro ⟨y, hy, rfl⟩; exact ⟨y, (hs2 y).mp hy, by rw [hk]⟩
      · rintro ⟨y, hy, rfl⟩; exact ⟨y, (hs2 y).mpr hy, by rw [hk]⟩
    · rw [List.length_append, List.length_map, List.length_append, List.length_singleton, hs3, Nat.pow_succ]
      omega) [[]] ⟨by simp, fun x => by simp [vk_zero], by simp⟩
  rw [List.nil_append] at h2
  have hl : ((irg 0 n).length : Int) = n := by rw [irg_len]; omega
  refine ⟨L, ?_, h1, fun x => by rw [h2, hl]⟩
  simp only [m__law_sets_L1, bd_ok, rng_ok (show n ≤ 1000 by omega) (by omega), ct_ok, e]
theorem law_sets_ok {n : Int} (h0 : 0 ≤ n) (h6 : n ≤ 6) : ∃ L, m__law_sets n = .ok L ∧ Inc L ∧ ∀ x, x ∈ L ↔ Vk n x := by
  obtain ⟨L, e, h1, h2⟩ := sets_L1_ok h0 h6
  exact ⟨srtT L, by simp only [m__law_sets, ct_ok, e, cbind_nx, run_rt], inc_srtT h1, fun x => by rw [mem_srtT, h2]⟩
section
variable {sq : Sq} {one : List Int}
theorem vk_more {n f : Int} (hk : Vk n one) (hf : 0 ≤ f ∧ f < n) (hn : f ∉ one) : Vk n (srtT (one ++ [f])) := by
  refine ⟨fun k h => ?_, inc_srtT ?_⟩
  · rcases List.mem_append.mp (mem_srtT.mp h) with h | h
    · exact hk.1 k h
    · rw [List.mem_singleton] at h; subst h; exact hf
  · rw [List.nodup_append]
    refine ⟨inc_nodup hk.2, by simp, ?_⟩
    intro a ha b hb e
    rw [List.mem_singleton] at hb
    subst hb; subst e
    exact hn ha
theorem seen_false_dio {f : Int} (hf : f ∈ falseF sq one) (hd : f ∈ sq.2) : seenF sq (srtT (one ++ [f])) = seenF sq one := by
  have hfs := mem_seenF.mp (mem_falseF.mp hf).1
  refine inc_ext (vk_seen _ _).2 (vk_seen _ _).2 fun k => ?_
  constructor
  · intro h
    rw [mem_seenF] at *
    refine ⟨h.1, sees_more_dio hd hfs.2 (fun x hx => ?_) h.2⟩
    rcases List.mem_append.mp (mem_srtT.mp hx) with h | h
    · exact .inr h
    · rw [List.mem_singleton] at h; exact .inl h
  · exact seen_mono fun x hx => mem_srtT.mpr (by simp [hx])
theorem seen_twice (hk : Vk sq.1.length one) (hd : ∀ x, x ∉ sq.2) : seenF sq (seenF sq one) = seenF sq one := by
  refine inc_ext (vk_seen _ _).2 (vk_seen _ _).2 fun k => ?_
  constructor
  · intro h
    rw [mem_seenF] at *
    exact ⟨h.1, sees_twice hd (fun x hx => (mem_seenF.mp hx).2) h.2⟩
  · exact seen_mono fun x hx => pressed_seen hk hx
end
end Wq.P

end
section
set_option Elab.async false
set_option linter.all false
set_option autoImplicit false
set_option maxRecDepth 100000
set_option maxHeartbeats 0
namespace Wq.P
open PySem Wq
variable {c : Cv}
def x__law_seen_I1 : MS := .ifs (.and (.cons (.cmp .isin (.var 9) (.peek 6)) (.cons (.cmp .notin (.var 10) (.peek 6)) .nil))) (.cons (.app 6 (.var 10)) .nil) .nil
def x__law_seen_B3 : MSs := (.cons (.asg (.nm 9) (.tup (.cons (.str "row") (.cons (.idx (.idx (.var 2) (.var 8)) (.int 0)) .nil)))) (.cons (.asg (.nm 10) (.tup (.cons (.str "column") (.cons (.idx (.idx (.var 2) (.var 8)) (.int 1)) .nil)))) (.cons x__law_seen_I1 (.cons (.ifs (.and (.cons (.cmp .isin (.var 10) (.peek 6)) (.cons (.cmp .notin (.var 9) (.peek 6)) (.cons (.cmp .notin (.var 8) (.var 3)) .nil)))) (.cons (.app 6 (.var 9)) .nil) .nil) (.cons (.fgt [8, 9, 10]) .nil)))))
def x__law_seen_L3 : MS := .for_ (.nm 8) (.seq (.var 1)) x__law_seen_B3
def x__law_seen_B2 : MSs := (.cons x__law_seen_L3 (.cons (.fgt [7, 8, 9, 10]) .nil))
def x__law_seen_L2 : MS := .for_ (.nm 7) (.rng (.bin .mul (.int 2) (.bi .len (.cons (.var 2) .nil)))) x__law_seen_B2
def x__law_seen_B1 : MSs := (.cons (.asgL 6 (.cons (.tup (.cons (.str "row") (.cons (.idx (.idx (.var 2) (.var 5)) (.int 0)) .nil))) .nil)) (.cons x__law_seen_L2 (.cons (.asg (.nm 4) (.bin .add (.var 4) (.bin .mul (.lst (.cons (.var 5) .nil)) (.bi .int (.cons (.cmp .isin (.tup (.cons (.str "column") (.cons (.idx (.idx (.var 2) (.var 5)) (.int 1)) .nil))) (.peek 6)) .nil))))) (.cons (.fgt [5, 6, 7, 8, 9, 10]) .nil))))
def x__law_seen_L1 : MS := .for_ (.nm 5) (.rng (.bi .len (.cons (.var 2) .nil))) x__law_seen_B1
def f__law_seen : Fd := ⟨2, ["square", "pressed", "spots", "diodes", "found", "key", "here", "turn", "one", "row", "column"], (.cons (.asg (.tp [2, 3]) (.var 0)) (.cons (.asg (.nm 4) (.lst .nil)) (.cons x__law_seen_L1 (.cons (.ret (.var 4)) .nil))))⟩
def m__law_seen_I1 (row : (Bool × Int)) (column : (Bool × Int)) (s : (List (Bool × Int))) : Ct (List (Bool × Int)) (List Int) := (R.ct ((R.ok ((memT row s) && (!memT column s))) : R Bool) fun b => if b then (R.ct ((R.ok column) : R (Bool × Int)) fun y21 => (R.ct (appR s [y21]) fun here_20 => (Ct.nx here_20))) else (Ct.nx s))
theorem W__law_seen_I1   (row : (Bool × Int)) (column : (Bool × Int)) (z0 : Sl) (z1 : Sl) (z2 : Sl) (z3 : Sl) (z4 : Sl) (z5 : Sl) (z7 : Sl) (z8 : Sl) (s : (List (Bool × Int))) : Lx (exS c x__law_seen_I1 [z0, z1, z2, z3, z4, z5, .own (List.map (eP eW eI) s), z7, z8, .val ((eP eW eI) row), .val ((eP eW eI) column)]).x ((m__law_seen_I1 row column s).fx (fun s => [z0, z1, z2, z3, z4, z5, .own (List.map (eP eW eI) s), z7, z8, .val ((eP eW eI) row), .val ((eP eW eI) column)]) (eL eI)) := by
  unfold m__law_seen_I1
  refine s_if (r := (R.ok ((memT row s) && (!memT column s)))) ?_ ?_ ?_
  · exact (t_and (ra := (R.ok ((memT row s) && (!memT column s)))) (and_P (x := (memT row s)) (y := (!memT column s)) (t_cmp (o_inL (eP eW eI) (by decide)) (ra := (R.ok row)) (rb := (R.ok s))  (t_var (x := row) (g := (eP eW eI)) (by rfl)) (t_peek (xs := s) (g := (eP eW eI)) (by rfl))) (and_one (ra := (R.ok (!memT column s))) (t_cmp (o_niL (eP eW eI) (by decide)) (ra := (R.ok column)) (rb := (R.ok s))  (t_var (x := column) (g := (eP eW eI)) (by rfl)) (t_peek (xs := s) (g := (eP eW eI)) (by rfl))))))
  ·
    refine k_app (r := (R.ok column)) (g := (eP eW eI)) (xs := s) rfl ?_ fun here_20 => ?_
    · exact (t_var (x := column) (g := (eP eW eI)) (by rfl))
    exact k_end rfl
  ·
    exact k_end rfl
def m__law_seen_B3 (pressed : (List Int)) (spots : (List (Int × Int))) (diodes : (List Int)) (one : Int) (s : (List (Bool × Int))) : Ct (List (Bool × Int)) (List Int) := (R.ct ((R.bd (R.ok true) fun x13 => (R.bd (R.bd (R.bd (R.ok spots) fun x10 => (R.bd (R.ok one) fun x11 => (ixR x10 x11))) fun x12 => (R.ok (x12).1)) fun x14 => (R.ok (x13, x14)))) : R (Bool × Int)) fun row => (R.ct ((R.bd (R.ok false) fun x18 => (R.bd (R.bd (R.bd (R.ok spots) fun x15 => (R.bd (R.ok one) fun x16 => (ixR x15 x16))) fun x17 => (R.ok (x17).2)) fun x19 => (R.ok (x18, x19)))) : R (Bool × Int)) fun column => (Ct.bind (m__law_seen_I1 row column s) fun s22 => (R.ct ((R.ok ((memT column s22) && ((!memT row s22) && (!memT one diodes)))) : R Bool) fun b25 => if b25 then (R.ct ((R.ok row) : R (Bool × Int)) fun y24 => (R.ct (appR s22 [y24]) fun here_23 => (Ct.nx here_23))) else (Ct.nx s22)))))
def m__law_seen_L3 (pressed : (List Int)) (spots : (List (Int × Int))) (diodes : (List Int)) (s : (List (Bool × Int))) : Ct (List (Bool × Int)) (List Int) := (R.ct ((R.ok pressed) : R (List Int)) fun xs => forC (m__law_seen_B3 pressed spots diodes) xs s)
theorem W__law_seen_L3   (pressed : (List Int)) (spots : (List (Int × Int))) (diodes : (List Int)) (z0 : Sl) (z4 : Sl) (z5 : Sl) (z7 : Sl) (s : (List (Bool × Int))) : Lx (exS c x__law_seen_L3 [z0, .val ((eT eI) pressed), .val ((eT (eP eI eI)) spots), .val ((eT eI) diodes), z4, z5, .own (List.map (eP eW eI) s), z7, .emp, .emp, .emp]).x ((m__law_seen_L3 pressed spots diodes s).fx (fun s => [z0, .val ((eT eI) pressed), .val ((eT (eP eI eI)) spots), .val ((eT eI) diodes), z4, z5, .own (List.map (eP eW eI) s), z7, .emp, .emp, .emp]) (eL eI)) := by
  unfold m__law_seen_L3
  refine s_for (E := fun s => [z0, .val ((eT eI) pressed), .val ((eT (eP eI eI)) spots), .val ((eT eI) diodes), z4, z5, .own (List.map (eP eW eI) s), z7, .emp, .emp, .emp]) (s := s) (xr := (R.ok pressed)) (g := eI) (B := (m__law_seen_B3 pressed spots diodes)) ?_ ?_
  · exact (i_seqT (ra := (R.ok pressed)) (g := eI) (t_var (x := pressed) (g := (eT eI)) (by rfl)))
  intro one s
  show Lx (xK c x__law_seen_B3 .nx _) ((m__law_seen_B3 pressed spots diodes one s).fx _ _)
  unfold m__law_seen_B3
  refine k_asg (r := (R.bd (R.ok true) fun x13 => (R.bd (R.bd (R.bd (R.ok spots) fun x10 => (R.bd (R.ok one) fun x11 => (ixR x10 x11))) fun x12 => (R.ok (x12).1)) fun x14 => (R.ok (x13, x14))))) (g := (eP eW eI)) ?_ fun row => ?_
  · exact (t_tup2 (ra := (R.ok true)) (rb := (R.bd (R.bd (R.ok spots) fun x10 => (R.bd (R.ok one) fun x11 => (ixR x10 x11))) fun x12 => (R.ok (x12).1))) (g := eW) (h := eI) t_row (t_fst (ra := (R.bd (R.ok spots) fun x10 => (R.bd (R.ok one) fun x11 => (ixR x10 x11)))) (g := eI) (h := eI) (t_idx (o_ixT (eP eI eI)) (ra := (R.ok spots)) (rb := (R.ok one))  (t_var (x := spots) (g := (eT (eP eI eI))) (by rfl)) (t_var (x := one) (g := eI) (by rfl)))))
  refine k_asg (r := (R.bd (R.ok false) fun x18 => (R.bd (R.bd (R.bd (R.ok spots) fun x15 => (R.bd (R.ok one) fun x16 => (ixR x15 x16))) fun x17 => (R.ok (x17).2)) fun x19 => (R.ok (x18, x19))))) (g := (eP eW eI)) ?_ fun column => ?_
  · exact (t_tup2 (ra := (R.ok false)) (rb := (R.bd (R.bd (R.ok spots) fun x15 => (R.bd (R.ok one) fun x16 => (ixR x15 x16))) fun x17 => (R.ok (x17).2))) (g := eW) (h := eI) t_col (t_snd (ra := (R.bd (R.ok spots) fun x15 => (R.bd (R.ok one) fun x16 => (ixR x15 x16)))) (g := eI) (h := eI) (t_idx (o_ixT (eP eI eI)) (ra := (R.ok spots)) (rb := (R.ok one))  (t_var (x := spots) (g := (eT (eP eI eI))) (by rfl)) (t_var (x := one) (g := eI) (by rfl)))))
  refine k_stm (P := (m__law_seen_I1 row column s)) (W__law_seen_I1   row column _ _ _ _ _ _ _ _ s) fun s22 => ?_
  refine k_if (r := (R.ok ((memT column s22) && ((!memT row s22) && (!memT one diodes))))) ?_ ?_ ?_
  · exact (t_and (ra := (R.ok ((memT column s22) && ((!memT row s22) && (!memT one diodes))))) (and_P (x := (memT column s22)) (y := ((!memT row s22) && (!memT one diodes))) (t_cmp (o_inL (eP eW eI) (by decide)) (ra := (R.ok column)) (rb := (R.ok s22))  (t_var (x := column) (g := (eP eW eI)) (by rfl)) (t_peek (xs := s22) (g := (eP eW eI)) (by rfl))) (and_P (x := (!memT row s22)) (y := (!memT one diodes)) (t_cmp (o_niL (eP eW eI) (by decide)) (ra := (R.ok row)) (rb := (R.ok s22))  (t_var (x := row) (g := (eP eW eI)) (by rfl)) (t_peek (xs := s22) (g := (eP eW eI)) (by rfl))) (and_one (ra := (R.ok (!memT one diodes))) (t_cmp (o_niT eI (by decide)) (ra := (R.ok one)) (rb := (R.ok diodes))  (t_var (x := one) (g := eI) (by rfl)) (t_var (x := diodes) (g := (eT eI)) (by rfl)))))))
  ·
    refine k_app (r := (R.ok row)) (g := (eP eW eI)) (xs := s22) rfl ?_ fun here_23 => ?_
    · exact (t_var (x := row) (g := (eP eW eI)) (by rfl))
    refine k_nil ?_
    refine k_fgt ?_
    exact k_end rfl
  ·
    refine k_nil ?_
    refine k_fgt ?_
    exact k_end rfl
def m__law_seen_B2 (pressed : (List Int)) (spots : (List (Int × Int))) (diodes : (List Int)) (turn : Int) (s : (List (Bool × Int))) : Ct (List (Bool × Int)) (List Int) := (Ct.bind (m__law_seen_L3 pressed spots diodes s) fun s26 => (Ct.nx s26))
def m__law_seen_L2 (pressed : (List Int)) (spots : (List (Int × Int))) (diodes : (List Int)) (s : (List (Bool × Int))) : Ct (List (Bool × Int)) (List Int) := (R.ct ((R.bd (R.ok (2 * ((spots).length : Int))) fun x9 => (rngR 0 x9)) : R (List Int)) fun xs => forC (m__law_seen_B2 pressed spots diodes) xs s)
theorem W__law_seen_L2   (pressed : (List Int)) (spots : (List (Int × Int))) (diodes : (List Int)) (z0 : Sl) (z4 : Sl) (z5 : Sl) (s : (List (Bool × Int))) : Lx (exS c x__law_seen_L2 [z0, .val ((eT eI) pressed), .val ((eT (eP eI eI)) spots), .val ((eT eI) diodes), z4, z5, .own (List.map (eP eW eI) s), .emp, .emp, .emp, .emp]).x ((m__law_seen_L2 pressed spots diodes s).fx (fun s => [z0, .val ((eT eI) pressed), .val ((eT (eP eI eI)) spots), .val ((eT eI) diodes), z4, z5, .own (List.map (eP eW eI) s), .emp, .emp, .emp, .emp]) (eL eI)) := by
  unfold m__law_seen_L2
  refine s_for (E := fun s => [z0, .val ((eT eI) pressed), .val ((eT (eP eI eI)) spots), .val ((eT eI) diodes), z4, z5, .own (List.map (eP eW eI) s), .emp, .emp, .emp, .emp]) (s := s) (xr := (R.bd (R.ok (2 * ((spots).length : Int))) fun x9 => (rngR 0 x9))) (g := eI) (B := (m__law_seen_B2 pressed spots diodes)) ?_ ?_
  · exact (i_rng (ra := (R.ok (2 * ((spots).length : Int))))  (t_mulL (rb := (R.ok ((spots).length : Int))) (n := 2) (by decide) (t_bi1 (o_lenT (eP eI eI)) (ra := (R.ok spots))  (t_var (x := spots) (g := (eT (eP eI eI))) (by rfl)))))
  intro turn s
  show Lx (xK c x__law_seen_B2 .nx _) ((m__law_seen_B2 pressed spots diodes turn s).fx _ _)
  unfold m__law_seen_B2
  refine k_stm (P := (m__law_seen_L3 pressed spots diodes s)) (W__law_seen_L3   pressed spots diodes _ _ _ _ s) fun s26 => ?_
  refine k_fgt ?_
  exact k_end rfl
def m__law_seen_B1 (pressed : (List Int)) (spots : (List (Int × Int))) (diodes : (List Int)) (key : Int) (s : (List Int)) : Ct (List Int) (List Int) := (R.ct ((R.bd (R.bd (R.ok true) fun x5 => (R.bd (R.bd (R.bd (R.ok spots) fun x2 => (R.bd (R.ok key) fun x3 => (ixR x2 x3))) fun x4 => (R.ok (x4).1)) fun x6 => (R.ok (x5, x6)))) fun x7 => (R.bd (R.ok ([] : List (Bool × Int))) fun x8 => (R.ok (x7 :: x8)))) : R (List (Bool × Int))) fun here => (Ct.bind (m__law_seen_L2 pressed spots diodes here) fun s27 => (R.ct ((R.bd (R.ok s) fun x42 => (R.bd (R.bd (R.ok key) fun x40 => (R.bd (R.bd (R.bd (R.ok false) fun x36 => (R.bd (R.bd (R.bd (R.ok spots) fun x33 => (R.bd (R.ok key) fun x34 => (ixR x33 x34))) fun x35 => (R.ok (x35).2)) fun x37 => (R.ok (x36, x37)))) fun x38 => (R.bd (R.ok s27) fun x39 => (R.ok (memT x38 x39)))) fun x41 => (R.ok (if x41 then [x40] else [])))) fun x43 => (catR x42 x43))) : R (List Int)) fun found => (Ct.nx found))))
def m__law_seen_L1 (pressed : (List Int)) (spots : (List (Int × Int))) (diodes : (List Int)) (s : (List Int)) : Ct (List Int) (List Int) := (R.ct ((R.bd (R.ok ((spots).length : Int)) fun x1 => (rngR 0 x1)) : R (List Int)) fun xs => forC (m__law_seen_B1 pressed spots diodes) xs s)
theorem W__law_seen_L1   (pressed : (List Int)) (spots : (List (Int × Int))) (diodes : (List Int)) (z0 : Sl) (s : (List Int)) : Lx (exS c x__law_seen_L1 [z0, .val ((eT eI) pressed), .val ((eT (eP eI eI)) spots), .val ((eT eI) diodes), .val ((eL eI) s), .emp, .emp, .emp, .emp, .emp, .emp]).x ((m__law_seen_L1 pressed spots diodes s).fx (fun s => [z0, .val ((eT eI) pressed), .val ((eT (eP eI eI)) spots), .val ((eT eI) diodes), .val ((eL eI) s), .emp, .emp, .emp, .emp, .emp, .emp]) (eL eI)) := by
  unfold m__law_seen_L1
  refine s_for (E := fun s => [z0, .val ((eT eI) pressed), .val ((eT (eP eI eI)) spots), .val ((eT eI) diodes), .val ((eL eI) s), .emp, .emp, .emp, .emp, .emp, .emp]) (s := s) (xr := (R.bd (R.ok ((spots).length : Int)) fun x1 => (rngR 0 x1))) (g := eI) (B := (m__law_seen_B1 pressed spots diodes)) ?_ ?_
  · exact (i_rng (ra := (R.ok ((spots).length : Int)))  (t_bi1 (o_lenT (eP eI eI)) (ra := (R.ok spots))  (t_var (x := spots) (g := (eT (eP eI eI))) (by rfl))))
  intro key s
  show Lx (xK c x__law_seen_B1 .nx _) ((m__law_seen_B1 pressed spots diodes key s).fx _ _)
  unfold m__law_seen_B1
  refine k_asgL (r := (R.bd (R.bd (R.ok true) fun x5 => (R.bd (R.bd (R.bd (R.ok spots) fun x2 => (R.bd (R.ok key) fun x3 => (ixR x2 x3))) fun x4 => (R.ok (x4).1)) fun x6 => (R.ok (x5, x6)))) fun x7 => (R.bd (R.ok ([] : List (Bool × Int))) fun x8 => (R.ok (x7 :: x8))))) (g := (eP eW eI)) ?_ fun here => ?_
  · exact (es_cons (ra := (R.bd (R.ok true) fun x5 => (R.bd (R.bd (R.bd (R.ok spots) fun x2 => (R.bd (R.ok key) fun x3 => (ixR x2 x3))) fun x4 => (R.ok (x4).1)) fun x6 => (R.ok (x5, x6))))) (rs := (R.ok ([] : List (Bool × Int)))) (g := (eP eW eI)) (t_tup2 (ra := (R.ok true)) (rb := (R.bd (R.bd (R.ok spots) fun x2 => (R.bd (R.ok key) fun x3 => (ixR x2 x3))) fun x4 => (R.ok (x4).1))) (g := eW) (h := eI) t_row (t_fst (ra := (R.bd (R.ok spots) fun x2 => (R.bd (R.ok key) fun x3 => (ixR x2 x3)))) (g := eI) (h := eI) (t_idx (o_ixT (eP eI eI)) (ra := (R.ok spots)) (rb := (R.ok key))  (t_var (x := spots) (g := (eT (eP eI eI))) (by rfl)) (t_var (x := key) (g := eI) (by rfl))))) (es_nil (g := (eP eW eI))))
  refine k_stm (P := (m__law_seen_L2 pressed spots diodes here)) (W__law_seen_L2   pressed spots diodes _ _ _ here) fun s27 => ?_
  refine k_asg (r := (R.bd (R.ok s) fun x42 => (R.bd (R.bd (R.ok key) fun x40 => (R.bd (R.bd (R.bd (R.ok false) fun x36 => (R.bd (R.bd (R.bd (R.ok spots) fun x33 => (R.bd (R.ok key) fun x34 => (ixR x33 x34))) fun x35 => (R.ok (x35).2)) fun x37 => (R.ok (x36, x37)))) fun x38 => (R.bd (R.ok s27) fun x39 => (R.ok (memT x38 x39)))) fun x41 => (R.ok (if x41 then [x40] else [])))) fun x43 => (catR x42 x43)))) (g := (eL eI)) ?_ fun found => ?_
  · exact (t_bin (o_catL eI) (ra := (R.ok s)) (rb := (R.bd (R.ok key) fun x40 => (R.bd (R.bd (R.bd (R.ok false) fun x36 => (R.bd (R.bd (R.bd (R.ok spots) fun x33 => (R.bd (R.ok key) fun x34 => (ixR x33 x34))) fun x35 => (R.ok (x35).2)) fun x37 => (R.ok (x36, x37)))) fun x38 => (R.bd (R.ok s27) fun x39 => (R.ok (memT x38 x39)))) fun x41 => (R.ok (if x41 then [x40] else [])))))  (t_var (x := s) (g := (eL eI)) (by rfl)) (t_rep1 (ra := (R.ok key)) (rb := (R.bd (R.bd (R.ok false) fun x36 => (R.bd (R.bd (R.bd (R.ok spots) fun x33 => (R.bd (R.ok key) fun x34 => (ixR x33 x34))) fun x35 => (R.ok (x35).2)) fun x37 => (R.ok (x36, x37)))) fun x38 => (R.bd (R.ok s27) fun x39 => (R.ok (memT x38 x39))))) (g := eI) (t_var (x := key) (g := eI) (by rfl)) (t_cmp (o_inL (eP eW eI) (by decide)) (ra := (R.bd (R.ok false) fun x36 => (R.bd (R.bd (R.bd (R.ok spots) fun x33 => (R.bd (R.ok key) fun x34 => (ixR x33 x34))) fun x35 => (R.ok (x35).2)) fun x37 => (R.ok (x36, x37))))) (rb := (R.ok s27))  (t_tup2 (ra := (R.ok false)) (rb := (R.bd (R.bd (R.ok spots) fun x33 => (R.bd (R.ok key) fun x34 => (ixR x33 x34))) fun x35 => (R.ok (x35).2))) (g := eW) (h := eI) t_col (t_snd (ra := (R.bd (R.ok spots) fun x33 => (R.bd (R.ok key) fun x34 => (ixR x33 x34)))) (g := eI) (h := eI) (t_idx (o_ixT (eP eI eI)) (ra := (R.ok spots)) (rb := (R.ok key))  (t_var (x := spots) (g := (eT (eP eI eI))) (by rfl)) (t_var (x := key) (g := eI) (by rfl))))) (t_peek (xs := s27) (g := (eP eW eI)) (by rfl)))))
  refine k_fgt ?_
  exact k_end rfl
def m__law_seen (square : ((List (Int × Int)) × (List Int))) (pressed : (List Int)) : R (List Int) := Ct.run (R.ct2 ((R.ok square) : R ((List (Int × Int)) × (List Int))) fun spots diodes => (R.ct ((R.ok ([] : List Int)) : R (List Int)) fun found => (Ct.bind (m__law_seen_L1 pressed spots diodes found) fun s44 => (R.ct ((R.ok s44) : R (List Int)) Ct.rt))))
def S__law_seen (c : Cv) : Prop := ∀ (square : ((List (Int × Int)) × (List Int))) (pressed : (List Int)), Lr (c.cal "_law_seen" [(eP (eT (eP eI eI)) (eT eI)) square, (eT eI) pressed]) ((m__law_seen square pressed).mp (eL eI))
theorem W__law_seen   (square : ((List (Int × Int)) × (List Int))) (pressed : (List Int)) : Lr (endR (exSs c f__law_seen.body (startE f__law_seen.N.length [(eP (eT (eP eI eI)) (eT eI)) square, (eT eI) pressed]))) ((m__law_seen square pressed).mp (eL eI)) := by
  unfold m__law_seen
  refine f_end ?_
  show Lx (xK c f__law_seen.body .nx [.val ((eP (eT (eP eI eI)) (eT eI)) square), .val ((eT eI) pressed), .emp, .emp, .emp, .emp, .emp, .emp, .emp, .emp, .emp]) _
  refine k_tp (r := (R.ok square)) (g := (eT (eP eI eI))) (g' := (eT eI)) ?_ fun spots diodes => ?_
  · exact (t_var (x := square) (g := (eP (eT (eP eI eI)) (eT eI))) (by rfl))
  refine k_asg (r := (R.ok ([] : List Int))) (g := (eL eI)) ?_ fun found => ?_
  · exact (t_lst (rs := (R.ok ([] : List Int))) (g := eI) (es_nil (g := eI)))
  refine k_stm (P := (m__law_seen_L1 pressed spots diodes found)) (W__law_seen_L1   pressed spots diodes _ found) fun s44 => ?_
  refine k_ret (r := (R.ok s44)) ?_
  exact (t_var (x := s44) (g := (eL eI)) (by rfl))
def x__law_serves_C1 : ME := .lc (.var 2) (.nm 2) (.seq (.var 1)) (.some (.cmp .ne (.call "_law_seen" (.cons (.var 0) (.cons (.var 2) .nil))) (.bi .list (.cons (.var 2) .nil)))) [2]
def f__law_serves : Fd := ⟨2, ["square", "wish", "one"], (.cons (.ret (.cmp .eq x__law_serves_C1 (.lst .nil))) .nil)⟩
def m__law_serves (square : ((List (Int × Int)) × (List Int))) (wish : (List (List Int))) : R Bool := Ct.run (R.ct ((R.bd (R.bd (R.ok wish) fun x5 => (lcR (fun (one : (List Int)) => (R.bd (R.bd (R.bd (R.ok square) fun x1 => (R.bd (R.ok one) fun x2 => (m__law_seen x1 x2))) fun x3 => (R.bd (R.ok one) fun x4 => (R.ok (!decide (x3 = x4))))) fun b => if b then (R.mp (R.ok one) some) else (R.ok none))) x5)) fun x6 => (R.bd (R.ok ([] : List (List Int))) fun x7 => (R.ok (decide (x6 = x7))))) : R Bool) Ct.rt)
def S__law_serves (c : Cv) : Prop := ∀ (square : ((List (Int × Int)) × (List Int))) (wish : (List (List Int))), Lr (c.cal "_law_serves" [(eP (eT (eP eI eI)) (eT eI)) square, (eT (eT eI)) wish]) ((m__law_serves square wish).mp eB)
theorem W__law_serves (h__law_seen : S__law_seen c)  (square : ((List (Int × Int)) × (List Int))) (wish : (List (List Int))) : Lr (endR (exSs c f__law_serves.body (startE f__law_serves.N.length [(eP (eT (eP eI eI)) (eT eI)) square, (eT (eT eI)) wish]))) ((m__law_serves square wish).mp eB) := by
  unfold m__law_serves
  refine f_end ?_
  show Lx (xK c f__law_serves.body .nx [.val ((eP (eT (eP eI eI)) (eT eI)) square), .val ((eT (eT eI)) wish), .emp]) _
  refine k_ret (r := (R.bd (R.bd (R.ok wish) fun x5 => (lcR (fun (one : (List Int)) => (R.bd (R.bd (R.bd (R.ok square) fun x1 => (R.bd (R.ok one) fun x2 => (m__law_seen x1 x2))) fun x3 => (R.bd (R.ok one) fun x4 => (R.ok (!decide (x3 = x4))))) fun b => if b then (R.mp (R.ok one) some) else (R.ok none))) x5)) fun x6 => (R.bd (R.ok ([] : List (List Int))) fun x7 => (R.ok (decide (x6 = x7)))))) ?_
  exact (t_cmp (o_eq (eL (eT eI)) (by decide)) (ra := (R.bd (R.ok wish) fun x5 => (lcR (fun (one : (List Int)) => (R.bd (R.bd (R.bd (R.ok square) fun x1 => (R.bd (R.ok one) fun x2 => (m__law_seen x1 x2))) fun x3 => (R.bd (R.ok one) fun x4 => (R.ok (!decide (x3 = x4))))) fun b => if b then (R.mp (R.ok one) some) else (R.ok none))) x5))) (rb := (R.ok ([] : List (List Int))))  (lc_nm (xr := (R.ok wish)) (g := (eT eI)) (h := (eT eI)) (fc := fun one => (R.bd (R.bd (R.ok square) fun x1 => (R.bd (R.ok one) fun x2 => (m__law_seen x1 x2))) fun x3 => (R.bd (R.ok one) fun x4 => (R.ok (!decide (x3 = x4)))))) (fe := fun one => (R.ok one)) (i_seqT (ra := (R.ok wish)) (g := (eT eI)) (t_var (x := wish) (g := (eT (eT eI))) (by rfl))) (fun one => c_some (rb := (R.bd (R.bd (R.ok square) fun x1 => (R.bd (R.ok one) fun x2 => (m__law_seen x1 x2))) fun x3 => (R.bd (R.ok one) fun x4 => (R.ok (!decide (x3 = x4)))))) (t_cmp (o_ne (eL eI) (by decide)) (ra := (R.bd (R.ok square) fun x1 => (R.bd (R.ok one) fun x2 => (m__law_seen x1 x2)))) (rb := (R.ok one))  (t_call2 (ra := (R.ok square)) (rb := (R.ok one)) (g := (eP (eT (eP eI eI)) (eT eI))) (h := (eT eI)) (k := (eL eI)) h__law_seen (t_var (x := square) (g := (eP (eT (eP eI eI)) (eT eI))) (by rfl)) (t_var (x := one) (g := (eT eI)) (by rfl))) (t_bi1 (o_LT eI) (ra := (R.ok one))  (t_var (x := one) (g := (eT eI)) (by rfl))))) (fun one => (t_var (x := one) (g := (eT eI)) (by rfl)))) (t_lst (rs := (R.ok ([] : List (List Int)))) (g := (eT eI)) (es_nil (g := (eT eI)))))
def x__law_every_C1 : ME := .lc (.bin .add (.var 3) (.tup (.cons (.var 2) .nil))) (.nm 3) (.seq (.var 1)) .none [3]
def x__law_every_B1 : MSs := (.cons (.asg (.nm 1) (.bin .add (.var 1) x__law_every_C1)) (.cons (.fgt [2]) .nil))
def x__law_every_L1 : MS := .for_ (.nm 2) (.rng (.var 0)) x__law_every_B1
def x__law_every_C3 : ME := .lc (.tup (.cons (.bi .len (.cons (.var 3) .nil)) (.cons (.var 3) .nil))) (.nm 3) (.seq (.var 1)) .none [3]
def x__law_every_C2 : ME := .lc (.var 3) (.tp [4, 3]) (.seq (.bi .sorted (.cons x__law_every_C3 .nil))) .none [3, 4]
def f__law_every : Fd := ⟨1, ["many", "found", "key", "one", "size"], (.cons (.asg (.nm 1) (.lst (.cons (.tup .nil) .nil))) (.cons x__law_every_L1 (.cons (.ret x__law_every_C2) .nil)))⟩
def m__law_every_B1 (many : Int) (key : Int) (s : (List (List Int))) : Ct (List (List Int)) (List (List Int)) := (R.ct ((R.bd (R.ok s) fun x5 => (R.bd (R.bd (R.ok s) fun x4 => (lcR (fun (one : (List Int)) => (R.bd (R.ok true) fun b => if b then (R.mp (R.bd (R.ok one) fun x2 => (R.bd (R.ok (key :: ([] : List Int))) fun x3 => (catR x2 x3))) some) else (R.ok none))) x4)) fun x6 => (catR x5 x6))) : R (List (List Int))) fun found => (Ct.nx found))
def m__law_every_L1 (many : Int) (s : (List (List Int))) : Ct (List (List Int)) (List (List Int)) := (R.ct ((R.bd (R.ok many) fun x1 => (rngR 0 x1)) : R (List Int)) fun xs => forC (m__law_every_B1 many) xs s)
theorem W__law_every_L1   (many : Int) (z3 : Sl) (z4 : Sl) (s : (List (List Int))) : Lx (exS c x__law_every_L1 [.val (eI many), .val ((eL (eT eI)) s), .emp, z3, z4]).x ((m__law_every_L1 many s).fx (fun s => [.val (eI many), .val ((eL (eT eI)) s), .emp, z3, z4]) (eL (eT eI))) := by
  unfold m__law_every_L1
  refine s_for (E := fun s => [.val (eI many), .val ((eL (eT eI)) s), .emp, z3, z4]) (s := s) (xr := (R.bd (R.ok many) fun x1 => (rngR 0 x1))) (g := eI) (B := (m__law_every_B1 many)) ?_ ?_
  · exact (i_rng (ra := (R.ok many))  (t_var (x := many) (g := eI) (by rfl)))
  intro key s
  show Lx (xK c x__law_every_B1 .nx _) ((m__law_every_B1 many key s).fx _ _)
  unfold m__law_every_B1
  refine k_asg (r := (R.bd (R.ok s) fun x5 => (R.bd (R.bd (R.ok s) fun x4 => (lcR (fun (one : (List Int)) => (R.bd (R.ok true) fun b => if b then (R.mp (R.bd (R.ok one) fun x2 => (R.bd (R.ok (key :: ([] : List Int))) fun x3 => (catR x2 x3))) some) else (R.ok none))) x4)) fun x6 => (catR x5 x6)))) (g := (eL (eT eI))) ?_ fun found => ?_
  · exact (t_bin (o_catL (eT eI)) (ra := (R.ok s)) (rb := (R.bd (R.ok s) fun x4 => (lcR (fun (one : (List Int)) => (R.bd (R.ok true) fun b => if b then (R.mp (R.bd (R.ok one) fun x2 => (R.bd (R.ok (key :: ([] : List Int))) fun x3 => (catR x2 x3))) some) else (R.ok none))) x4)))  (t_var (x := s) (g := (eL (eT eI))) (by rfl)) (lc_nm (xr := (R.ok s)) (g := (eT eI)) (h := (eT eI)) (fc := fun one => (R.ok true)) (fe := fun one => (R.bd (R.ok one) fun x2 => (R.bd (R.ok (key :: ([] : List Int))) fun x3 => (catR x2 x3)))) (i_seqL (ra := (R.ok s)) (g := (eT eI)) (t_var (x := s) (g := (eL (eT eI))) (by rfl))) (fun one => c_none) (fun one => (t_bin (o_catT eI) (ra := (R.ok one)) (rb := (R.ok (key :: ([] : List Int))))  (t_var (x := one) (g := (eT eI)) (by rfl)) (t_tupT (rs := (R.ok (key :: ([] : List Int)))) (g := eI) (es_cons (ra := (R.ok key)) (rs := (R.ok ([] : List Int))) (g := eI) (t_var (x := key) (g := eI) (by rfl)) (es_nil (g := eI))))))))
  refine k_fgt ?_
  exact k_end rfl
def m__law_every (many : Int) : R (List (List Int)) := Ct.run (R.ct ((R.ok (([] : List Int) :: ([] : List (List Int)))) : R (List (List Int))) fun found => (Ct.bind (m__law_every_L1 many found) fun s7 => (R.ct ((R.ok (List.map (fun (p : Int × (List Int)) => p.2) (srtT (List.map (fun (one : (List Int)) => (((one).length : Int), one)) s7)))) : R (List (List Int))) Ct.rt)))
def S__law_every (c : Cv) : Prop := ∀ (many : Int), Lr (c.cal "_law_every" [eI many]) ((m__law_every many).mp (eL (eT eI)))
theorem W__law_every   (many : Int) : Lr (endR (exSs c f__law_every.body (startE f__law_every.N.length [eI many]))) ((m__law_every many).mp (eL (eT eI))) := by
  unfold m__law_every
  refine f_end ?_
  show Lx (xK c f__law_every.body .nx [.val (eI many), .emp, .emp, .emp, .emp]) _
  refine k_asg (r := (R.ok (([] : List Int) :: ([] : List (List Int))))) (g := (eL (eT eI))) ?_ fun found => ?_
  · exact (t_lst (rs := (R.ok (([] : List Int) :: ([] : List (List Int))))) (g := (eT eI)) (es_cons (ra := (R.ok ([] : List Int))) (rs := (R.ok ([] : List (List Int)))) (g := (eT eI)) (t_tupT (rs := (R.ok ([] : List Int))) (g := eI) (es_nil (g := eI))) (es_nil (g := (eT eI)))))
  refine k_stm (P := (m__law_every_L1 many found)) (W__law_every_L1   many _ _ found) fun s7 => ?_
  refine k_ret (r := (R.ok (List.map (fun (p : Int × (List Int)) => p.2) (srtT (List.map (fun (one : (List Int)) => (((one).length : Int), one)) s7))))) ?_
  exact (lc_tpM (xr := (R.ok (srtT (List.map (fun (one : (List Int)) => (((one).length : Int), one)) s7)))) (g := eI) (g' := (eT eI)) (h := (eT eI)) (f := fun size one => one) (i_seqL (ra := (R.ok (srtT (List.map (fun (one : (List Int)) => (((one).length : Int), one)) s7)))) (g := (eP eI (eT eI))) (t_bi1 (o_srtL (eP eI (eT eI)) (by decide)) (ra := (R.ok (List.map (fun (one : (List Int)) => (((one).length : Int), one)) s7)))  (lc_nmM (xr := (R.ok s7)) (g := (eT eI)) (h := (eP eI (eT eI))) (f := fun one => (((one).length : Int), one)) (i_seqL (ra := (R.ok s7)) (g := (eT eI)) (t_var (x := s7) (g := (eL (eT eI))) (by rfl))) (fun one => (t_tup2 (ra := (R.ok ((one).length : Int))) (rb := (R.ok one)) (g := eI) (h := (eT eI)) (t_bi1 (o_lenT eI) (ra := (R.ok one))  (t_var (x := one) (g := (eT eI)) (by rfl))) (t_var (x := one) (g := (eT eI)) (by rfl))))))) (fun size one => (t_var (x := one) (g := (eT eI)) (by rfl))))
end Wq.P

end
section
set_option Elab.async false
set_option linter.all false
set_option autoImplicit false
set_option maxRecDepth 100000
/-! What the laws find seen; any things asked. -/
namespace Wq.P
open PySem Wq
section
variable {sq : Sq} {pr : List Int} {r0 : Int}
/-- a wire to which one is led -/
def Led (sq : Sq) (pr : List Int) (r0 : Int) (x : Bool × Int) : Prop := if x.1 then Rr sq pr r0 x.2 else Rc sq pr r0 x.2
structure Hr (sq : Sq) (pr : List Int) (r0 : Int) (s : List (Bool × Int)) : Prop where
  nd : s.Nodup
  led : ∀ x ∈ s, Led sq pr r0 x
  st : (true, r0) ∈ s
  sub : ∀ x ∈ s, x ∈ (true, r0) :: (pr.map (fun k => (true, (spotOf sq k).1)) ++ pr.map (fun k => (false, (spotOf sq k).2)))
def Cld (sq : Sq) (k : Int) (s : List (Bool × Int)) : Prop := ((true, (spotOf sq k).1) ∈ s → (false, (spotOf sq k).2) ∈ s) ∧ ((false, (spotOf sq k).2) ∈ s → k ∉ sq.2 → (true, (spotOf sq k).1) ∈ s)
theorem hr_len {s : List (Bool × Int)} (h : Hr sq pr r0 s) : s.length ≤ 1 + 2 * pr.length := by
  have := nodup_le h.nd h.sub
  simp at this
  omega
theorem hr_add {s : List (Bool × Int)} {x : Bool × Int} (h : Hr sq pr r0 s) (hx : x ∉ s) (hl : Led sq pr r0 x) (hs : x ∈ (true, r0) :: (pr.map (fun k => (true, (spotOf sq k).1)) ++ pr.map (fun k => (false, (spotOf sq k).2)))) : Hr sq pr r0 (s ++ [x]) := by
  refine ⟨?_, ?_, by simp [h.st], ?_⟩
  · rw [List.nodup_append]
    refine ⟨h.nd, by simp, ?_⟩
    intro a ha b hb e
    rw [List.mem_singleton] at hb
    subst hb; subst e
    exact hx ha
  · intro y hy
    rcases List.mem_append.mp hy with hy | hy
    · exact h.led y hy
    · rw [List.mem_singleton] at hy; subst hy; exact hl
  · intro y hy
    rcases List.mem_append.mp hy with hy | hy
    · exact h.sub y hy
    · rw [List.mem_singleton] at hy; subst hy; exact hs
variable (hp : ∀ k ∈ pr, 0 ≤ k ∧ k < sq.1.length) (hl : pr.length ≤ 6)
include hp hl
theorem ls_B3 {k : Int} (hk : k ∈ pr) {s : List (Bool × Int)} (h : Hr sq pr r0 s) : ∃ s', m__law_seen_B3 pr sq.1 sq.2 k s = .nx s' ∧ Hr sq pr r0 s' ∧ (∃ ex, s' = s ++ ex) ∧ (s' = s → Cld sq k s) := by
  have hlen := hr_len h
  have hmr : (true, (spotOf sq k).1) ∈ (true, r0) :: (pr.map (fun k => (true, (spotOf sq k).1)) ++ pr.map (fun k => (false, (spotOf sq k).2))) := List.mem_cons_of_mem _ (List.mem_append.mpr (.inl (List.mem_map.mpr ⟨k, hk, rfl⟩)))
  have hmc : (false, (spotOf sq k).2) ∈ (true, r0) :: (pr.map (fun k => (true, (spotOf sq k).1)) ++ pr.map (fun k => (false, (spotOf sq k).2))) := List.mem_cons_of_mem _ (List.mem_append.mpr (.inr (List.mem_map.mpr ⟨k, hk, rfl⟩)))
  have step1 : ∃ s1, m__law_seen_I1 (true, (spotOf sq k).1) (false, (spotOf sq k).2) s = .nx s1 ∧ Hr sq pr r0 s1 ∧ (∃ ex, s1 = s ++ ex) ∧ ((true, (spotOf sq k).1) ∈ s → (false, (spotOf sq k).2) ∈ s1) := by
    simp only [m__law_seen_I1, ct_ok]
    by_cases q : (memT (true, (spotOf sq k).1) s && !memT (false, (spotOf sq k).2) s) = true
    · rw [if_pos q, app_ok (by simp; omega), ct_ok]
      simp only [Bool.and_eq_true, Bool.not_eq_true', ← Bool.not_eq_true, memT_iff] at q
      refine ⟨_, rfl, hr_add h q.2 ?_ hmc, ⟨_, rfl⟩, fun _ => by simp⟩
      show Rc sq pr r0 (spotOf sq k).2
      exact ⟨k, hk, h.led _ q.1, rfl⟩
    · rw [if_neg q]
      refine ⟨s, rfl, h, ⟨[], by simp⟩, fun h1 => ?_⟩
      simp only [Bool.and_eq_true, Bool.not_eq_true', ← Bool.not_eq_true, memT_iff] at q
      exact Classical.byContradiction fun h2 => q ⟨h1, h2⟩
  obtain ⟨s1, e1, h1, ⟨ex, rfl⟩, hc1⟩ := step1
  have hlen1 := hr_len h1
  simp only [m__law_seen_B3, bd_ok, spot_ok (hp k hk), ct_ok, e1, cbind_nx]
  by_cases q : (memT (false, (spotOf sq k).2) (s ++ ex) && (!memT (true, (spotOf sq k).1) (s ++ ex) && !memT k sq.2)) = true
  · rw [if_pos q, app_ok (by rw [List.length_singleton]; omega), ct_ok]
    simp only [Bool.and_eq_true, Bool.not_eq_true', ← Bool.not_eq_true, memT_iff] at q
    refine ⟨_, rfl, hr_add h1 q.2.1 ?_ hmr, ⟨ex ++ [(true, (spotOf sq k).1)], by simp⟩, fun e => ?_⟩
    · show Rr sq pr r0 (spotOf sq k).1
      obtain ⟨k1, a, b, c⟩ : Rc sq pr r0 (spotOf sq k).2 := h1.led _ q.1
      exact .step b a hk c.symm q.2.2
    · have := congrArg List.length e
      simp at this
  · rw [if_neg q]
    refine ⟨_, rfl, h1, ⟨ex, rfl⟩, fun e => ?_⟩
    rw [e] at q hc1
    simp only [Bool.and_eq_true, Bool.not_eq_true', ← Bool.not_eq_true, memT_iff] at q
    exact ⟨hc1, fun a b => Classical.byContradiction fun c => q ⟨a, c, b⟩⟩
theorem ls_L3 {s : List (Bool × Int)} (h : Hr sq pr r0 s) : ∃ s', m__law_seen_L3 pr sq.1 sq.2 s = .nx s' ∧ Hr sq pr r0 s' ∧ (∃ ex, s' = s ++ ex) ∧ (s' = s → ∀ k ∈ pr, Cld sq k s) := by
  obtain ⟨s', e, h1, h2, h3⟩ := forC_pre (f := m__law_seen_B3 pr sq.1 sq.2) (xs := pr) (done := []) (I := fun pre t => Hr sq pr r0 t ∧ (∃ ex, t = s ++ ex) ∧ (t = s → ∀ k ∈ pre, Cld sq k s)) (by
    rintro pre k post epr t ⟨ht, ⟨ex, rfl⟩, hc⟩
    rw [List.nil_append] at epr
    obtain ⟨t', e, a, ⟨ex2, rfl⟩, b⟩ := ls_B3 hp hl (k := k) (by rw [epr]; simp) ht
    refine ⟨_, e, a, ⟨ex ++ ex2, by simp⟩, fun e2 k1 hk1 => ?_⟩
    have hex : ex = [] ∧ ex2 = [] := by
      have := congrArg List.length e2
      rw [List.length_append, List.length_append] at this
      exact ⟨List.length_eq_zero_iff.mp (by omega), List.length_eq_zero_iff.mp (by omega)⟩
    obtain ⟨rfl, rfl⟩ := hex
    rw [List.append_nil] at hc
    rcases List.mem_append.mp hk1 with hk1 | hk1
    · exact hc rfl k1 hk1
    · rw [List.mem_singleton] at hk1
      subst hk1
      have b2 := b (by simp)
      rwa [List.append_nil] at b2) s ⟨h, ⟨[], by simp⟩, by simp⟩
  rw [List.nil_append] at h3
  exact ⟨s', by simp only [m__law_seen_L3, ct_ok, e], h1, h2, h3⟩
theorem cld_all {s : List (Bool × Int)} (h : Hr sq pr r0 s) (hc : ∀ k ∈ pr, Cld sq k s) (c : Int) : (false, c) ∈ s ↔ Rc sq pr r0 c := by
  constructor
  · exact fun hm => h.led _ hm
  · have rows : ∀ r, Rr sq pr r0 r → (true, r) ∈ s := by
      intro r hr
      induction hr with
      | base => exact h.st
      | @step k k' _ h2 h3 h4 h5 ih =>
        have := (hc k h2).1 ih
        rw [← h4] at this
        exact (hc k' h3).2 this h5
    rintro ⟨k, h1, h2, rfl⟩
    exact (hc k h1).1 (rows _ h2)
theorem ls_L2 (hpn : pr.length ≤ sq.1.length) (hn : sq.1.length ≤ 6) : ∃ s, m__law_seen_L2 pr sq.1 sq.2 [(true, r0)] = .nx s ∧ ∀ c, (false, c) ∈ s ↔ Rc sq pr r0 c := by
  obtain ⟨s, e, h1, h2⟩ := forC_pre (f := m__law_seen_B2 pr sq.1 sq.2) (xs := irg 0 (2 * (sq.1.length : Int))) (done := []) (I := fun pre s => Hr sq pr r0 s ∧ ((∀ k ∈ pr, Cld sq k s) ∨ 1 + pre.length ≤ s.length)) (by
    rintro pre k post epr s ⟨hs, ho⟩
    obtain ⟨s', e, a, ⟨ex, rfl⟩, b⟩ := ls_L3 hp hl hs
    refine ⟨_, by simp only [m__law_seen_B2, e, cbind_nx], a, ?_⟩
    rcases ho with ho | ho
    · left
      have hfull : ∀ x ∈ s ++ ex, x ∈ s := by
        intro x hx
        have hx2 := a.led x hx
        have hc := cld_all hp hl hs ho
        obtain ⟨w, v⟩ := x
        cases w with
        | false => exact (hc v).mpr hx2
        | true =>
          have rows : ∀ r, Rr sq pr r0 r → (true, r) ∈ s := by
            intro r hr
            induction hr with
            | base => exact hs.st
            | @step k k' _ h2 h3 h4 h5 ih =>
              have := (ho k h2).1 ih
              rw [← h4] at this
              exact (ho k' h3).2 this h5
          exact rows v hx2
      have := nodup_le a.nd hfull
      rw [List.length_append] at this
      have : ex = [] := List.length_eq_zero_iff.mp (by omega)
      subst this
      rw [List.append_nil]
      exact ho
    · by_cases q : ex = []
      · subst q
        left
        rw [List.append_nil] at *
        exact b rfl
      · right
        have := List.length_pos_iff.mpr q
        rw [List.length_append, List.length_append, List.length_singleton]
        omega) [(true, r0)] ⟨⟨by simp, fun x hx => by rw [List.mem_singleton] at hx; subst hx; exact .base, by simp, fun x hx => by rw [List.mem_singleton] at hx; subst hx; simp⟩, .inr (by simp)⟩
  refine ⟨s, by simp only [m__law_seen_L2, bd_ok, rng_ok (show 2 * (sq.1.length : Int) ≤ 1000 by omega) (by omega), ct_ok, e], ?_⟩
  rcases h2 with h2 | h2
  · exact cld_all hp hl h1 h2
  · rw [List.nil_append, irg_len] at h2
    refine cld_all hp hl h1 fun k hk => ?_
    have full : ∀ x, x ∈ (true, r0) :: (pr.map (fun k => (true, (spotOf sq k).1)) ++ pr.map (fun k => (false, (spotOf sq k).2))) → x ∈ s := by
      intro x hx
      refine Classical.byContradiction fun hn => ?_
      have hnd : (x :: s).Nodup := List.nodup_cons.mpr ⟨hn, h1.nd⟩
      have := nodup_le hnd (m := (true, r0) :: (pr.map (fun k => (true, (spotOf sq k).1)) ++ pr.map (fun k => (false, (spotOf sq k).2)))) fun y hy => by
        rcases List.mem_cons.mp hy with rfl | hy
        · exact hx
        · exact h1.sub y hy
      simp at this
      omega
    have a1 := full (true, (spotOf sq k).1) (List.mem_cons_of_mem _ (List.mem_append.mpr (.inl (List.mem_map.mpr ⟨k, hk, rfl⟩))))
    have a2 := full (false, (spotOf sq k).2) (List.mem_cons_of_mem _ (List.mem_append.mpr (.inr (List.mem_map.mpr ⟨k, hk, rfl⟩))))
    exact ⟨fun _ => a2, fun _ _ => a1⟩
end
open Classical in
theorem law_seen_ok {sq : Sq} {pr : List Int} (hn : sq.1.length ≤ 6) (hk : Vk sq.1.length pr) : m__law_seen sq pr = .ok (seenF sq pr) := by
  have hl := vk_len hk
  obtain ⟨s, e, h1⟩ := forC_pre (f := m__law_seen_B1 pr sq.1 sq.2) (xs := irg 0 (sq.1.length : Int)) (done := []) (I := fun pre s => s = pre.filter fun k => decide (Sees sq pr k)) (by
    rintro pre k post epr s rfl
    rw [List.nil_append] at epr
    have hkm : 0 ≤ k ∧ k < sq.1.length := mem_irg.mp (by rw [epr]; simp)
    obtain ⟨s', e, h⟩ := ls_L2 (r0 := (spotOf sq k).1) hk.1 (by omega) (by omega) hn
    have hpl : pre.length ≤ 6 := by
      have := irg_len (a := 0) (b := (sq.1.length : Int))
      rw [epr, List.length_append] at this
      omega
    have hfl := List.length_filter_le (fun k => decide (Sees sq pr k)) pre
    have hs : memT (false, (spotOf sq k).2) s' = decide (Sees sq pr k) := by
      rw [Bool.eq_iff_iff, memT_iff, h, decide_eq_true_eq]
      rfl
    refine ⟨_, ?_, rfl⟩
    simp only [m__law_seen_B1, bd_ok, spot_ok hkm, ct_ok, e, cbind_nx, hs]
    rw [List.filter_append, cat_ok (by split <;> simp <;> omega), ct_ok]
    simp only [List.filter_cons, List.filter_nil]) [] rfl
  rw [List.nil_append] at h1
  subst h1
  simp only [m__law_seen, ct2_ok, ct_ok, m__law_seen_L1, bd_ok, rng_ok (show (sq.1.length : Int) ≤ 1000 by omega) (by omega), e, cbind_nx, run_rt]
  rfl
/-! ### any things asked -/
theorem needSq_no {d : D} (h : isSquareD d = false) : needSq d = .ex "NoSquare" := by rw [needSq, h]; rfl
theorem needKs_no {sq : Sq} {d : D} (h : keysOf sq.1.length d = false) : needKs sq d = .ex "NoKeys" := by rw [needKs, h]; rfl
theorem deSq (x : Sq) : deR (dPr (dTl (dPr dI dI)) (dTl dI)) (eP (eT (eP eI eI)) (eT eI) x) = .ok x := de_sq x
theorem deSet (x : List Int) : deR (dTl dI) (eT eI x) = .ok x := de_set x
section
variable {sq : Sq} {pr : List Int} {a b : D}
theorem seenD_ok (h : Vs sq) (hp : Vk sq.1.length pr) : m_seen_D (eSq sq) (eT eI pr) = .ok (seenF sq pr) := by
  simp only [m_seen_D, bd_ok, needSq_ok h, deSq, needKs_ok hp, deSet, ct_ok, keys_seen_ok h.six hp, run_rt]
theorem seenD_sq (h : isSquareD a = false) : m_seen_D a b = .ex "NoSquare" := by
  simp only [m_seen_D, bd_ok, needSq_no h, ct_ex, run_ex]
theorem seenD_ks (h : Vs sq) (hb : keysOf sq.1.length b = false) : m_seen_D (eSq sq) b = .ex "NoKeys" := by
  simp only [m_seen_D, bd_ok, needSq_ok h, deSq, ct_ok, needKs_no hb, ct_ex, run_ex]
theorem falseD_ok (h : Vs sq) (hp : Vk sq.1.length pr) : m_false_keys_D (eSq sq) (eT eI pr) = .ok (falseF sq pr) := by
  have e : lcR (fun (key : Int) => if (!memT key pr) = true then (R.ok (some key)) else (R.ok none)) (seenF sq pr) = .ok (falseF sq pr) := lcR_flt fun x _ => by split <;> rfl
  simp only [m_false_keys_D, bd_ok, needSq_ok h, deSq, needKs_ok hp, deSet, ct_ok, keys_seen_ok h.six hp, mp_ok, e, run_rt]
theorem falseD_sq (h : isSquareD a = false) : m_false_keys_D a b = .ex "NoSquare" := by
  simp only [m_false_keys_D, bd_ok, needSq_no h, ct_ex, run_ex]
theorem falseD_ks (h : Vs sq) (hb : keysOf sq.1.length b = false) : m_false_keys_D (eSq sq) b = .ex "NoKeys" := by
  simp only [m_false_keys_D, bd_ok, needSq_ok h, deSq, ct_ok, needKs_no hb, ct_ex, run_ex]
theorem trueD_ok (h : Vs sq) (hp : Vk sq.1.length pr) : m_is_true_D (eSq sq) (eT eI pr) = .ok (decide (seenF sq pr = pr)) := by
  simp only [m_is_true_D, bd_ok, needSq_ok h, deSq, needKs_ok hp, deSet, ct_ok, keys_seen_ok h.six hp, run_rt]
theorem trueD_sq (h : isSquareD a = false) : m_is_true_D a b = .ex "NoSquare" := by
  simp only [m_is_true_D, bd_ok, needSq_no h, ct_ex, run_ex]
theorem trueD_ks (h : Vs sq) (hb : keysOf sq.1.length b = false) : m_is_true_D (eSq sq) b = .ex "NoKeys" := by
  simp only [m_is_true_D, bd_ok, needSq_ok h, deSq, ct_ok, needKs_no hb, ct_ex, run_ex]
end
/-! ### all sets, those of fewer keys first -/
theorem law_every_ok {n : Int} (h0 : 0 ≤ n) (h6 : n ≤ 6) : ∃ L : List (List Int), m__law_every n = .ok ((srtT (L.map fun one => ((one.length : Int), one))).map fun p => p.2) ∧ L.Nodup ∧ ∀ x, x ∈ L ↔ Vk n x := by
  obtain ⟨L, e, h1, h2⟩ := sets_L1_ok h0 h6
  have e2 : m__law_every_L1 n [[]] = .nx L := e
  exact ⟨L, by simp only [m__law_every, ct_ok, e2, cbind_nx, run_rt], h1, h2⟩
theorem mem_every {L : List (List Int)} {x : List Int} : x ∈ ((srtT (L.map fun one => ((one.length : Int), one))).map fun p : Int × List Int => p.2) ↔ x ∈ L := by
  rw [List.mem_map]
  constructor
  · rintro ⟨p, hp, rfl⟩
    obtain ⟨y, hy, rfl⟩ := List.mem_map.mp (mem_srtT.mp hp)
    exact hy
  · intro h
    exact ⟨(x.length, x), mem_srtT.mpr (List.mem_map.mpr ⟨x, h, rfl⟩), rfl⟩
theorem mem_cut {α : Type} {l : List α} {a b : Option Int} {x : α} (h : x ∈ cut l a b) : x ∈ l := List.mem_of_mem_drop (List.mem_of_mem_take h)
/-! ### the same data are equal -/
structure Gd (d : D) (k : Nat) : Prop where
  lay : d.canLay0 = true
  dep : d.depth ≤ k
  eq : PyData.eqv d d = true
theorem gd_of {α : Type} {g : α → D} {k : Nat} [Cd g k] (x : α) : Gd (g x) k := ⟨Cd.lay x, Cd.dep x, (Cd.eqv x x).mpr rfl⟩
theorem Gd.up {d : D} {k l : Nat} (h : Gd d k) (hl : k ≤ l) : Gd d l := ⟨h.lay, Nat.le_trans h.dep hl, h.eq⟩
theorem gd_all {k : Nat} : ∀ {ds : List D}, (∀ d ∈ ds, Gd d k) → PyData.canLayAll0 ds = true ∧ PyData.depthAll ds ≤ k ∧ PyData.eqvAll ds ds = true
  | [], _ => by simp [PyData.canLayAll0, PyData.depthAll, PyData.eqvAll]
  | d :: ds, h => by
    obtain ⟨a, b, c⟩ := gd_all (ds := ds) fun x hx => h x (by simp [hx])
    have hd := h d (by simp)
    refine ⟨by simp [PyData.canLayAll0, a, hd.lay], ?_, by simp [PyData.eqvAll, c, hd.eq]⟩
    have := hd.dep
    simp only [PyData.depthAll]
    omega
theorem gd_list {k : Nat} {ds : List D} (h : ∀ d ∈ ds, Gd d k) : Gd (.list ds) (k + 1) := by
  obtain ⟨a, b, c⟩ := gd_all h
  refine ⟨by simpa [PyData.canLay0] using a, ?_, by simpa [PyData.eqv] using c⟩
  simp only [PyData.depth]
  omega
theorem gd_tuple {k : Nat} {ds : List D} (h : ∀ d ∈ ds, Gd d k) : Gd (.tuple ds) (k + 1) := by
  obtain ⟨a, b, c⟩ := gd_all h
  refine ⟨by simpa [PyData.canLay0] using a, ?_, by simpa [PyData.eqv] using c⟩
  simp only [PyData.depth]
  omega
theorem gd_eq {d : D} {k : Nat} (h : Gd d k) (hk : k ≤ 64) : eqD d d = .ok true := by
  have : shp d = true := by
    have h1 := h.lay
    have h2 := h.dep
    simp only [Wq.shp, SeqAt.shaped, h1, Bool.true_and, decide_eq_true_eq]
    omega
  rw [eqD, this, h.eq]
  rfl
end Wq.P

end
section
set_option Elab.async false
set_option linter.all false
set_option autoImplicit false
set_option maxRecDepth 100000
/-! Texts. -/
namespace Wq.P
open PySem Wq TL PySem.StrLaws PySem.Builtin.Str
/-- a text by its signs -/
abbrev mk (l : List Nat) : Str := ⟨l.toArray⟩
theorem tl_mk (l : List Nat) : tl (mk l) = l := rfl
theorem mk_of (x : Str) : ∃ l, x = mk l := ⟨tl x, (mk_tl x).symm⟩
theorem len_mk (l : List Nat) : (mk l).length = l.length := rfl
theorem len_tl (x : Str) : x.length = (tl x).length := rfl
theorem mk_app (a b : List Nat) : mk a ++ mk b = mk (a ++ b) := by
  apply Str.ext'
  apply Array.toList_inj.mp
  exact tl_append (mk a) (mk b)
theorem len_app (x y : Str) : (x ++ y).length = x.length + y.length := by
  rw [len_tl, tl_append, List.length_append]
  rfl
theorem mk_inj {a b : List Nat} (h : mk a = mk b) : a = b := by
  have : tl (mk a) = tl (mk b) := by rw [h]
  exact this
/-! ### one sign in a text -/
theorem occ1 (x : Str) (c : Nat) : (occurrences x ⟨#[c]⟩ 0 x.length 1 = [] ∧ c ∉ tl x) ∨ ∃ i r, occurrences x ⟨#[c]⟩ 0 x.length 1 = i :: r ∧ (tl x)[i]? = some c ∧ ∀ k, k < i → (tl x)[k]? ≠ some c := by
  rcases occ_head x ⟨#[c]⟩ 1 (Nat.le_refl 1) with ⟨e, h⟩ | ⟨i, r, e, h, hn⟩
  · refine .inl ⟨e, fun hm => ?_⟩
    obtain ⟨j, hj⟩ := List.getElem?_of_mem hm
    exact h j ((subAt_one x c j).mpr hj)
  · exact .inr ⟨i, r, e, (subAt_one x c i).mp h, fun k hk z => hn k hk ((subAt_one x c k).mpr z)⟩
theorem isSub1 (x : Str) (c : Nat) : isSub (mk [c]) x = decide (c ∈ tl x) := by
  unfold isSub
  rcases occ1 x c with ⟨e, h⟩ | ⟨i, r, e, h, _⟩
  · rw [e, decide_eq_false h]
    rfl
  · rw [e, decide_eq_true (List.mem_of_getElem? h)]
    rfl
theorem six1 {x : Str} {c i : Nat} (h : (tl x)[i]? = some c) (hn : ∀ k, k < i → (tl x)[k]? ≠ some c) : sixR x (mk [c]) = .ok (i : Int) := by
  unfold sixR
  rcases occ1 x c with ⟨e, h'⟩ | ⟨j, r, e, h', hn'⟩
  · exact absurd (List.mem_of_getElem? h) h'
  · have : j = i := by
      rcases Nat.lt_trichotomy j i with q | q | q
      · exact absurd h' (hn j q)
      · exact q
      · exact absurd h (hn' i q)
    subst this
    show ((ofO (occurrences x ⟨#[c]⟩ 0 x.length 1).head?).mp fun k => ((k : Nat) : Int)) = _
    rw [e]
    rfl
/-! ### parts -/
theorem lenS_ok {x : Str} (h : x.length ≤ 100000) : lenS x = .ok ((tl x).length : Int) := by
  rw [lenS, if_pos (by unfold LIM; omega)]
  rfl
theorem ixS_ok {x : Str} {i : Int} {c : Nat} (h : x.length ≤ 100000) (hi : L2.atI (tl x) i = some c) : ixS x i = .ok (mk [c]) := by
  rw [ixS, if_pos (by unfold LIM; omega)]
  show (match L2.atI (tl x) i with
    | some c => R.ok (⟨#[c]⟩ : Str)
    | none => .no) = _
  rw [hi]
theorem addS_ok {x y : Str} (h : x.length + y.length ≤ 100000) : addS x y = .ok (x ++ y) := by
  rw [addS, if_pos (by unfold LIM; omega)]
theorem slS_ok {x : Str} {a b : Option Int} (h : x.length ≤ 100000) : slS x a b = .ok (mk (cut (tl x) a b)) := by
  rw [slS, if_pos (by unfold LIM; omega)]
theorem splR_ok {x y : Str} (h : x.length ≤ 100000) (hy : y.length ≠ 0) : splR x y = .ok (Txt.split x y) := by
  rw [splR, if_pos (by simp only [Bool.and_eq_true, decide_eq_true_eq]; exact ⟨hy, by omega⟩)]
theorem joiR_ok {x : Str} {ys : List Str} (h : (ys.map (·.length)).sum + ys.length * x.length ≤ 100000) : joiR x ys = .ok (Txt.join x ys) := by
  rw [joiR, if_pos (by simp only [decide_eq_true_eq]; omega)]
/-! ### words with blanks between -/
abbrev bk : Str := " "
theorem tl_bk : tl bk = [32] := by decide +kernel
def jn (ws : List Str) : Str := Txt.join bk ws
theorem jn_nil : jn [] = mk [] := by
  unfold jn
  rw [join_eq]
  rfl
theorem jn_one (w : Str) : jn [w] = w := by
  unfold jn
  rw [join_eq]
  rfl
theorem jn_cons (w v : Str) (ws : List Str) : jn (w :: v :: ws) = w ++ bk ++ jn (v :: ws) := by
  unfold jn
  rw [join_eq, join_eq]
  rfl
theorem app_assoc (a b c : Str) : a ++ b ++ c = a ++ (b ++ c) := by
  apply Str.ext'
  apply Array.toList_inj.mp
  show tl _ = tl _
  simp only [tl_append, List.append_assoc]
theorem jn_app : ∀ {us vs : List Str}, us ≠ [] → vs ≠ [] → jn (us ++ vs) = jn us ++ bk ++ jn vs
  | [], _, h, _ => absurd rfl h
  | [u], v :: vs, _, _ => by rw [jn_one]; exact jn_cons u v vs
  | [u], [], _, h => absurd rfl h
  | u :: u' :: us, vs, _, h => by
    rw [List.cons_append, List.cons_append, jn_cons, ← List.cons_append, jn_app (us := u' :: us) (by simp) h, jn_cons]
    simp only [app_assoc]
def NoB (x : Str) : Prop := 32 ∉ tl x
theorem split_jn {ws : List Str} (hne : ws ≠ []) (h : ∀ w ∈ ws, NoB w) : Txt.split (jn ws) bk = ws := split_join (S := []) tl_bk (by decide +kernel) hne h
theorem jn_split (x : Str) : jn (Txt.split x bk) = x := by
  unfold jn
  rw [join_eq]
  exact join_split x bk
theorem bk_mk : bk = ⟨#[32]⟩ := (mk_tl bk).symm.trans (by rw [tl_bk])
theorem noB_split (x : Str) : ∀ w ∈ Txt.split x bk, NoB w := by
  rw [bk_mk]
  exact split_free x 32
theorem split_ne (x : Str) : Txt.split x bk ≠ [] := fun e => by
  have := PyProof.Rows.split_pos x bk
  rw [e] at this
  cases this
theorem jn_inj {us vs : List Str} (h1 : us ≠ []) (h2 : vs ≠ []) (n1 : ∀ w ∈ us, NoB w) (n2 : ∀ w ∈ vs, NoB w) (h : jn us = jn vs) : us = vs := by
  rw [← split_jn h1 n1, h, split_jn h2 n2]
theorem jn_len : ∀ ws : List Str, (jn ws).length ≤ (ws.map (·.length)).sum + ws.length
  | [] => by rw [jn_nil]; simp [len_mk]
  | [w] => by rw [jn_one]; simp
  | w :: v :: ws => by
    have := jn_len (v :: ws)
    rw [jn_cons, len_app, len_app, show bk.length = 1 from rfl]
    simp only [List.map_cons, List.sum_cons, List.length_cons] at this ⊢
    omega
theorem jn_len1 : ∀ {ws : List Str}, ws ≠ [] → (ws.map (·.length)).sum + ws.length = (jn ws).length + 1
  | [], h => absurd rfl h
  | [w], _ => by rw [jn_one]; simp
  | w :: v :: ws, _ => by
    have := jn_len1 (ws := v :: ws) (by simp)
    rw [jn_cons, len_app, len_app, show bk.length = 1 from rfl]
    simp only [List.map_cons, List.sum_cons, List.length_cons] at this ⊢
    omega
theorem le_sum {n : Nat} : ∀ {l : List Nat}, n ∈ l → n ≤ l.sum
  | a :: l, h => by
    rw [List.sum_cons]
    rcases List.mem_cons.mp h with q | q
    · omega
    · have := le_sum q
      omega
theorem split_small (x : Str) : (Txt.split x bk).length ≤ x.length + 1 ∧ ∀ w ∈ Txt.split x bk, w.length ≤ x.length := by
  have h := jn_len1 (split_ne x)
  rw [jn_split] at h
  have hpos : 1 ≤ (Txt.split x bk).length := PyProof.Rows.split_pos x bk
  refine ⟨by omega, fun w hw => ?_⟩
  have : w.length ≤ ((Txt.split x bk).map (·.length)).sum := le_sum (List.mem_map.mpr ⟨w, hw, rfl⟩)
  omega
/-! ### plain signs -/
def Pl (x : Str) : Prop := ∀ c ∈ tl x, c < 128
theorem pl_app {x y : Str} (h1 : Pl x) (h2 : Pl y) : Pl (x ++ y) := fun c hc => by
  rw [tl_append] at hc
  rcases List.mem_append.mp hc with q | q
  · exact h1 c q
  · exact h2 c q
theorem pl_bk : Pl bk := fun c hc => by
  rw [tl_bk] at hc
  simp at hc
  omega
theorem pl_jn : ∀ {ws : List Str}, (∀ w ∈ ws, Pl w) → Pl (jn ws)
  | [], _ => by rw [jn_nil]; intro c hc; cases hc
  | [w], h => by rw [jn_one]; exact h w (by simp)
  | w :: v :: ws, h => by
    rw [jn_cons]
    exact pl_app (pl_app (h w (by simp)) pl_bk) (pl_jn fun z hz => h z (List.mem_cons_of_mem _ hz))
theorem pl_ok {x : Str} (h : Pl x) : PyData.strOk x = true := by
  unfold PyData.strOk
  rw [Array.all_eq_true_iff_forall_mem]
  intro c hc
  have := h c (by show c ∈ x.cps.toList; simpa using hc)
  simp only [decide_eq_true_eq]
  omega
theorem gd_str {x : Str} (h : Pl x) : Gd (eS x) 0 := ⟨by simpa [eS, PyData.canLay0] using pl_ok h, by simp [eS, PyData.depth], by simp [eS, PyData.eqv]⟩
theorem shp_str {x : Str} (h : Pl x) : shp (eS x) = true := by
  have h1 := (gd_str h).lay
  have h2 := (gd_str h).dep
  simp only [Wq.shp, SeqAt.shaped, h1, Bool.true_and, decide_eq_true_eq]
  omega
theorem eqS {x y : Str} (h1 : Pl x) (h2 : Pl y) : eqD (eS x) (eS y) = .ok (decide (x = y)) := by
  rw [eqD, shp_str h1, shp_str h2]
  simp [eS, PyData.eqv]
  by_cases h : x = y <;> simp [h]
theorem neS {x y : Str} (h1 : Pl x) (h2 : Pl y) : neD (eS x) (eS y) = .ok (!decide (x = y)) := by
  rw [neD, eqS h1 h2]
  rfl
theorem pl_split {x : Str} (h : Pl x) : ∀ w ∈ Txt.split x bk, Pl w := by
  have key : ∀ ws : List Str, Pl (jn ws) → ∀ w ∈ ws, Pl w := by
    intro ws
    induction ws with
    | nil => intro _ w hw; cases hw
    | cons u us ih =>
      intro hp w hw
      cases us with
      | nil =>
        rw [jn_one] at hp
        rw [List.mem_singleton] at hw
        subst hw
        exact hp
      | cons v vs =>
        rw [jn_cons] at hp
        rcases List.mem_cons.mp hw with q | q
        · subst q
          exact fun c hc => hp c (by rw [tl_append, tl_append]; simp [hc])
        · exact ih (fun c hc => hp c (by rw [tl_append]; exact List.mem_append.mpr (.inr hc))) w q
  exact key _ (by rw [jn_split]; exact h)
end Wq.P

end
section
set_option Elab.async false
set_option linter.all false
set_option autoImplicit false
set_option maxRecDepth 100000
/-! Squares as texts. -/
namespace Wq.P
open PySem Wq
open TL (tl tl_append mk_tl)
/-- a key: where it lies, whether it has a diode -/
abbrev Qk := (Int × Int) × Bool
def qw (p : Qk) : Str := mk ([97 + p.1.1.toNat, 49 + p.1.2.toNat] ++ if p.2 then [42] else [])
def Qb (p : Qk) : Prop := (0 ≤ p.1.1 ∧ p.1.1 < 6) ∧ 0 ≤ p.1.2 ∧ p.1.2 < 6
def rql : List Nat → Option Qk
  | [a, b] => if (97 ≤ a ∧ a < 103) ∧ 49 ≤ b ∧ b < 55 then some ((((a - 97 : Nat) : Int), ((b - 49 : Nat) : Int)), false) else none
  | [a, b, c] => if ((97 ≤ a ∧ a < 103) ∧ 49 ≤ b ∧ b < 55) ∧ c = 42 then some ((((a - 97 : Nat) : Int), ((b - 49 : Nat) : Int)), true) else none
  | _ => none
def rqw (x : Str) : Option Qk := rql (tl x)
theorem rqw_qw {p : Qk} (h : Qb p) : rqw (qw p) = some p := by
  obtain ⟨⟨r, c⟩, d⟩ := p
  obtain ⟨h1, h2⟩ := h
  simp only at h1 h2
  have e1 : ((97 + r.toNat - 97 : Nat) : Int) = r := by omega
  have e2 : ((49 + c.toNat - 49 : Nat) : Int) = c := by omega
  cases d
  · show rql [97 + r.toNat, 49 + c.toNat] = _
    rw [rql, if_pos (by omega), e1, e2]
  · show rql [97 + r.toNat, 49 + c.toNat, 42] = _
    rw [rql, if_pos (by omega), e1, e2]
theorem rqw_inv {x : Str} {p : Qk} (h : rqw x = some p) : Qb p ∧ x = qw p := by
  obtain ⟨l, rfl⟩ := mk_of x
  replace h : rql l = some p := h
  unfold rql at h
  split at h
  · rename_i a b
    split at h
    · rename_i hc
      cases h
      refine ⟨⟨by simp only; omega, by simp only; omega⟩, ?_⟩
      show mk [a, b] = mk [97 + ((a - 97 : Nat) : Int).toNat, 49 + ((b - 49 : Nat) : Int).toNat]
      rw [show 97 + ((a - 97 : Nat) : Int).toNat = a by omega, show 49 + ((b - 49 : Nat) : Int).toNat = b by omega]
    · cases h
  · rename_i a b c
    split at h
    · rename_i hc
      cases h
      refine ⟨⟨by simp only; omega, by simp only; omega⟩, ?_⟩
      show mk [a, b, c] = mk [97 + ((a - 97 : Nat) : Int).toNat, 49 + ((b - 49 : Nat) : Int).toNat, 42]
      rw [show 97 + ((a - 97 : Nat) : Int).toNat = a by omega, show 49 + ((b - 49 : Nat) : Int).toNat = b by omega, hc.2]
    · cases h
  · cases h
theorem noB_qw {p : Qk} (h : Qb p) : NoB (qw p) := by
  intro hm
  have hm : 32 ∈ [97 + p.1.1.toNat, 49 + p.1.2.toNat] ++ if p.2 then [42] else [] := hm
  simp only [List.mem_append, List.mem_cons, List.not_mem_nil, or_false] at hm
  rcases hm with (q | q) | q
  · omega
  · omega
  · split at q <;> simp at q
theorem pl_qw {p : Qk} (h : Qb p) : Pl (qw p) := by
  obtain ⟨h1, h2⟩ := h
  intro c hm
  have hm : c ∈ [97 + p.1.1.toNat, 49 + p.1.2.toNat] ++ if p.2 then [42] else [] := hm
  simp only [List.mem_append, List.mem_cons, List.not_mem_nil, or_false] at hm
  rcases hm with (q | q) | q
  · omega
  · omega
  · split at q <;> simp at q
    omega
theorem qw_len (p : Qk) : (qw p).length ≤ 3 := by
  show ([97 + p.1.1.toNat, 49 + p.1.2.toNat] ++ if p.2 then [42] else []).length ≤ 3
  split <;> simp
theorem mapM_qw : ∀ {ps : List Qk}, (∀ p ∈ ps, Qb p) → (ps.map qw).mapM rqw = some ps
  | [], _ => rfl
  | p :: ps, h => by
    rw [List.map_cons, List.mapM_cons, rqw_qw (h p (by simp)), mapM_qw fun q hq => h q (by simp [hq])]
    rfl
theorem mapM_inv : ∀ {ws : List Str} {ps : List Qk}, ws.mapM rqw = some ps → (∀ p ∈ ps, Qb p) ∧ ws = ps.map qw
  | [], ps, h => by
    simp at h
    subst h
    exact ⟨(fun p hp => by cases hp), rfl⟩
  | w :: ws, ps, h => by
    rw [List.mapM_cons] at h
    cases q : rqw w with
    | none => rw [q] at h; cases h
    | some p =>
      rw [q] at h
      cases q2 : ws.mapM rqw with
      | none => rw [q2] at h; cases h
      | some qs =>
        rw [q2] at h
        cases h
        obtain ⟨h1, h2⟩ := rqw_inv q
        obtain ⟨h3, h4⟩ := mapM_inv q2
        refine ⟨fun z hz => ?_, by rw [List.map_cons, ← h2, ← h4]⟩
        rcases List.mem_cons.mp hz with e | e
        · subst e; exact h1
        · exact h3 z e
theorem mapM_noq : ∀ {ws : List Str} {w : Str}, w ∈ ws → rqw w = none → ws.mapM rqw = none
  | v :: ws, w, hm, h => by
    rw [List.mapM_cons]
    rcases List.mem_cons.mp hm with e | e
    · subst e
      rw [h]
      rfl
    · rw [mapM_noq e h]
      cases rqw v <;> rfl
/-! ### squares and keys -/
def dioF (n : Int) : List Qk → List Int
  | [] => []
  | p :: r => (if p.2 then [n] else []) ++ dioF (n + 1) r
def mkSq (ps : List Qk) : Sq := (ps.map (·.1), dioF 0 ps)
def psF (n : Int) (sp : List (Int × Int)) (di : List Int) : List Qk := (enT n sp).map fun p => (p.2, memT p.1 di)
def psOf (sq : Sq) : List Qk := psF 0 sq.1 sq.2
theorem psF_cons (n : Int) (x : Int × Int) (sp : List (Int × Int)) (di : List Int) : psF n (x :: sp) di = (x, memT n di) :: psF (n + 1) sp di := rfl
theorem psF_map : ∀ (sp : List (Int × Int)) (n : Int) (di : List Int), (psF n sp di).map (·.1) = sp
  | [], _, _ => rfl
  | x :: sp, n, di => by rw [psF_cons, List.map_cons, psF_map sp]
theorem psF_len (sp : List (Int × Int)) (n : Int) (di : List Int) : (psF n sp di).length = sp.length := by
  have := congrArg List.length (psF_map sp n di)
  rwa [List.length_map] at this
theorem dio_mem : ∀ (ps : List Qk) (n k : Int), k ∈ dioF n ps → n ≤ k ∧ k < n + ps.length
  | [], _, _, h => by cases h
  | p :: r, n, k, h => by
    rcases List.mem_append.mp h with q | q
    · split at q
      · rw [List.mem_singleton] at q
        subst q
        simp only [List.length_cons]
        omega
      · cases q
    · have := dio_mem r _ _ q
      simp only [List.length_cons]
      omega
theorem dio_inc : ∀ (ps : List Qk) (n : Int), Inc (dioF n ps)
  | [], n => .nil
  | p :: r, n => by
    have ih := dio_inc r (n + 1)
    unfold dioF
    split
    · show Inc (n :: dioF (n + 1) r)
      refine .cons (fun k hk => ?_) ih
      have := dio_mem r _ _ hk
      simp [plt, PLt.pl]
      omega
    · exact ih
theorem dio_psF : ∀ (sp : List (Int × Int)) (n : Int) (di : List Int) (k : Int), k ∈ dioF n (psF n sp di) ↔ k ∈ di ∧ n ≤ k ∧ k < n + sp.length
  | [], n, di, k => by
    simp [psF, enT, dioF]
    try (intro _; omega)
  | x :: sp, n, di, k => by
    rw [psF_cons]
    unfold dioF
    rw [List.mem_append, dio_psF sp]
    simp only [List.length_cons]
    constructor
    · rintro (q | ⟨q1, q2⟩)
      · split at q
        · rename_i hm
          rw [List.mem_singleton] at q
          subst q
          exact ⟨memT_iff.mp hm, by omega⟩
        · cases q
      · exact ⟨q1, by omega⟩
    · rintro ⟨q1, q2⟩
      by_cases e : k = n
      · subst e
        exact .inl (by rw [if_pos (memT_iff.mpr q1)]; simp)
      · exact .inr ⟨q1, by omega⟩
theorem mk_ps {sq : Sq} (h : Vs sq) : mkSq (psOf sq) = sq := by
  obtain ⟨sp, di⟩ := sq
  show ((psF 0 sp di).map (·.1), dioF 0 (psF 0 sp di)) = (sp, di)
  rw [psF_map]
  congr 1
  have hd : Vk (sp.length : Int) di := h.dk
  refine inc_ext (dio_inc _ _) hd.2 fun k => ?_
  rw [dio_psF]
  constructor
  · exact fun z => z.1
  · intro z
    have := hd.1 k z
    exact ⟨z, by omega⟩
theorem memT_dio : ∀ (ps : List Qk) (n : Int) (di : List Int), (∀ k ∈ di, k < n) → psF n (ps.map (·.1)) (di ++ dioF n ps) = ps
  | [], _, _, _ => rfl
  | p :: r, n, di, h => by
    rw [List.map_cons, psF_cons]
    have e : di ++ dioF n (p :: r) = (di ++ if p.2 then [n] else []) ++ dioF (n + 1) r := by
      rw [dioF, List.append_assoc]
    rw [e, memT_dio r (n + 1) _ (fun k hk => by
      rcases List.mem_append.mp hk with q | q
      · have := h k q; omega
      · split at q
        · rw [List.mem_singleton] at q; omega
        · cases q)]
    congr 1
    have : memT n ((di ++ if p.2 then [n] else []) ++ dioF (n + 1) r) = p.2 := by
      rw [Bool.eq_iff_iff, memT_iff]
      constructor
      · intro z
        rcases List.mem_append.mp z with z | z
        · rcases List.mem_append.mp z with z | z
          · have := h n z; omega
          · split at z
            · rename_i q; exact q
            · cases z
        · have := dio_mem r _ _ z
          omega
      · intro z
        rw [z]
        simp
    rw [this]
theorem ps_mk (ps : List Qk) : psOf (mkSq ps) = ps := memT_dio ps 0 [] (fun k hk => by cases hk)
theorem psF_b {sp : List (Int × Int)} {n : Int} {di : List Int} (h : ∀ p ∈ sp, (0 ≤ p.1 ∧ p.1 ≤ 5) ∧ 0 ≤ p.2 ∧ p.2 ≤ 5) : ∀ p ∈ psF n sp di, Qb p := by
  intro p hp
  have : p.1 ∈ (psF n sp di).map (·.1) := List.mem_map.mpr ⟨p, hp, rfl⟩
  rw [psF_map] at this
  have := h _ this
  exact ⟨by omega, by omega⟩
theorem vs_mk {ps : List Qk} (hb : ∀ p ∈ ps, Qb p) : Vs (mkSq ps) ↔ (1 ≤ ps.length ∧ ps.length ≤ 6) ∧ (ps.map (·.1)).Nodup := by
  have hl : (mkSq ps).1.length = ps.length := List.length_map ..
  constructor
  · intro h
    have h1 := h.one
    have h2 := h.six
    rw [hl] at h1 h2
    exact ⟨⟨h1, h2⟩, h.nd⟩
  · rintro ⟨⟨h1, h2⟩, h3⟩
    refine ⟨by rw [hl]; exact h1, by rw [hl]; exact h2, fun p hp => ?_, h3, fun k hk => ?_, dio_inc _ _⟩
    · obtain ⟨q, hq, rfl⟩ := List.mem_map.mp hp
      have := hb q hq
      unfold Qb at this
      omega
    · have := dio_mem _ _ _ hk
      rw [hl]
      omega
/-! ### writing -/
def sqT (sq : Sq) : Str := jn ((psOf sq).map qw)
theorem tl_ro : tl ("abcdef" : Str) = [97, 98, 99, 100, 101, 102] := by decide +kernel
theorem tl_co : tl ("123456" : Str) = [49, 50, 51, 52, 53, 54] := by decide +kernel
theorem i6' {k : Int} (h : 0 ≤ k ∧ k < 6) : k = 0 ∨ k = 1 ∨ k = 2 ∨ k = 3 ∨ k = 4 ∨ k = 5 := by omega
theorem ro_ok {k : Int} (h : 0 ≤ k ∧ k < 6) : ixS ("abcdef" : Str) k = .ok (mk [97 + k.toNat]) := by
  refine ixS_ok (by decide +kernel) ?_
  rw [tl_ro]
  rcases i6' h with rfl | rfl | rfl | rfl | rfl | rfl <;> rfl
theorem co_ok {k : Int} (h : 0 ≤ k ∧ k < 6) : ixS ("123456" : Str) k = .ok (mk [49 + k.toNat]) := by
  refine ixS_ok (by decide +kernel) ?_
  rw [tl_co]
  rcases i6' h with rfl | rfl | rfl | rfl | rfl | rfl <;> rfl
theorem st_mk (b : Bool) : (if b then ("*" : Str) else ("" : Str)) = mk (if b then [42] else []) := by cases b <;> decide +kernel
theorem add2 (a b : Nat) : addS (mk [a]) (mk [b]) = .ok (mk [a, b]) := by rw [addS_ok (by simp [len_mk]), mk_app]; rfl
theorem add3 (l m : List Nat) (h : l.length + m.length ≤ 1000) : addS (mk l) (mk m) = .ok (mk (l ++ m)) := by
  rw [addS_ok (by simp only [len_mk]; omega), mk_app]
theorem st_B1 {sq : Sq} {n : Int} {x : Int × Int} {s : List Str} (hb : Qb (x, memT n sq.2)) (hs : s.length ≤ 1000) : m_square_text_B1 sq n x s = .nx (s ++ [qw (x, memT n sq.2)]) := by
  simp only [m_square_text_B1, bd_ok, ro_ok hb.1, co_ok hb.2, add2, st_mk]
  rw [add3 _ _ (by split <;> simp), ct_ok, app_ok (by simp; omega), ct_ok]
  rfl
theorem st_for {sq : Sq} : ∀ {sp : List (Int × Int)} {n : Int} {s : List Str}, (∀ p ∈ psF n sp sq.2, Qb p) → s.length + sp.length ≤ 1000 → forC (fun p s => m_square_text_B1 sq p.1 p.2 s) (enT n sp) s = .nx (s ++ (psF n sp sq.2).map qw)
  | [], n, s, _, _ => by simp [psF, enT, forC]
  | x :: sp, n, s, h, hs => by
    rw [psF_cons] at h ⊢
    simp only [List.length_cons] at hs
    rw [enT, forC]
    show (m_square_text_B1 sq n x s).bind _ = _
    rw [st_B1 (h _ (by simp)) (by omega), cbind_nx, st_for (fun p hp => h p (by simp [hp])) (by simp; omega)]
    simp
theorem words_len {ps : List Qk} : ((ps.map qw).map (·.length)).sum ≤ 3 * ps.length := by
  induction ps with
  | nil => simp
  | cons p ps ih =>
    have := qw_len p
    simp only [List.map_cons, List.sum_cons, List.length_cons] at ih ⊢
    omega
theorem join_sq {ps : List Qk} (h : ps.length ≤ 1000) : joiR bk (ps.map qw) = .ok (jn (ps.map qw)) := by
  refine joiR_ok ?_
  have := words_len (ps := ps)
  rw [List.length_map]
  show _ + _ * 1 ≤ _
  omega
theorem vs_qb {sq : Sq} (h : Vs sq) : ∀ p ∈ psOf sq, Qb p := psF_b h.co
theorem square_text_ok {sq : Sq} (h : Vs sq) : m_square_text sq = .ok (sqT sq) := by
  have h6 := h.six
  have e : needSq (eP (eT (eP eI eI)) (eT eI) sq) = .ok () := needSq_ok h
  have f := st_for (sq := sq) (sp := sq.1) (n := 0) (s := []) (vs_qb h) (by simp only [List.length_nil]; omega)
  rw [List.nil_append] at f
  have j := join_sq (ps := psF 0 sq.1 sq.2) (by rw [psF_len]; omega)
  simp only [m_square_text, bd_ok, e, ct_ok, m_square_text_L1, f, cbind_nx, j, run_rt]
  rfl
theorem st_DB1 (sq : Sq) (n : Int) (x : Int × Int) (s : List Str) : m_square_text_D_B1 (eP (eT (eP eI eI)) (eT eI) sq) n x s = m_square_text_B1 sq n x s := by
  simp only [m_square_text_D_B1, m_square_text_B1, bd_ok, deSq]
  cases memT n sq.2 <;> rfl
theorem square_textD_ok {sq : Sq} (h : Vs sq) : m_square_text_D (eP (eT (eP eI eI)) (eT eI) sq) = .ok (sqT sq) := by
  have q := square_text_ok h
  have e : needSq (eP (eT (eP eI eI)) (eT eI) sq) = .ok () := needSq_ok h
  have f : (fun (p : Int × Int × Int) s => m_square_text_D_B1 (eP (eT (eP eI eI)) (eT eI) sq) p.1 p.2 s) = fun p s => m_square_text_B1 sq p.1 p.2 s := by
    funext p s
    exact st_DB1 sq p.1 p.2 s
  simp only [m_square_text, bd_ok, e, ct_ok, m_square_text_L1] at q
  simp only [m_square_text_D, bd_ok, e, ct_ok, m_square_text_D_L1, deSq, f]
  exact q
theorem square_textD_no {d : D} (h : isSquareD d = false) : m_square_text_D d = .ex "NoSquare" := by
  simp only [m_square_text_D, bd_ok, needSq_no h, ct_ex, run_ex]
theorem sqT_pl {sq : Sq} (h : Vs sq) : Pl (sqT sq) := pl_jn fun w hw => by
  obtain ⟨p, hp, rfl⟩ := List.mem_map.mp hw
  exact pl_qw (vs_qb h p hp)
theorem ps_len (sq : Sq) : (psOf sq).length = sq.1.length := psF_len ..
theorem sqT_len {sq : Sq} (h : Vs sq) : (sqT sq).length ≤ 24 := by
  have h1 := jn_len ((psOf sq).map qw)
  have h2 := words_len (ps := psOf sq)
  have h3 := h.six
  rw [List.length_map, ps_len] at h1
  rw [ps_len] at h2
  show (jn ((psOf sq).map qw)).length ≤ 24
  omega
theorem ps_ne {sq : Sq} (h : Vs sq) : (psOf sq).map qw ≠ [] := fun e => by
  have := congrArg List.length e
  rw [List.length_map, ps_len, List.length_nil] at this
  have h1 := h.one
  omega
theorem noB_sq {sq : Sq} (h : Vs sq) : ∀ w ∈ (psOf sq).map qw, NoB w := fun w hw => by
  obtain ⟨p, hp, rfl⟩ := List.mem_map.mp hw
  exact noB_qw (vs_qb h p hp)
theorem split_sq {sq : Sq} (h : Vs sq) : Txt.split (sqT sq) bk = (psOf sq).map qw := split_jn (ps_ne h) (noB_sq h)
/-! ### reading -/
theorem sta_in (l : List Nat) (hp : Pl (mk l)) : niD (eS (mk l)) (eT eS ([("" : Str), ("*" : Str)])) = .ok (!decide (l = [] ∨ l = [42])) := by
  have h1 : shp (eS (mk l)) = true := shp_str hp
  have h2 : shp (.tuple [.str "", .str "*"]) = true := by decide +kernel
  have e1 : ("" : Str) = mk [] := by decide +kernel
  have e2 : ("*" : Str) = mk [42] := by decide +kernel
  have h3 : ([PyData.str "", PyData.str "*"].any fun z => PyData.eqv z (eS (mk l))) = decide (l = [] ∨ l = [42]) := by
    rw [e1, e2, Bool.eq_iff_iff, decide_eq_true_eq]
    simp only [List.any_cons, List.any_nil, Bool.or_false, Bool.or_eq_true, eS, PyData.eqv, beq_iff_eq, decide_eq_true_eq]
    constructor
    · rintro (z | z)
      · exact .inl (mk_inj z).symm
      · exact .inr (mk_inj z).symm
    · rintro (z | z)
      · exact .inl (by rw [z])
      · exact .inr (by rw [z])
  have e : inD (eS (mk l)) (eT eS ([("" : Str), ("*" : Str)])) = .ok (decide (l = [] ∨ l = [42])) := by
    show (if (shp (eS (mk l)) && shp (.tuple [.str "", .str "*"])) = true then R.ok ([PyData.str "", PyData.str "*"].any fun z => PyData.eqv z (eS (mk l))) else R.no) = _
    rw [h1, h2, h3]
    rfl
  rw [niD, e]
  rfl
theorem six_ro {a : Nat} (h : 97 ≤ a ∧ a < 103) : sixR ("abcdef" : Str) (mk [a]) = .ok ((a - 97 : Nat) : Int) := by
  refine six1 ?_ fun k hk => ?_
  · rw [tl_ro]
    have : a = 97 ∨ a = 98 ∨ a = 99 ∨ a = 100 ∨ a = 101 ∨ a = 102 := by omega
    rcases this with rfl | rfl | rfl | rfl | rfl | rfl <;> rfl
  · rw [tl_ro]
    have : a = 97 ∨ a = 98 ∨ a = 99 ∨ a = 100 ∨ a = 101 ∨ a = 102 := by omega
    have : k = 0 ∨ k = 1 ∨ k = 2 ∨ k = 3 ∨ k = 4 := by omega
    rcases this with rfl | rfl | rfl | rfl | rfl <;> simp <;> omega
theorem six_co {a : Nat} (h : 49 ≤ a ∧ a < 55) : sixR ("123456" : Str) (mk [a]) = .ok ((a - 49 : Nat) : Int) := by
  refine six1 ?_ fun k hk => ?_
  · rw [tl_co]
    have : a = 49 ∨ a = 50 ∨ a = 51 ∨ a = 52 ∨ a = 53 ∨ a = 54 := by omega
    rcases this with rfl | rfl | rfl | rfl | rfl | rfl <;> rfl
  · rw [tl_co]
    have : k = 0 ∨ k = 1 ∨ k = 2 ∨ k = 3 ∨ k = 4 := by omega
    rcases this with rfl | rfl | rfl | rfl | rfl <;> simp <;> omega
theorem in_ro (a : Nat) : decide (a ∈ tl ("abcdef" : Str)) = decide (97 ≤ a ∧ a < 103) := by
  rw [tl_ro, Bool.eq_iff_iff, decide_eq_true_eq, decide_eq_true_eq]
  simp
  omega
theorem in_co (a : Nat) : decide (a ∈ tl ("123456" : Str)) = decide (49 ≤ a ∧ a < 55) := by
  rw [tl_co, Bool.eq_iff_iff, decide_eq_true_eq, decide_eq_true_eq]
  simp
  omega
theorem cut2 (l : List Nat) (h : 2 ≤ l.length) : cut l (some 2) none = l.drop 2 := by
  unfold cut
  have e1 : HT.sIx l.length 0 (some 2) = 2 := by simp [HT.sIx]; omega
  have e2 : HT.sIx l.length l.length none = l.length := by simp [HT.sIx]
  rw [e1, e2, List.take_of_length_le (by simp)]
theorem rq_B1 {text word : Str} {n : Int} {sp : List (Int × Int)} {di : List Int} (hp : Pl word) (hw : word.length ≤ 100000) (h1 : sp.length ≤ 50000) (h2 : di.length ≤ 50000) : m_read_square_B1 text n word (sp, di) = match rqw word with
    | some p => .nx (sp ++ [p.1], di ++ if p.2 then [n] else [])
    | none => .ex "NoText" := by
  obtain ⟨l, rfl⟩ := mk_of word
  have hl := lenS_ok hw
  rw [tl_mk] at hl
  have no : ∀ (h : rqw (mk l) = none), (match rqw (mk l) with
    | some p => (Ct.nx (sp ++ [p.1], di ++ if p.2 then [n] else []) : Ct ((List (Int × Int)) × (List Int)) ((List (Int × Int)) × (List Int)))
    | none => .ex "NoText") = .ex "NoText" := fun h => by rw [h]
  simp only [m_read_square_B1, bd_ok, hl]
  by_cases h23 : memT (l.length : Int) [2, 3] = true
  · obtain ⟨a, b, r, e, hr⟩ : ∃ a b r, l = a :: b :: r ∧ r.length ≤ 1 := by
      have := memT_iff.mp h23
      simp at this
      match l, this with
      | [], h => simp at h
      | [a], h => simp at h
      | [a, b], _ => exact ⟨a, b, [], rfl, by simp⟩
      | [a, b, c], _ => exact ⟨a, b, [c], rfl, by simp⟩
      | a :: b :: c :: d :: r, h => simp at h; omega
    subst e
    have i0 : ixS (mk (a :: b :: r)) 0 = .ok (mk [a]) := ixS_ok hw (by
      match r, hr with
      | [], _ => rfl
      | [c], _ => rfl)
    have i1 : ixS (mk (a :: b :: r)) 1 = .ok (mk [b]) := ixS_ok hw (by
      match r, hr with
      | [], _ => rfl
      | [c], _ => rfl)
    have s2 : slS (mk (a :: b :: r)) (some 2) none = .ok (mk r) := by
      rw [slS_ok hw, tl_mk, cut2 _ (by simp)]
      rfl
    have hpr : Pl (mk r) := fun c hc => hp c (by rw [tl_mk] at hc ⊢; simp [hc])
    simp only [h23, Bool.not_true, Bool.false_eq_true, if_false, i0, i1, s2, bd_ok, isSub1, in_ro, in_co, sta_in r hpr]
    have er : rqw (mk (a :: b :: r)) = rql (a :: b :: r) := rfl
    by_cases ha : 97 ≤ a ∧ a < 103
    · by_cases hb : 49 ≤ b ∧ b < 55
      · by_cases hs : r = [] ∨ r = [42]
        · simp only [ha, hb, hs, decide_true, Bool.not_true, Bool.false_eq_true, if_false, ct_ok, and_self, bd_ok, six_ro ha, six_co hb]
          rw [app_ok (by simp; omega), ct_ok]
          have e42 : ("*" : Str) = mk [42] := by decide +kernel
          have eq : eqD (eS (mk r)) (eS ("*" : Str)) = .ok (decide (r = [42])) := by
            rw [eqS hpr (by rw [e42]; intro c hc; rw [tl_mk] at hc; simp at hc; omega), e42]
            congr 1
            rw [Bool.eq_iff_iff, decide_eq_true_eq, decide_eq_true_eq]
            exact ⟨mk_inj, fun z => by rw [z]⟩
          rw [eq, ct_ok, er]
          rcases hs with rfl | rfl
          · have z : rql [a, b] = some ((((a - 97 : Nat) : Int), ((b - 49 : Nat) : Int)), false) := by rw [rql, if_pos ⟨ha, hb⟩]
            rw [z]
            simp
          · have z : rql [a, b, 42] = some ((((a - 97 : Nat) : Int), ((b - 49 : Nat) : Int)), true) := by rw [rql, if_pos ⟨⟨ha, hb⟩, rfl⟩]
            rw [z]
            simp only [decide_true, if_true, ct_ok]
            rw [app_ok (by simp; omega), ct_ok]
        · have : rql (a :: b :: r) = none := by
            match r, hr, hs with
            | [], _, hs => exact absurd (.inl rfl) hs
            | [c], _, hs => rw [rql, if_neg]; rintro ⟨_, rfl⟩; exact hs (.inr rfl)
          simp only [ha, hb, hs, decide_true, decide_false, Bool.not_true, Bool.not_false, Bool.false_eq_true, if_false, ct_ok, and_self, if_true, er, this]
      · have : rql (a :: b :: r) = none := by
          match r, hr with
          | [], _ => rw [rql, if_neg (fun z => hb z.2)]
          | [c], _ => rw [rql, if_neg (fun z => hb z.1.2)]
        simp only [ha, hb, decide_true, decide_false, Bool.not_true, Bool.not_false, Bool.false_eq_true, if_false, ct_ok, and_self, if_true, er, this]
    · have : rql (a :: b :: r) = none := by
        match r, hr with
        | [], _ => rw [rql, if_neg (fun z => ha z.1)]
        | [c], _ => rw [rql, if_neg (fun z => ha z.1.1)]
      simp only [ha, decide_false, Bool.not_false, if_true, ct_ok, er, this]
  · have h23' : memT (l.length : Int) [2, 3] = false := Bool.eq_false_iff.mpr h23
    have : rqw (mk l) = none := by
      show rql l = none
      unfold rql
      split
      · exact absurd rfl h23
      · exact absurd rfl h23
      · rfl
    simp only [h23', Bool.not_false, if_true, ct_ok, this]
theorem rq_for {text : Str} : ∀ {ws : List Str} {n : Int} {sp : List (Int × Int)} {di : List Int}, (∀ w ∈ ws, w.length ≤ 100000 ∧ Pl w) → sp.length + ws.length ≤ 50000 → di.length + ws.length ≤ 50000 → forC (fun p s => m_read_square_B1 text p.1 p.2 s) (enT n ws) (sp, di) = match ws.mapM rqw with
    | some ps => .nx (sp ++ ps.map (·.1), di ++ dioF n ps)
    | none => .ex "NoText"
  | [], n, sp, di, _, _, _ => by simp [forC, enT, dioF]
  | w :: ws, n, sp, di, h, h1, h2 => by
    simp only [List.length_cons] at h1 h2
    rw [enT, forC]
    show (m_read_square_B1 text n w (sp, di)).bind _ = _
    rw [rq_B1 (h w (by simp)).2 (h w (by simp)).1 (by omega) (by omega), List.mapM_cons]
    cases rqw w with
    | none => rfl
    | some p =>
      show forC (fun p s => m_read_square_B1 text p.1 p.2 s) (enT (n + 1) ws) _ = _
      rw [rq_for (fun v hv => h v (by simp [hv])) (by simp; omega) (by split <;> simp <;> omega)]
      cases ws.mapM rqw with
      | none => rfl
      | some ps => simp [dioF]
/-- the square of a text -/
def rq (x : Str) : Option Sq := match (Txt.split x bk).mapM rqw with
  | some ps => if isSquareD (eSq (mkSq ps)) then some (mkSq ps) else none
  | none => none
theorem read_sq {x : Str} (hp : Pl x) (hx : x.length ≤ 10000) : m_read_square x = match rq x with
    | some sq => .ok sq
    | none => .ex "NoText" := by
  obtain ⟨s1, s2⟩ := split_small x
  have s3 := pl_split hp
  have hb : bk.length ≠ 0 := by decide +kernel
  simp only [m_read_square, ct_ok, m_read_square_L1, bd_ok, splR_ok (show x.length ≤ 100000 by omega) hb]
  rw [rq_for (fun w hw => ⟨by have := s2 w hw; omega, s3 w hw⟩) (by simp only [List.length_nil]; omega) (by simp only [List.length_nil]; omega)]
  unfold rq
  cases q : (Txt.split x bk).mapM rqw with
  | none => simp only [cbind_ex, run_ex]
  | some ps =>
    simp only [cbind_nx, List.nil_append]
    have e : isSquareD (eP (eT (eP eI eI)) (eT eI) (ps.map (·.1), dioF 0 ps)) = isSquareD (eSq (mkSq ps)) := rfl
    rw [e]
    cases isSquareD (eSq (mkSq ps)) with
    | true => simp only [Bool.not_true, Bool.false_eq_true, if_false, ct_ok, run_rt, if_true]; rfl
    | false => simp only [Bool.not_false, if_true, run_ex, Bool.false_eq_true, if_false]
/-- what is written is read -/
theorem rq_sqT {sq : Sq} (h : Vs sq) : rq (sqT sq) = some sq := by
  unfold rq
  rw [split_sq h, mapM_qw (vs_qb h)]
  simp only [mk_ps h, isSq_iff.mpr h, if_true]
theorem rq_no {x w : Str} (hw : w ∈ Txt.split x bk) (h : rqw w = none) : rq x = none := by
  unfold rq
  rw [mapM_noq hw h]
theorem rq_inv {x : Str} {sq : Sq} (h : rq x = some sq) : x = sqT sq ∧ Vs sq := by
  unfold rq at h
  cases q : (Txt.split x bk).mapM rqw with
  | none => rw [q] at h; cases h
  | some ps =>
    rw [q] at h
    simp only at h
    split at h
    · rename_i hi
      cases h
      obtain ⟨h1, h2⟩ := mapM_inv q
      refine ⟨?_, isSq_iff.mp hi⟩
      show x = jn ((psOf (mkSq ps)).map qw)
      rw [ps_mk, ← h2, jn_split]
    · cases h
theorem sqT_inj {a b : Sq} (ha : Vs a) (hb : Vs b) (h : sqT a = sqT b) : a = b := by
  have := rq_sqT ha
  rw [h, rq_sqT hb] at this
  exact (Option.some.inj this).symm
end Wq.P

end
section
set_option Elab.async false
set_option linter.all false
set_option autoImplicit false
set_option maxRecDepth 100000
namespace Wq.L
open PySem Wq Wq.P
open TL (tl tl_append mk_tl)
theorem ne_same {d : D} {k : Nat} (h : Gd d k) (hk : k ≤ 64) : neD d d = .ok false := by rw [neD, gd_eq h hk]; rfl
def rfs : D := eS ("refused" : Str)
def tld (x : Str) : D := match rq x with
  | some sq => eSq sq
  | none => rfs
theorem try_rt (d : D) : (tryT (.ok d) (fun q => if q = ("NoText" : Str) then some (PyData.str "refused") else none) : Ct Empty D) = .rt d := rfl
theorem try_tx : (tryT (.ex "NoText") (fun q => if q = ("NoText" : Str) then some (PyData.str "refused") else none) : Ct Empty D) = .rt rfs := by
  simp only [tryT, if_true]
  rfl
theorem told_ok {x : Str} (hp : Pl x) (hx : x.length ≤ 10000) : m__law_told x = .ok (tld x) := by
  simp only [m__law_told, bd_ok, read_sq hp hx, tld]
  cases rq x with
  | some sq => simp only [bd_ok, try_rt, run_rt]
  | none => simp only [bd_ex, try_tx, run_rt]
theorem le1 (a b : Nat) : leS (mk [a]) (mk [b]) = decide (a ≤ b) := by
  unfold leS
  show (!decide ([b] < [a])) = _
  have : ([b] < [a]) ↔ b < a := by
    constructor
    · intro h
      rcases List.cons_lt_cons_iff.mp h with q | q
      · exact q
      · cases q.2
    · intro h
      exact List.cons_lt_cons_iff.mpr (.inl h)
  rw [Bool.eq_iff_iff]
  simp only [Bool.not_eq_true', decide_eq_false_iff_not, decide_eq_true_eq, this]
  omega
theorem sI_neg1 (n : Nat) (d : Nat) : HT.sIx n d (some (-(1 : Int))) = n - 1 := by
  simp [HT.sIx]
  omega
theorem cutL (l : List Nat) : cut l (some (-(1 : Int))) none = l.drop (l.length - 1) := by
  unfold cut
  rw [sI_neg1]
  have e2 : HT.sIx l.length l.length none = l.length := by simp [HT.sIx]
  rw [e2, List.take_of_length_le (by simp)]
theorem cutF (l : List Nat) : cut l none (some (-(1 : Int))) = l.take (l.length - 1) := by
  unfold cut
  rw [sI_neg1]
  have e1 : HT.sIx l.length 0 none = 0 := by simp [HT.sIx]
  rw [e1]
  simp
theorem I1_ok {n : Int} {di : List Int} {l : List Nat} (hp : Pl (mk l)) (hw : (mk l).length ≤ 100000) (h2 : di.length ≤ 50000) : m__law_due_I1 n (di, mk l) = .nx (if l.drop (l.length - 1) = [42] then (di ++ [n], mk (l.take (l.length - 1))) else (di, mk l)) := by
  have e42 : ("*" : Str) = mk [42] := by decide +kernel
  have hpd : Pl (mk (l.drop (l.length - 1))) := fun c hc => hp c (by rw [tl_mk] at hc ⊢; exact List.mem_of_mem_drop hc)
  have eq : eqD (eS (mk (l.drop (l.length - 1)))) (eS ("*" : Str)) = .ok (decide (l.drop (l.length - 1) = [42])) := by
    rw [eqS hpd (by rw [e42]; intro c hc; rw [tl_mk] at hc; simp at hc; omega), e42]
    congr 1
    rw [Bool.eq_iff_iff, decide_eq_true_eq, decide_eq_true_eq]
    exact ⟨mk_inj, fun z => by rw [z]⟩
  simp only [m__law_due_I1, bd_ok, slS_ok hw, tl_mk, cutL, cutF, eq, ct_ok]
  by_cases h : l.drop (l.length - 1) = [42]
  · simp only [h, decide_true, if_true, ct_ok]
    rw [app_ok (by simp; omega), ct_ok]
  · simp only [h, decide_false, Bool.false_eq_true, if_false]
theorem due_B1 {text word : Str} {n : Int} {sp : List (Int × Int)} {di : List Int} (hp : Pl word) (hw : word.length ≤ 100000) (h1 : sp.length ≤ 50000) (h2 : di.length ≤ 50000) : m__law_due_B1 text n word (sp, di) = match rqw word with
    | some p => if memT p.1 sp then .rt rfs else .nx (sp ++ [p.1], di ++ if p.2 then [n] else [])
    | none => .rt rfs := by
  obtain ⟨l, rfl⟩ := mk_of word
  have er : rqw (mk l) = rql l := rfl
  have ea : ("a" : Str) = mk [97] := by decide +kernel
  have ef : ("f" : Str) = mk [102] := by decide +kernel
  have e1 : ("1" : Str) = mk [49] := by decide +kernel
  have e6 : ("6" : Str) = mk [54] := by decide +kernel
  -- what comes behind, of a word that is cut
  have long : ∀ (l' : List Nat) (di' : List Int), l'.length ≠ 2 → l'.length ≤ 100000 → m__law_due_I1 n (di, mk l) = .nx (di', mk l') → m__law_due_B1 text n (mk l) (sp, di) = .rt rfs := fun l' di' hl hl2 hI => by
    have e0 := lenS_ok (x := mk l') (by rw [len_mk]; exact hl2)
    rw [tl_mk] at e0
    have : decide ((l'.length : Int) = 2) = false := by simp; omega
    simp only [m__law_due_B1, hI, cbind_nx, bd_ok, e0, this, Bool.not_false, if_true, ct_ok]
    rfl
  have two : ∀ (a b : Nat) (di' : List Int), m__law_due_I1 n (di, mk l) = .nx (di', mk [a, b]) → m__law_due_B1 text n (mk l) (sp, di) = if (97 ≤ a ∧ a < 103) ∧ 49 ≤ b ∧ b < 55 then (if memT (((a - 97 : Nat) : Int), ((b - 49 : Nat) : Int)) sp then .rt rfs else .nx (sp ++ [(((a - 97 : Nat) : Int), ((b - 49 : Nat) : Int))], di')) else .rt rfs := fun a b di' hI => by
    have e0 : lenS (mk [a, b]) = .ok 2 := lenS_ok (x := mk [a, b]) (by rw [len_mk]; simp)
    have i0 : ixS (mk [a, b]) 0 = .ok (mk [a]) := ixS_ok (by rw [len_mk]; simp) rfl
    have i1 : ixS (mk [a, b]) 1 = .ok (mk [b]) := ixS_ok (by rw [len_mk]; simp) rfl
    simp only [m__law_due_B1, hI, cbind_nx, bd_ok, e0, decide_true, Bool.not_true, Bool.false_eq_true, if_false, i0, i1, ea, ef, e1, e6, le1]
    by_cases ha : 97 ≤ a ∧ a < 103
    · have ha1 : decide (97 ≤ a) = true := by simp [ha.1]
      have ha2 : decide (a ≤ 102) = true := by simp; omega
      by_cases hb : 49 ≤ b ∧ b < 55
      · have hb1 : decide (49 ≤ b) = true := by simp [hb.1]
        have hb2 : decide (b ≤ 54) = true := by simp; omega
        have e3 : intS (mk [b]) = .ok ((b - 48 : Nat) : Int) := by
          have : b = 49 ∨ b = 50 ∨ b = 51 ∨ b = 52 ∨ b = 53 ∨ b = 54 := by omega
          rcases this with rfl | rfl | rfl | rfl | rfl | rfl <;> kernel_rfl
        have e4 : ((b - 48 : Nat) : Int) - 1 = ((b - 49 : Nat) : Int) := by omega
        simp only [ha1, ha2, hb1, hb2, if_true, bd_ok, Bool.not_true, Bool.false_eq_true, if_false, ct_ok, six_ro ha, e3, e4]
        have hc : (97 ≤ a ∧ a < 103) ∧ 49 ≤ b ∧ b < 55 := ⟨ha, hb⟩
        rw [if_pos hc]
        cases memT (((a - 97 : Nat) : Int), ((b - 49 : Nat) : Int)) sp with
        | true => simp only [if_true, ct_ok]; rfl
        | false =>
          simp only [Bool.false_eq_true, if_false, ct_ok]
          rw [app_ok (by simp; omega), ct_ok]
      · have hc : ¬ ((97 ≤ a ∧ a < 103) ∧ 49 ≤ b ∧ b < 55) := fun z => hb z.2
        rw [if_neg hc]
        by_cases hb1 : 49 ≤ b
        · have hb2 : decide (b ≤ 54) = false := by simp; omega
          simp only [ha1, ha2, decide_eq_true hb1, hb2, if_true, bd_ok, Bool.not_true, Bool.not_false, Bool.false_eq_true, if_false, ct_ok]
          rfl
        · simp only [ha1, ha2, decide_eq_false hb1, if_true, bd_ok, Bool.not_true, Bool.not_false, Bool.false_eq_true, if_false, ct_ok]
          rfl
    · have hc : ¬ ((97 ≤ a ∧ a < 103) ∧ 49 ≤ b ∧ b < 55) := fun z => ha z.1
      rw [if_neg hc]
      by_cases ha1 : 97 ≤ a
      · have ha2 : decide (a ≤ 102) = false := by simp; omega
        simp only [decide_eq_true ha1, ha2, if_true, bd_ok, Bool.not_false, ct_ok]
        rfl
      · simp only [decide_eq_false ha1, Bool.false_eq_true, if_false, if_true, bd_ok, Bool.not_false, ct_ok]
        rfl
  have hI := I1_ok (n := n) (di := di) hp hw h2
  rw [er]
  match l, hw, hI, long, two with
  | [], hw, hI, long, two =>
    simp at hI
    exact long [] di (by simp) (by simp) hI
  | [a], hw, hI, long, two =>
    simp at hI
    by_cases h : a = 42
    · rw [if_pos h] at hI
      exact long [] _ (by simp) (by simp) hI
    · rw [if_neg h] at hI
      exact long [a] _ (by simp) (by simp) hI
  | [a, b], hw, hI, long, two =>
    simp at hI
    by_cases h : b = 42
    · rw [if_pos h] at hI
      have : rql [a, b] = none := by rw [rql, if_neg (by omega)]
      rw [this]
      exact long [a] _ (by simp) (by simp) hI
    · rw [if_neg h] at hI
      rw [two a b di hI]
      by_cases q : (97 ≤ a ∧ a < 103) ∧ 49 ≤ b ∧ b < 55
      · have : rql [a, b] = some ((((a - 97 : Nat) : Int), ((b - 49 : Nat) : Int)), false) := by rw [rql, if_pos q]
        rw [if_pos q, this]
        simp
      · have : rql [a, b] = none := by rw [rql, if_neg q]
        rw [if_neg q, this]
  | [a, b, c], hw, hI, long, two =>
    simp at hI
    by_cases h : c = 42
    · rw [if_pos h] at hI
      rw [two a b _ hI]
      by_cases q : (97 ≤ a ∧ a < 103) ∧ 49 ≤ b ∧ b < 55
      · have : rql [a, b, c] = some ((((a - 97 : Nat) : Int), ((b - 49 : Nat) : Int)), true) := by rw [rql, if_pos ⟨q, h⟩]
        rw [if_pos q, this]
        simp
      · have : rql [a, b, c] = none := by rw [rql, if_neg (fun z => q z.1)]
        rw [if_neg q, this]
    · rw [if_neg h] at hI
      have : rql [a, b, c] = none := by rw [rql, if_neg (fun z => h z.2)]
      rw [this]
      exact long [a, b, c] _ (by simp) (by simp) hI
  | a :: b :: c :: d :: r, hw, hI, long, two =>
    have : rql (a :: b :: c :: d :: r) = none := rfl
    rw [this]
    rw [len_mk] at hw
    by_cases h : (a :: b :: c :: d :: r).drop ((a :: b :: c :: d :: r).length - 1) = [42]
    · rw [if_pos h] at hI
      exact long _ _ (by simp) (by simp only [List.length_take]; omega) hI
    · rw [if_neg h] at hI
      exact long _ _ (by simp) hw hI
theorem due_for {text : Str} : ∀ {ws : List Str} {n : Int} {sp : List (Int × Int)} {di : List Int}, (∀ w ∈ ws, w.length ≤ 100000 ∧ Pl w) → sp.length + ws.length ≤ 50000 → di.length + ws.length ≤ 50000 → sp.Nodup →
    (∃ ps, ws.mapM rqw = some ps ∧ (sp ++ ps.map (·.1)).Nodup ∧ forC (fun p s => m__law_due_B1 text p.1 p.2 s) (enT n ws) (sp, di) = .nx (sp ++ ps.map (·.1), di ++ dioF n ps)) ∨
    ((∀ ps, ws.mapM rqw = some ps → ¬ (sp ++ ps.map (·.1)).Nodup) ∧ forC (fun p s => m__law_due_B1 text p.1 p.2 s) (enT n ws) (sp, di) = .rt rfs)
  | [], n, sp, di, _, _, _, hd => .inl ⟨[], rfl, by simpa using hd, by simp [forC, enT, dioF]⟩
  | w :: ws, n, sp, di, h, h1, h2, hd => by
    simp only [List.length_cons] at h1 h2
    have hB := due_B1 (text := text) (n := n) (sp := sp) (di := di) (h w (by simp)).2 (h w (by simp)).1 (by omega) (by omega)
    have hf : forC (fun p s => m__law_due_B1 text p.1 p.2 s) (enT n (w :: ws)) (sp, di) = (m__law_due_B1 text n w (sp, di)).bind fun s => forC (fun p s => m__law_due_B1 text p.1 p.2 s) (enT (n + 1) ws) s := by
      rw [enT, forC]
    rw [hf, hB, List.mapM_cons]
    cases q : rqw w with
    | none => exact .inr ⟨(fun ps z => by cases z), rfl⟩
    | some p =>
      simp only
      cases q2 : memT p.1 sp with
      | true =>
        refine .inr ⟨fun ps z => ?_, rfl⟩
        cases q3 : ws.mapM rqw with
        | none => rw [q3] at z; cases z
        | some qs =>
          rw [q3] at z
          cases z
          intro nd
          rw [List.map_cons] at nd
          have hm := memT_iff.mp q2
          exact (List.nodup_append.mp nd).2.2 p.1 hm p.1 (by simp) rfl
      | false =>
        simp only [Bool.false_eq_true, if_false, cbind_nx]
        have hm : p.1 ∉ sp := fun z => by rw [memT_iff.mpr z] at q2; cases q2
        have hd' : (sp ++ [p.1]).Nodup := by
          rw [List.nodup_append]
          refine ⟨hd, by simp, fun a ha b hb => ?_⟩
          rw [List.mem_singleton] at hb
          subst hb
          exact fun z => hm (z ▸ ha)
        rcases due_for (ws := ws) (n := n + 1) (sp := sp ++ [p.1]) (di := di ++ if p.2 then [n] else []) (fun v hv => h v (by simp [hv])) (by simp; omega) (by split <;> simp <;> omega) hd' with ⟨ps, e1, e2, e3⟩ | ⟨e1, e2⟩
        · refine .inl ⟨p :: ps, ?_, by simpa using e2, ?_⟩
          · rw [e1]; rfl
          · rw [e3]; simp [dioF]
        · refine .inr ⟨fun ps z => ?_, e2⟩
          cases q3 : ws.mapM rqw with
          | none => rw [q3] at z; cases z
          | some qs =>
            rw [q3] at z
            cases z
            have := e1 qs q3
            simpa using this
theorem due_ok {x : Str} (hp : Pl x) (hx : x.length ≤ 10000) : m__law_due x = .ok (tld x) := by
  obtain ⟨s1, s2⟩ := split_small x
  have s3 := pl_split hp
  have hb : bk.length ≠ 0 := by decide +kernel
  have hne := split_ne x
  simp only [m__law_due, ct_ok, m__law_due_L1, bd_ok, splR_ok (show x.length ≤ 100000 by omega) hb]
  unfold tld rq
  rcases due_for (text := x) (ws := Txt.split x bk) (n := 0) (sp := []) (di := []) (fun w hw => ⟨by have := s2 w hw; omega, s3 w hw⟩) (by simp only [List.length_nil]; omega) (by simp only [List.length_nil]; omega) (by simp) with ⟨ps, e1, e2, e3⟩ | ⟨e1, e2⟩
  · rw [e3, e1]
    obtain ⟨hq, he⟩ := mapM_inv e1
    simp only [cbind_nx, List.nil_append, ct_ok, run_rt] at e2 ⊢
    have hl : (ps.map (·.1)).length = ps.length := List.length_map ..
    have h1 : 1 ≤ ps.length := by
      rw [he] at hne
      cases ps with
      | nil => exact absurd rfl hne
      | cons _ _ => simp
    by_cases h6 : ps.length ≤ 6
    · have : isSquareD (eSq (mkSq ps)) = true := isSq_iff.mpr ((vs_mk hq).mpr ⟨⟨h1, h6⟩, e2⟩)
      have h7 : decide (((ps.map (·.1)).length : Int) < 7) = true := by rw [hl]; simp; omega
      simp only [this, if_true, h7]
      rfl
    · have : isSquareD (eSq (mkSq ps)) = false := by
        rw [Bool.eq_false_iff]
        intro z
        exact h6 ((vs_mk hq).mp (isSq_iff.mp z)).1.2
      have h7 : decide (((ps.map (·.1)).length : Int) < 7) = false := by rw [hl]; simp; omega
      simp only [this, Bool.false_eq_true, if_false, h7]
      rfl
  · rw [e2]
    cases q : (Txt.split x bk).mapM rqw with
    | none => rfl
    | some ps =>
      have hn := e1 ps q
      rw [List.nil_append] at hn
      obtain ⟨hq, he⟩ := mapM_inv q
      have : isSquareD (eSq (mkSq ps)) = false := by
        rw [Bool.eq_false_iff]
        intro z
        exact hn ((vs_mk hq).mp (isSq_iff.mp z)).2
      simp only [this, Bool.false_eq_true, if_false]
      rfl
theorem mk_pl_cut {x : Str} (h : Pl x) (a b : Option Int) : Pl (mk (cut (tl x) a b)) := fun c hc => h c (by rw [tl_mk] at hc; exact mem_cut hc)
theorem cut_len (l : List Nat) (a b : Option Int) : (cut l a b).length ≤ l.length := by
  unfold cut
  rw [List.length_take, List.length_drop]
  omega
theorem mk_len_cut (x : Str) (a b : Option Int) : (mk (cut (tl x) a b)).length ≤ x.length := by
  rw [len_mk, len_tl]
  exact cut_len _ _ _
theorem cut_lenS (l : List Str) (a b : Option Int) : (cut l a b).length ≤ l.length := by
  unfold cut
  rw [List.length_take, List.length_drop]
  omega
/-- words of a few signs -/
def Wd (w : Str) : Prop := Pl w ∧ w.length ≤ 3
theorem sum_wd : ∀ {ws : List Str}, (∀ w ∈ ws, Wd w) → (ws.map (·.length)).sum ≤ 3 * ws.length
  | [], _ => by simp
  | w :: ws, h => by
    have h1 := (h w (by simp)).2
    have h2 := sum_wd fun v hv => h v (List.mem_cons_of_mem w hv)
    simp only [List.map_cons, List.sum_cons, List.length_cons]
    omega
theorem jn_wd {ws : List Str} (h : ∀ w ∈ ws, Wd w) (hl : ws.length ≤ 100) : joiR (" " : Str) ws = .ok (jn ws) ∧ Pl (jn ws) ∧ (jn ws).length ≤ 10000 := by
  have h1 := sum_wd h
  have h2 := jn_len ws
  refine ⟨joiR_ok (by show _ + _ * 1 ≤ _; omega), pl_jn fun w hw => (h w hw).1, by omega⟩
theorem B1 (s : Sc) {sq : Sq} (h : Vs sq) (turn : Int) : m_law_B1 s (sqT sq) turn () = .nx () := by
  have hp := sqT_pl h
  have hl := sqT_len h
  have dr : ∀ a m : Int, ∃ k, 1 ≤ m → drawnR s a m = .ok k := fun a m => by
    by_cases hm : 1 ≤ m
    · exact ⟨_, fun _ => drawn_ok s a (by omega)⟩
    · exact ⟨0, fun z => absurd z hm⟩
  generalize ht : sqT sq = text at *
  obtain ⟨at_, eat⟩ := dr (300 + 10 * turn) (((tl text).length : Int) + 1)
  have eat := eat (by omega)
  have hd := drawn_bd s (300 + 10 * turn + 1) (many := 10) (by decide)
  obtain ⟨c, ec, hc⟩ : ∃ c, ixS ("ab12* f6g0" : Str) (drawn s (300 + 10 * turn + 1) 10) = .ok (mk [c]) ∧ c < 128 := by
    have : ∀ i : Fin 10, ∃ c, L2.atI (tl ("ab12* f6g0" : Str)) (i.1 : Int) = some c ∧ c < 128 := by
      intro i
      have e : tl ("ab12* f6g0" : Str) = [97, 98, 49, 50, 42, 32, 102, 54, 103, 48] := by decide +kernel
      rw [e]
      match i with
      | ⟨0, _⟩ => exact ⟨_, rfl, by decide⟩
      | ⟨1, _⟩ => exact ⟨_, rfl, by decide⟩
      | ⟨2, _⟩ => exact ⟨_, rfl, by decide⟩
      | ⟨3, _⟩ => exact ⟨_, rfl, by decide⟩
      | ⟨4, _⟩ => exact ⟨_, rfl, by decide⟩
      | ⟨5, _⟩ => exact ⟨_, rfl, by decide⟩
      | ⟨6, _⟩ => exact ⟨_, rfl, by decide⟩
      | ⟨7, _⟩ => exact ⟨_, rfl, by decide⟩
      | ⟨8, _⟩ => exact ⟨_, rfl, by decide⟩
      | ⟨9, _⟩ => exact ⟨_, rfl, by decide⟩
    generalize drawn s (300 + 10 * turn + 1) 10 = d at hd
    obtain ⟨c, h1, h2⟩ := this ⟨d.toNat, by omega⟩
    have e : ((⟨d.toNat, by omega⟩ : Fin 10).1 : Int) = d := by show ((d.toNat : Nat) : Int) = d; omega
    rw [e] at h1
    exact ⟨c, ixS_ok (by decide +kernel) h1, h2⟩
  have hpc : Pl (mk [c]) := fun z hz => by rw [tl_mk, List.mem_singleton] at hz; omega
  have lc : (mk [c]).length = 1 := rfl
  -- parts
  have sl : ∀ a b, slS text a b = .ok (mk (cut (tl text) a b)) := fun a b => slS_ok (by omega)
  have ad : ∀ x y : Str, x.length ≤ 100 → y.length ≤ 100 → addS x y = .ok (x ++ y) := fun x y h1 h2 => addS_ok (by omega)
  have cl : ∀ a b, (mk (cut (tl text) a b)).length ≤ 24 := fun a b => Nat.le_trans (mk_len_cut text a b) hl
  have cp : ∀ a b, Pl (mk (cut (tl text) a b)) := fun a b => mk_pl_cut hp a b
  have la := lenS_ok (x := text) (by omega)
  -- words
  have sp : splR text (" " : Str) = .ok (Txt.split text bk) := splR_ok (by omega) (by decide +kernel)
  have hw : ∀ w ∈ Txt.split text bk, Wd w := by
    rw [← ht, split_sq h]
    intro w hw
    obtain ⟨p, hp, rfl⟩ := List.mem_map.mp hw
    exact ⟨pl_qw (vs_qb h p hp), qw_len p⟩
  have hwl : (Txt.split text bk).length ≤ 6 := by
    rw [← ht, split_sq h, List.length_map, ps_len]
    exact h.six
  have hw1 : 1 ≤ (Txt.split text bk).length := PyProof.Rows.split_pos _ _
  generalize Txt.split text bk = words at *
  obtain ⟨to, eto⟩ := dr (300 + 10 * turn + 2) (words.length : Int)
  have eto := eto (by omega)
  have wc : ∀ a b, (cut words a b).length ≤ 6 := fun a b => Nat.le_trans (cut_lenS words a b) hwl
  have wm : ∀ a b, ∀ w ∈ cut words a b, Wd w := fun a b w hm => hw w (mem_cut hm)
  have c1 := cat_ok (a := cut words none (some to)) (b := cut words (some (to + 1)) none) (by have := wc none (some to); have := wc (some (to + 1)) none; omega)
  have c2 := cat_ok (a := cut words none (some (to + 1))) (b := cut words (some to) none) (by have := wc none (some (to + 1)); have := wc (some to) none; omega)
  have c3 := cat_ok (a := cut words none (some to)) (b := List.reverse (cut words (some to) (some (to + 2)))) (by have := wc none (some to); have := wc (some to) (some (to + 2)); rw [List.length_reverse]; omega)
  have c4 := cat_ok (a := cut words none (some to) ++ List.reverse (cut words (some to) (some (to + 2)))) (b := cut words (some (to + 2)) none) (by have := wc none (some to); have := wc (some to) (some (to + 2)); have := wc (some (to + 2)) none; rw [List.length_append, List.length_reverse]; omega)
  obtain ⟨j1, p1, l1⟩ := jn_wd (ws := cut words none (some to) ++ cut words (some (to + 1)) none) (fun w hm => (List.mem_append.mp hm).elim (wm _ _ w) (wm _ _ w)) (by have := wc none (some to); have := wc (some (to + 1)) none; rw [List.length_append]; omega)
  obtain ⟨j2, p2, l2⟩ := jn_wd (ws := cut words none (some (to + 1)) ++ cut words (some to) none) (fun w hm => (List.mem_append.mp hm).elim (wm _ _ w) (wm _ _ w)) (by have := wc none (some (to + 1)); have := wc (some to) none; rw [List.length_append]; omega)
  obtain ⟨j3, p3, l3⟩ := jn_wd (ws := cut words none (some to) ++ List.reverse (cut words (some to) (some (to + 2))) ++ cut words (some (to + 2)) none) (fun w hm => (List.mem_append.mp hm).elim (fun hm => (List.mem_append.mp hm).elim (wm _ _ w) (fun z => wm _ _ w (List.mem_reverse.mp z))) (wm _ _ w)) (by have := wc none (some to); have := wc (some to) (some (to + 2)); have := wc (some (to + 2)) none; rw [List.length_append, List.length_append, List.length_reverse]; omega)
  -- the law's own word
  have flt : ∀ xs : List Str, (∀ x ∈ xs, Pl x ∧ x.length ≤ 10000) → lcR (fun (one : Str) => (R.bd (R.bd (m__law_told one) fun x102 => (R.bd (m__law_due one) fun x103 => (neD x102 x103))) fun b => if b then (R.mp (R.ok one) some) else (R.ok none))) xs = .ok [] := fun xs hx => by
    have := lcR_flt (p := fun _ => false) (xs := xs) (f := fun (one : Str) => (R.bd (R.bd (m__law_told one) fun x102 => (R.bd (m__law_due one) fun x103 => (neD x102 x103))) fun b => if b then (R.mp (R.ok one) some) else (R.ok none))) (fun x hm => by
      obtain ⟨q1, q2⟩ := hx x hm
      have g : ∃ k, k ≤ 64 ∧ Gd (tld x) k := by
        unfold tld
        cases rq x with
        | some sq => exact ⟨3, by decide, gd_of (g := eP (eT (eP eI eI)) (eT eI)) sq⟩
        | none => exact ⟨0, by decide, by decide +kernel, by decide +kernel, by decide +kernel⟩
      obtain ⟨k, hk, g⟩ := g
      simp only [told_ok q1 q2, due_ok q1 q2, bd_ok, ne_same g hk, Bool.false_eq_true, if_false])
    rw [this]
    simp
  obtain ⟨A, eA⟩ : ∃ A, slS text none (some at_) = .ok A ∧ Pl A ∧ A.length ≤ 24 := ⟨_, sl _ _, cp _ _, cl _ _⟩
  obtain ⟨B, eB⟩ : ∃ A, slS text (some (at_ + 1)) none = .ok A ∧ Pl A ∧ A.length ≤ 24 := ⟨_, sl _ _, cp _ _, cl _ _⟩
  obtain ⟨A', eA'⟩ : ∃ A, slS text none (some (at_ + 1)) = .ok A ∧ Pl A ∧ A.length ≤ 24 := ⟨_, sl _ _, cp _ _, cl _ _⟩
  obtain ⟨B', eB'⟩ : ∃ A, slS text (some at_) none = .ok A ∧ Pl A ∧ A.length ≤ 24 := ⟨_, sl _ _, cp _ _, cl _ _⟩
  have hAc : (A ++ mk [c]).length ≤ 30 := by rw [len_app, lc]; omega
  have a1 := ad A B (by omega) (by omega)
  have a2 := ad A' B' (by omega) (by omega)
  have a3 := ad A (mk [c]) (by omega) (by omega)
  have a4 := ad (A ++ mk [c]) B (by omega) (by omega)
  have a5 := ad (A ++ mk [c]) B' (by omega) (by omega)
  have k1 := app_ok (a := [A ++ B, A' ++ B', A ++ mk [c] ++ B]) (b := [A ++ mk [c] ++ B']) (by simp)
  have k2 := cat_ok (a := [A ++ B, A' ++ B', A ++ mk [c] ++ B] ++ [A ++ mk [c] ++ B']) (b := [jn (cut words none (some to) ++ cut words (some (to + 1)) none), jn (cut words none (some (to + 1)) ++ cut words (some to) none)]) (by simp)
  have k3 := app_ok (a := [A ++ B, A' ++ B', A ++ mk [c] ++ B] ++ [A ++ mk [c] ++ B'] ++ [jn (cut words none (some to) ++ cut words (some (to + 1)) none), jn (cut words none (some (to + 1)) ++ cut words (some to) none)]) (b := [jn (cut words none (some to) ++ List.reverse (cut words (some to) (some (to + 2))) ++ cut words (some (to + 2)) none)]) (by simp)
  have fl := flt ([A ++ B, A' ++ B', A ++ mk [c] ++ B] ++ [A ++ mk [c] ++ B'] ++ [jn (cut words none (some to) ++ cut words (some (to + 1)) none), jn (cut words none (some (to + 1)) ++ cut words (some to) none)] ++ [jn (cut words none (some to) ++ List.reverse (cut words (some to) (some (to + 2))) ++ cut words (some (to + 2)) none)]) (fun x hx => by
    simp only [List.cons_append, List.nil_append, List.mem_cons, List.not_mem_nil, or_false] at hx
    rcases hx with rfl | rfl | rfl | rfl | rfl | rfl | rfl
    · exact ⟨pl_app eA.2.1 eB.2.1, by rw [len_app]; omega⟩
    · exact ⟨pl_app eA'.2.1 eB'.2.1, by rw [len_app]; omega⟩
    · exact ⟨pl_app (pl_app eA.2.1 hpc) eB.2.1, by rw [len_app]; omega⟩
    · exact ⟨pl_app (pl_app eA.2.1 hpc) eB'.2.1, by rw [len_app]; omega⟩
    · exact ⟨p1, l1⟩
    · exact ⟨p2, l2⟩
    · exact ⟨p3, l3⟩)
  have z : neD (eL eS ([] : List Str)) (eL eS ([] : List Str)) = .ok false := ne_same (k := 1) ⟨by decide +kernel, by decide +kernel, by decide +kernel⟩ (by decide)
  simp only [m_law_B1, ct_ok, bd_ok, la, eat, ec, eA.1, eB.1, eA'.1, eB'.1, a1, a2, a3, a4, a5, k1, sp, eto, c1, c2, j1, j2, k2, c3, c4, j3, k3, fl, z, Bool.false_eq_true, if_false]
theorem m_law_true (s : Sc) : m_law s = .ok true := by
  obtain ⟨sq, eq, hv, _⟩ := law_square_ok s 0 (most := 6) (by decide) (by decide)
  obtain ⟨ot, eo, ho, _⟩ := law_square_ok s 200 (most := 3) (by decide) (by decide)
  have L : m_law_L1 s (sqT sq) () = .nx () := by
    simp only [m_law_L1, ct_ok]
    exact forC_true fun x _ => B1 s hv x
  have r := read_sq (sqT_pl hv) (by have := sqT_len hv; omega)
  rw [rq_sqT hv] at r
  have e := eqS (sqT_pl ho) (sqT_pl hv)
  have d : decide (sqT ot = sqT sq) = decide (ot = sq) := by
    rw [Bool.eq_iff_iff, decide_eq_true_eq, decide_eq_true_eq]
    exact ⟨sqT_inj ho hv, fun z => by rw [z]⟩
  simp only [m_law, bd_ok, eq, eo, ct_ok, square_text_ok hv, square_text_ok ho, r, decide_true, Bool.not_true, Bool.false_eq_true, if_false, e, d, L, cbind_nx, run_rt]
end Wq.L

end
section
set_option Elab.async false
set_option linter.all false
set_option autoImplicit false
set_option maxRecDepth 100000
set_option maxHeartbeats 0
namespace Wq.L
open PySem Wq
def top (i : Nat) : Stmt := PySem.Challenge.pw_wiresquares_k51_whole_read.main.body.getD i (.Pass ⟨0, 0, 0, 0⟩)
def d_is_number : Df := ⟨"is_number", top 7, P.f_is_number, false⟩
def d_is_spot : Df := ⟨"is_spot", top 8, P.f_is_spot, false⟩
def d_are_keys_of : Df := ⟨"are_keys_of", top 9, P.f_are_keys_of, false⟩
def d_is_square : Df := ⟨"is_square", top 10, P.f_is_square, false⟩
def d_need_square : Df := ⟨"need_square", top 11, P.f_need_square, false⟩
def d_square_text : Df := ⟨"square_text", top 15, P.f_square_text, false⟩
def d_read_square : Df := ⟨"read_square", top 16, P.f_read_square, false⟩
def d__law_cell : Df := ⟨"_law_cell", top 18, P.f__law_cell, false⟩
def d__law_drawn : Df := ⟨"_law_drawn", top 19, P.f__law_drawn, false⟩
def d__law_square : Df := ⟨"_law_square", top 20, P.f__law_square, false⟩
def d__law_told : Df := ⟨"_law_told", top 21, Wq.L.f__law_told, false⟩
def d__law_due : Df := ⟨"_law_due", top 22, Wq.L.f__law_due, false⟩
def d_law : Df := ⟨"law", top 23, Wq.L.f_law, false⟩
def ds : List Df := [d_is_number, d_is_spot, d_are_keys_of, d_is_square, d_need_square, d_square_text, d_read_square, d__law_cell, d__law_drawn, d__law_square, d__law_told, d__law_due, d_law]
def gc : List (Str × D) := [("MOST_KEYS", (.int 6)), ("MOST_WIRES", (.int 6)), ("ROWS", (.str "abcdef")), ("COLUMNS", (.str "123456"))]
def xs : List Str := ["SquareError", "NoSquare", "NoText"]
theorem hn : nodupB (ds.map (·.nm)) = true := by decide +kernel
theorem lk_is_number : (ftOf ds).lookup ("is_number" : Str) = some P.f_is_number := ft_lookup (d := d_is_number) hn (by simp [ds])
theorem lk_is_spot : (ftOf ds).lookup ("is_spot" : Str) = some P.f_is_spot := ft_lookup (d := d_is_spot) hn (by simp [ds])
theorem lk_are_keys_of : (ftOf ds).lookup ("are_keys_of" : Str) = some P.f_are_keys_of := ft_lookup (d := d_are_keys_of) hn (by simp [ds])
theorem lk_is_square : (ftOf ds).lookup ("is_square" : Str) = some P.f_is_square := ft_lookup (d := d_is_square) hn (by simp [ds])
theorem lk_need_square : (ftOf ds).lookup ("need_square" : Str) = some P.f_need_square := ft_lookup (d := d_need_square) hn (by simp [ds])
theorem lk_square_text : (ftOf ds).lookup ("square_text" : Str) = some P.f_square_text := ft_lookup (d := d_square_text) hn (by simp [ds])
theorem lk_read_square : (ftOf ds).lookup ("read_square" : Str) = some P.f_read_square := ft_lookup (d := d_read_square) hn (by simp [ds])
theorem lk__law_cell : (ftOf ds).lookup ("_law_cell" : Str) = some P.f__law_cell := ft_lookup (d := d__law_cell) hn (by simp [ds])
theorem lk__law_drawn : (ftOf ds).lookup ("_law_drawn" : Str) = some P.f__law_drawn := ft_lookup (d := d__law_drawn) hn (by simp [ds])
theorem lk__law_square : (ftOf ds).lookup ("_law_square" : Str) = some P.f__law_square := ft_lookup (d := d__law_square) hn (by simp [ds])
theorem lk__law_told : (ftOf ds).lookup ("_law_told" : Str) = some Wq.L.f__law_told := ft_lookup (d := d__law_told) hn (by simp [ds])
theorem lk__law_due : (ftOf ds).lookup ("_law_due" : Str) = some Wq.L.f__law_due := ft_lookup (d := d__law_due) hn (by simp [ds])
theorem lk_law : (ftOf ds).lookup ("law" : Str) = some Wq.L.f_law := ft_lookup (d := d_law) hn (by simp [ds])
abbrev cv (k : Nat) : Cv := cvN (ftOf ds) gc sub0 xs k
theorem c_is_number : dfB (coldN ds) (hotN ds) (gc.map (·.1)) xs d_is_number = true := by decide +kernel
theorem c_is_spot : dfB (coldN ds) (hotN ds) (gc.map (·.1)) xs d_is_spot = true := by decide +kernel
theorem c_are_keys_of : dfB (coldN ds) (hotN ds) (gc.map (·.1)) xs d_are_keys_of = true := by decide +kernel
theorem c_is_square : dfB (coldN ds) (hotN ds) (gc.map (·.1)) xs d_is_square = true := by decide +kernel
theorem c_need_square : dfB (coldN ds) (hotN ds) (gc.map (·.1)) xs d_need_square = true := by decide +kernel
theorem c_square_text : dfB (coldN ds) (hotN ds) (gc.map (·.1)) xs d_square_text = true := by decide +kernel
theorem c_read_square : dfB (coldN ds) (hotN ds) (gc.map (·.1)) xs d_read_square = true := by decide +kernel
theorem c__law_cell : dfB (coldN ds) (hotN ds) (gc.map (·.1)) xs d__law_cell = true := by decide +kernel
theorem c__law_drawn : dfB (coldN ds) (hotN ds) (gc.map (·.1)) xs d__law_drawn = true := by decide +kernel
theorem c__law_square : dfB (coldN ds) (hotN ds) (gc.map (·.1)) xs d__law_square = true := by decide +kernel
theorem c__law_told : dfB (coldN ds) (hotN ds) (gc.map (·.1)) xs d__law_told = true := by decide +kernel
theorem c__law_due : dfB (coldN ds) (hotN ds) (gc.map (·.1)) xs d__law_due = true := by decide +kernel
theorem c_law : dfB (coldN ds) (hotN ds) (gc.map (·.1)) xs d_law = true := by decide +kernel
theorem chk : ∀ d ∈ ds, dfB (coldN ds) (hotN ds) (gc.map (·.1)) xs d = true := by
  intro d hd
  simp only [ds, List.mem_cons, List.not_mem_nil, or_false] at hd
  rcases hd with rfl | rfl | rfl | rfl | rfl | rfl | rfl | rfl | rfl | rfl | rfl | rfl | rfl
  · exact c_is_number
  · exact c_is_spot
  · exact c_are_keys_of
  · exact c_is_square
  · exact c_need_square
  · exact c_square_text
  · exact c_read_square
  · exact c__law_cell
  · exact c__law_drawn
  · exact c__law_square
  · exact c__law_told
  · exact c__law_due
  · exact c_law
theorem b_is_number : BindOk d_is_number := fun _ _ _ _ _ _ us hl => match us, hl with | [_, _, _], _ => rfl
theorem b_is_spot : BindOk d_is_spot := fun _ _ _ _ _ _ us hl => match us, hl with | [_], _ => rfl
theorem b_are_keys_of : BindOk d_are_keys_of := fun _ _ _ _ _ _ us hl => match us, hl with | [_, _], _ => rfl
theorem b_is_square : BindOk d_is_square := fun _ _ _ _ _ _ us hl => match us, hl with | [_], _ => rfl
theorem b_need_square : BindOk d_need_square := fun _ _ _ _ _ _ us hl => match us, hl with | [_], _ => rfl
theorem b_square_text : BindOk d_square_text := fun _ _ _ _ _ _ us hl => match us, hl with | [_], _ => rfl
theorem b_read_square : BindOk d_read_square := fun _ _ _ _ _ _ us hl => match us, hl with | [_], _ => rfl
theorem b__law_cell : BindOk d__law_cell := fun _ _ _ _ _ _ us hl => match us, hl with | [_, _], _ => rfl
theorem b__law_drawn : BindOk d__law_drawn := fun _ _ _ _ _ _ us hl => match us, hl with | [_, _, _], _ => rfl
theorem b__law_square : BindOk d__law_square := fun _ _ _ _ _ _ us hl => match us, hl with | [_, _, _], _ => rfl
theorem b__law_told : BindOk d__law_told := fun _ _ _ _ _ _ us hl => match us, hl with | [_], _ => rfl
theorem b__law_due : BindOk d__law_due := fun _ _ _ _ _ _ us hl => match us, hl with | [_], _ => rfl
theorem b_law : BindOk d_law := fun _ _ _ _ _ _ us hl => match us, hl with | [_], _ => rfl
theorem bnd : ∀ d ∈ ds, BindOk d := by
  intro d hd
  simp only [ds, List.mem_cons, List.not_mem_nil, or_false] at hd
  rcases hd with rfl | rfl | rfl | rfl | rfl | rfl | rfl | rfl | rfl | rfl | rfl | rfl | rfl
  · exact b_is_number
  · exact b_is_spot
  · exact b_are_keys_of
  · exact b_is_square
  · exact b_need_square
  · exact b_square_text
  · exact b_read_square
  · exact b__law_cell
  · exact b__law_drawn
  · exact b__law_square
  · exact b__law_told
  · exact b__law_due
  · exact b_law
abbrev Rw : PySem.W.OpenRow := PySem.W.OpenLaw.row PySem.Challenge.rw_wiresquares_k51_whole_read
abbrev hk : PySem.W.Hook := hookW 4 ds gc xs
def ob (s : PySem.W.SharedT) : He.AlD := obsWG 4 ds gc xs (HandSHeadRun.getT s)
theorem ob_eq (s : PySem.W.SharedT) : ob s = hk.obs s.abs := obsWG_eq (HandSHeadRun.getT_eq s)
def lo0 : List Str := ["is_number", "is_spot", "are_keys_of", "is_square", "need_square", "square_text", "read_square", "_law_cell", "_law_drawn", "_law_square", "_law_told", "_law_due", "MOST_KEYS", "MOST_WIRES", "ROWS", "COLUMNS", "SquareError", "NoSquare", "NoText"]
abbrev loose : List Str := lo0
theorem run (w : World) : HandSHeadRun.RunEq Rw (PySem.W.view Rw.prog [23]) hk ob 3000 loose w := by
  intro os
  kernel_rfl
end Wq.L

end
section
set_option Elab.async false
set_option linter.all false
set_option autoImplicit false
set_option maxRecDepth 100000
set_option maxHeartbeats 0
namespace Wq.L
open PySem Wq Wq.P
theorem g_COLUMNS (k : Nat) : (cv k).gc.lookup ("COLUMNS" : Str) = some (PyData.str "123456") := by rw [cvN_gc]; rfl
theorem g_MOST_KEYS (k : Nat) : (cv k).gc.lookup ("MOST_KEYS" : Str) = some (PyData.int 6) := by rw [cvN_gc]; rfl
theorem g_MOST_WIRES (k : Nat) : (cv k).gc.lookup ("MOST_WIRES" : Str) = some (PyData.int 6) := by rw [cvN_gc]; rfl
theorem g_ROWS (k : Nat) : (cv k).gc.lookup ("ROWS" : Str) = some (PyData.str "abcdef") := by rw [cvN_gc]; rfl
theorem K_under_NoText_NoText (k : Nat) : S_under_NoText_NoText (cv k) := ⟨by rw [cvN_xs]; decide +kernel, by rw [cvN_sub]; decide +kernel⟩
theorem K_under_NoText_SquareError (k : Nat) : S_under_NoText_SquareError (cv k) := ⟨by rw [cvN_xs]; decide +kernel, by rw [cvN_sub]; decide +kernel⟩
theorem K_is_number (k : Nat) : S_is_number (cv (k + 1)) := fun x0 x1 x2 => liftE lk_is_number rfl (W_is_number  x0 x1 x2)
theorem K__law_cell (k : Nat) : S__law_cell (cv (k + 1)) := fun x0 x1 => liftE lk__law_cell rfl (W__law_cell  x0 x1)
theorem K__law_due (k : Nat) : S__law_due (cv (k + 1)) := fun x0 => liftL lk__law_due rfl (W__law_due  x0)
theorem K_is_spot (k : Nat) : S_is_spot (cv (k + 2)) := fun x0 => liftE lk_is_spot rfl (W_is_spot (g_MOST_WIRES _) (K_is_number k) x0)
theorem K_are_keys_of (k : Nat) : S_are_keys_of (cv (k + 2)) := fun x0 x1 => liftE lk_are_keys_of rfl (W_are_keys_of (K_is_number k) x0 x1)
theorem K__law_drawn (k : Nat) : S__law_drawn (cv (k + 2)) := fun x0 x1 x2 => liftE lk__law_drawn rfl (W__law_drawn (K__law_cell k) x0 x1 x2)
theorem K_is_square (k : Nat) : S_is_square (cv (k + 3)) := fun x0 => liftE lk_is_square rfl (W_is_square (g_MOST_KEYS _) (K_is_spot k) (K_are_keys_of k) x0)
theorem K__law_square (k : Nat) : S__law_square (cv (k + 3)) := fun x0 x1 x2 => liftL lk__law_square rfl (W__law_square (K__law_drawn k) x0 x1 x2)
theorem K_need_square (k : Nat) : S_need_square (cv (k + 4)) := fun x0 => liftE lk_need_square rfl (W_need_square (K_is_square k) x0)
theorem K_read_square (k : Nat) : S_read_square (cv (k + 4)) := fun x0 => liftL lk_read_square rfl (W_read_square (K_is_square k) (g_ROWS _) (g_COLUMNS _) x0)
theorem K_square_text (k : Nat) : S_square_text (cv (k + 5)) := fun x0 => liftL lk_square_text rfl (W_square_text (K_need_square k) (g_ROWS _) (g_COLUMNS _) x0)
theorem K_square_text_D (k : Nat) : S_square_text_D (cv (k + 5)) := fun x0 => liftL lk_square_text rfl (W_square_text_D (K_need_square k) (g_ROWS _) (g_COLUMNS _) x0)
theorem K__law_told (k : Nat) : S__law_told (cv (k + 5)) := fun x0 => liftL lk__law_told rfl (W__law_told (K_under_NoText_SquareError _) (K_under_NoText_NoText _) (K_read_square k) x0)
theorem K_law (k : Nat) : S_law (cv (k + 6)) := fun x0 => liftL lk_law rfl (W_law (K__law_square (k + 2)) (K_square_text k) (K_read_square (k + 1)) (K__law_drawn (k + 3)) (K__law_told k) (K__law_due (k + 4)) x0)
theorem plain_of (h : ∀ s : Sc, m_law s = .ok true) (ns : List Int) (hl : ns.length ≤ 63) : (cvN (ftOf ds) gc sub0 xs 24).cal "law" [scr ns] = .ok (.bool true) := by
  have q := K_law 18 ⟨ns, hl⟩
  rw [h] at q
  exact q.ok
end Wq.L

end
section
set_option Elab.async false
set_option linter.all false
set_option autoImplicit false
set_option maxRecDepth 100000
set_option maxHeartbeats 0
theorem Wq.L.plain (ns : List Int) (hl : ns.length ≤ 63) : (Wq.cvN (Wq.ftOf Wq.L.ds) Wq.L.gc Wq.sub0 Wq.L.xs 24).cal "law" [Wq.scr ns] = .ok (.bool true) := Wq.L.plain_of Wq.L.m_law_true ns hl
open PySem PySem.W PySem.Calls PyProof.Rows
theorem PySem.Challenge.cw_wiresquares_k51_whole_read_holds : PySem.Challenge.rw_wiresquares_k51_whole_read.Holds := by
  w_on; o_law
  refine HandSHeadRun.head_any (r := OpenLaw.row PySem.Challenge.rw_wiresquares_k51_whole_read) (q := view (OpenLaw.row PySem.Challenge.rw_wiresquares_k51_whole_read).prog [23]) (H := Wq.L.hk) (ob := Wq.L.ob) (M := 3000) (loose := Wq.L.loose) (d := HandSHeadRun.topDef (OpenLaw.row PySem.Challenge.rw_wiresquares_k51_whole_read).prog 23) (kwd := []) Wq.L.ob_eq
    (by kernel_rfl) (fun s => by kernel_rfl) Wq.L.run (by kernel_rfl) (by kernel_rfl) (by kernel_rfl) (by rfl) (by first | assumption | decide +kernel) (by decide +kernel) ⟨rfl, rfl, rfl, rfl, rfl, by decide +kernel⟩ ?hw ?hc
  case hw => w_witness2
  case hc =>
    exact Wq.law_of (l := PySem.Challenge.rw_wiresquares_k51_whole_read) (n := 4) (lv := 24) (dl := Wq.L.d_law) (ds := Wq.L.ds) (gc := Wq.L.gc) (xs := Wq.L.xs) rfl (by kernel_rfl) ⟨rfl, by decide, by decide⟩ (by kernel_rfl) (by simp [Wq.L.ds]) rfl rfl rfl (by decide +kernel) Wq.L.chk Wq.L.bnd Wq.L.plain

end