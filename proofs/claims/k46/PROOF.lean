import PyProof.Rows.All
import Wide.All
import OpenK.AllK
import Wide.FinOn
import HandS.ForMost
import HandS.Wide
import HandS.TupAny
import HandS.TupMul
import HandS.TupLe
import HandS.Deep
import HandS.Conv
import HandS.Style
import HandS.WordsExc
import PyProof.Lay0
import KE.SortData
import HandS.SortInts
import HandS.IsInst
import KE.GoesEnum
import KE.GoesMore
import KE.GoesZip
import HandS.Flow
import HandS.SetFor
import HandS.Small
import HandS.Iter
import KE.KDictLaws
import KE.KStrBytes
import PyProof.Rows.RegStrFacts
import PySem.Challenge.RW_piledtables_k46_whole_known_webs_of_ways
set_option Elab.async false
set_option linter.all false
set_option maxRecDepth 100000
section
/-! PyA: a small Python of our own: values, syntax, and what it computes. -/
namespace Py
open PySem

/-- modes of a list: owned, frozen for good, borrowed, borrowed and a slot's own -/
inductive Md | o | f | b | t
deriving DecidableEq

inductive PV where
  | non | bl (b : Bool) | int (i : Int) | str (s : Str) | tup (xs : List PV) | lst (m : Md) (xs : List PV) | dct (n : Nat) | src | scr

mutual
def toD : PV → PyData
  | .non => .none
  | .bl b => .bool b
  | .int i => .int i
  | .str s => .str s
  | .tup xs => .tuple (toDs xs)
  | .lst _ xs => .list (toDs xs)
  | .dct _ => .none
  | .src => .none
  | .scr => .none
def toDs : List PV → List PyData
  | [] => []
  | x :: xs => toD x :: toDs xs
end

mutual
/-- plain data, nested to a depth -/
def shp : Nat → PV → Bool
  | _, .non => true
  | _, .bl _ => true
  | _, .int _ => true
  | _, .str s => PySem.PyData.strOk s
  | 0, .tup _ => false
  | 0, .lst _ _ => false
  | n + 1, .tup xs => shps n xs
  | n + 1, .lst _ xs => shps n xs
  | _, .dct _ => false
  | _, .src => false
  | _, .scr => false
def shps : Nat → List PV → Bool
  | _, [] => true
  | n, x :: xs => shp n x && shps n xs
end

mutual
/-- an owned list seen by others -/
def brw : PV → PV
  | .lst .o xs => .lst .b (brws xs)
  | .lst .f xs => .lst .f xs
  | .lst .b xs => .lst .b xs
  | .lst .t xs => .lst .b xs
  | .tup xs => .tup xs
  | .non => .non
  | .bl b => .bl b
  | .int i => .int i
  | .str s => .str s
  | .dct n => .dct n
  | .src => .src
  | .scr => .scr
def brws : List PV → List PV
  | [] => []
  | x :: xs => brw x :: brws xs
end

mutual
/-- an owned list given away for good -/
def frz : PV → PV
  | .lst .o xs => .lst .f (frzs xs)
  | .lst .f xs => .lst .f xs
  | .lst .b xs => .lst .b xs
  | .lst .t xs => .lst .t xs
  | .tup xs => .tup xs
  | .non => .non
  | .bl b => .bl b
  | .int i => .int i
  | .str s => .str s
  | .dct n => .dct n
  | .src => .src
  | .scr => .scr
def frzs : List PV → List PV
  | [] => []
  | x :: xs => frz x :: frzs xs
end

mutual
/-- no borrowed list within -/
def nob : PV → Bool
  | .lst .b _ => false
  | .lst .t _ => false
  | .lst .o xs => nobs xs
  | .lst .f xs => nobs xs
  | .tup xs => nobs xs
  | .non => true
  | .bl _ => true
  | .int _ => true
  | .str _ => true
  | .dct _ => true
  | .src => true
  | .scr => true
def nobs : List PV → Bool
  | [] => true
  | x :: xs => nob x && nobs xs
end

/-- no owned list -/
def noO : PV → Bool
  | .lst .o _ => false
  | .lst .b _ => true
  | .lst .t _ => true
  | .lst .f _ => true
  | .tup _ => true
  | .non => true
  | .bl _ => true
  | .int _ => true
  | .str _ => true
  | .dct _ => true
  | .src => true
  | .scr => true
mutual
/-- a slot's own list within -/
def hasT : PV → Bool
  | .lst .t _ => true
  | .lst .b _ => false
  | .lst .o xs => hasTs xs
  | .lst .f _ => false
  | .tup xs => hasTs xs
  | .non => false
  | .bl _ => false
  | .int _ => false
  | .str _ => false
  | .dct _ => false
  | .src => false
  | .scr => false
def hasTs : List PV → Bool
  | [] => false
  | x :: xs => hasT x || hasTs xs
end

mutual
/-- a slot's own list seen from elsewhere -/
def unT : PV → PV
  | .lst .t xs => .lst .b xs
  | .lst .b xs => .lst .b xs
  | .lst .o xs => .lst .o (unTs xs)
  | .lst .f xs => .lst .f xs
  | .tup xs => .tup (unTs xs)
  | .non => .non
  | .bl b => .bl b
  | .int i => .int i
  | .str s => .str s
  | .dct n => .dct n
  | .src => .src
  | .scr => .scr
def unTs : List PV → List PV
  | [] => []
  | x :: xs => unT x :: unTs xs
end

/-- a slot read -/
def rdV : PV → PV
  | .lst .o xs => .lst .t (brws xs)
  | v => v
/-- what is within an owned list is given away -/
def inn : PV → PV
  | .lst .o xs => .lst .o (brws xs)
  | v => v

/-- the dicts, by their numbers -/
structure St where
  ds : List (List (PV × PV))
  op : Bool

structure Ex where
  cls : Nat
  arg : PV

inductive R (α : Type) where
  | ok (a : α) (s : St)
  | ex (e : Ex) (s : St)
  | bad
  | ask (n : Nat) (k : Nat → R α)

def R.bind {α β : Type} : R α → (α → St → R β) → R β
  | .ok a s, f => f a s
  | .ex e s, _ => .ex e s
  | .bad, _ => .bad
  | .ask n k, f => .ask n fun i => (k i).bind f

inductive BOp | add | sub | mul | fdiv | mod | pow | shl | shr | band
deriving DecidableEq
inductive COp | eq | ne | lt | le | gt | ge | isN | notN | inn | nin
deriving DecidableEq
inductive Blt | len | tuple | list | sum | max | min | abs | int | sorted | repr | any | all | str | dict
deriving DecidableEq
inductive Mth | count | index | get
deriving DecidableEq
inductive Ty | int | bool | str | tuple | list | dict
deriving DecidableEq

/-- targets -/
inductive Tg where
  | v (i : Nat)
  | t (l : List Tg)

inductive ME where
  | nil
  | non | bl (b : Bool) | int (i : Int) | str (s : Str)
  | var (i : Nat)
  | glo (i : Int)
  | bin (o : BOp) (a b : ME) | neg (a : ME) | nt (a : ME)
  | cmp (o : COp) (a b : ME) | chn (o p : COp) (a b c : ME)
  | and (a b : ME) | or (a b : ME) | ite (c a b : ME)
  | tup (es : List ME) | lst (es : List ME) | star (a : ME)
  | idx (a i : ME) | slc (a : ME) (l : Bool) (lo : ME) (h : Bool) (hi : ME) | rev (a : ME)
  | call (f : Nat) (es : List ME)
  | blt (b : Blt) (es : List ME)
  | mth (m : Mth) (a : ME) (es : List ME)
  | lc (tg : Tg) (own : List Nat) (it : ME) (hc : Bool) (c e : ME)
  | dic (es : List ME)
  | isi (a : ME) (t : Ty)
  | rg1 (a : ME) | rg2 (a b : ME) | rg3 (a b c : ME) | enu (a : ME) | zp (a b : ME) | ezp (a b : ME) | itm (a : ME) | sq (a : ME)
  | pick (a n : ME) | opn (a : ME)
  | lrg (it : ME)
  | dcm (tg : Tg) (own : List Nat) (it : ME) (hc : Bool) (c k v : ME)

/-- places of a simultaneous assignment -/
inductive Pl where
  | v (i : Nat)
  | s (i : Nat) (path : List ME) (ix : ME)

inductive MS where
  | asg (i : Nat) (e : ME)
  | unp (tg : Tg) (e : ME)
  | par (ps : List Pl) (es : List ME)
  | set (i : Nat) (path : List ME) (ix : ME) (e : ME)
  | app (i : Nat) (path : List ME) (e : ME)
  | ext (i : Nat) (path : List ME) (e : ME)
  | pop (y : Nat) (i : Nat) (path : List ME)
  | upd (a : ME) (e : ME)
  | exp (e : ME)
  | ite (c : ME) (a b : List MS)
  | for (tg : Tg) (it : ME) (body : List MS)
  | while (c : ME) (body : List MS)
  | ret (e : ME)
  | brk | cont | pass
  | raise (c : Nat) (es : List ME)
  | shuf (i : Nat) (a : ME)
  | mov (i j : Nat) | lnd (i : Nat)
  | ded
  | rem (i : Nat) (path : List ME) (e : ME)
  | fdi (tg : Tg) (it : Bool) (i : Nat) (body : List MS)

/-! ### operations by values -/
def okV {α : Type} (o : Option α) (s : St) : R α := match o with | some a => .ok a s | none => .bad

def sub1 (b : PV) : Int → PV := fun j => match b with | .int i => .int (i - j) | _ => .non

/-- an int product within the bounds that are carried -/
def mulOk (i j : Int) : Bool := decide (i.natAbs < 2 ^ 64) || decide (j.natAbs < 2 ^ 64) || (decide (i.natAbs < 2 ^ 4000) && decide (j.natAbs < 2 ^ 4000))
def bop (o : BOp) (a b : PV) : Option PV :=
  match o, a, b with
  | .add, .int i, .int j => some (.int (i + j))
  | .add, .tup xs, .tup ys => if xs.length + ys.length ≤ sizeLine then some (.tup (xs ++ ys)) else none
  | .add, .lst _ xs, .lst _ ys => if xs.length + ys.length ≤ sizeLine then some (.lst .o (brws xs ++ brws ys)) else none
  | .add, .str x, .str y => if x.length + y.length ≤ sizeLine then some (.str (x ++ y)) else none
  | .sub, .int i, .int j => some (.int (i - j))
  | .mul, .int i, .int j => if mulOk i j then some (.int (i * j)) else none
  | .mul, .lst _ xs, .int j => if decide (-(2 ^ 63) ≤ j) && decide (j < 2 ^ 63) && decide (xs.length * j.toNat ≤ sizeLine) then some (.lst .o (List.replicate j.toNat (brws xs)).flatten) else none
  | .mul, .tup xs, .int j => if decide (j = 1) || (decide (0 < xs.length) && decide (2 ≤ j) && decide (j ≤ 1000) && decide (xs.length ≤ 1000)) then some (.tup (List.replicate j.toNat xs).flatten) else none
  | .fdiv, .int i, .int j => if decide (0 < j) && decide (j.natAbs < 2 ^ 4000) then some (.int (i / j)) else none
  | .mod, .int i, .int j => if decide (0 < j) then some (.int (i % j)) else none
  | .pow, .int i, .int j => if decide (0 ≤ j) && decide (j ≤ 1000000) && decide (i.natAbs < 2 ^ 64) then some (.int (i ^ j.toNat)) else none
  | .shl, .int i, .int j => if decide (0 ≤ j) && decide (j ≤ 1000000) && decide (i.natAbs < 2 ^ 64) then some (.int (i * 2 ^ j.toNat)) else none
  | .shr, .int i, .int j => if decide (0 ≤ j) then some (.int (i / 2 ^ j.toNat)) else none
  | .band, .int i, .int j => some (.int (Builtin.bitAnd i j))
  | _, _, _ => none

def eqP (a b : PV) : Bool := PyData.eqv (toD a) (toD b)
def memP (a : PV) : List PV → Bool
  | [] => false
  | x :: xs => eqP x a || memP a xs

mutual
/-- < of ints, texts, tuples of such -/
def ltD : PyData → PyData → Option Bool
  | .int i, .int j => some (decide (i < j))
  | .str x, .str y => some (decide (x.cps.toList < y.cps.toList))
  | .tuple xs, .tuple ys => ltDs xs ys
  | _, _ => none
def ltDs : List PyData → List PyData → Option Bool
  | [], [] => some false
  | [], _ :: _ => some true
  | _ :: _, [] => some false
  | x :: xs, y :: ys => match ltD x y, ltDs xs ys with
    | some a, some b => some (if PyData.eqv x y then b else a)
    | _, _ => none
end
def ltP (a b : PV) : Option Bool := ltD (toD a) (toD b)

/-- the kind of a key: 1 a number or a text, 2 a tuple of such, 0 another -/
def kd1 : PV → Bool
  | .int _ => true
  | .str _ => true
  | _ => false
def kd : PV → Nat
  | .int _ => 1
  | .str _ => 1
  | .tup xs => if xs.all kd1 then 2 else 0
  | _ => 0
def kdOk (k : PV) : List (PV × PV) → Bool
  | [] => kd k != 0
  | (x, _) :: _ => kd k != 0 && kd x == kd k

def dhas (k : PV) : List (PV × PV) → Bool
  | [] => false
  | (x, _) :: r => eqP x k || dhas k r
def dget (k : PV) : List (PV × PV) → Option PV
  | [] => none
  | (x, v) :: r => if eqP x k then some v else dget k r
def dput (k v : PV) (d : List (PV × PV)) : List (PV × PV) := if dhas k d then d.map (fun p => if eqP p.1 k then (p.1, v) else p) else d ++ [(k, v)]

/-- a dict that is walked: a mark ahead of its items -/
def mkd (d : List (PV × PV)) : List (PV × PV) := (.scr, .scr) :: d
def isMk : List (PV × PV) → Bool
  | (.scr, _) :: _ => true
  | _ => false
/-- asked while it is walked -/
def dglO (k : PV) : List (PV × PV) → Option (Option PV)
  | (.scr, _) :: p :: r => if kdOk k (p :: r) then some (dget k (p :: r)) else none
  | _ => none
def dgl (k : PV) (d : List (PV × PV)) : Option PV := match dglO k d with | some o => o | none => none
def St.dat (s : St) (n : Nat) : Option (List (PV × PV)) := s.ds[n]?
def St.dset (s : St) (n : Nat) (d : List (PV × PV)) : St := { s with ds := s.ds.set n d }
def St.dnew (s : St) (d : List (PV × PV)) : St := { s with ds := s.ds ++ [d] }

def isNonB : PV → Bool
  | .non => true
  | _ => false
def cop (o : COp) (a b : PV) (s : St) : Option Bool :=
  match o with
  | .eq => if shp 30 a && shp 30 b then some (eqP a b) else none
  | .ne => if shp 30 a && shp 30 b then some (!eqP a b) else none
  | .lt => if shp 30 a && shp 30 b then ltP a b else none
  | .le => match a, b with | .int i, .int j => some (decide (i ≤ j)) | _, _ => none
  | .gt => match a, b with | .int i, .int j => some (decide (j < i)) | _, _ => none
  | .ge => match a, b with | .int i, .int j => some (decide (j ≤ i)) | _, _ => none
  | .isN => match b with | .non => some (isNonB a) | .bl y => (match a with | .bl x => some (decide (x = y)) | _ => none) | _ => none
  | .notN => match b with | .non => some (!isNonB a) | .bl y => (match a with | .bl x => some (!decide (x = y)) | _ => none) | _ => none
  | .inn => match b with
    | .tup xs => if shp 30 a && shps 30 xs then some (memP a xs) else none
    | .lst _ xs => if shp 30 a && shps 30 xs then some (memP a xs) else none
    | .dct n => match s.dat n with | some d => if kdOk a d then some (dhas a d) else none | none => none
    | _ => none
  | .nin => match b with
    | .tup xs => if shp 30 a && shps 30 xs then some (!memP a xs) else none
    | .lst _ xs => if shp 30 a && shps 30 xs then some (!memP a xs) else none
    | .dct n => match s.dat n with | some d => if kdOk a d then some (!dhas a d) else none | none => none
    | _ => none

/-- the place of an index -/
def ixOf (n : Nat) (i : Int) : Option Nat := if 0 ≤ i then (if i < n then some i.toNat else none) else if -(n : Int) ≤ i then some (i + n).toNat else none
def atP (xs : List PV) (i : Int) : Option PV := (ixOf xs.length i).bind fun j => xs[j]?
def idxP (a i : PV) (s : St) : Option PV :=
  match a, i with
  | .tup xs, .int k => atP xs k
  | .lst _ xs, .int k => (atP xs k).map brw
  | .str z, .int k => if z.length ≤ sizeLine then (ixOf z.cps.toList.length k).bind fun j => (z.cps.toList[j]?).map fun c => .str ⟨#[c]⟩ else none
  | .dct n, k => match s.dat n with | some d => if kdOk k d then dget k d else dgl k d | none => none
  | _, _ => none
def clipP (n d : Nat) : Option Int → Nat
  | none => d
  | some v => if v < 0 then (v + n).toNat else min v.toNat n
def cutP {α : Type} (xs : List α) (lo hi : Option Int) : List α := (xs.drop (clipP xs.length 0 lo)).take (clipP xs.length xs.length hi - clipP xs.length 0 lo)
def slcP (a : PV) (lo hi : Option Int) : Option PV :=
  match a with
  | .tup xs => some (.tup (cutP xs lo hi))
  | .lst _ xs => some (.lst .o (brws (cutP xs lo hi)))
  | .str z => if z.length ≤ sizeLine then some (.str ⟨(cutP z.cps.toList lo hi).toArray⟩) else none
  | _ => none
def revP : PV → Option PV
  | .tup xs => some (.tup xs.reverse)
  | .lst _ xs => some (.lst .o (brws xs.reverse))
  | _ => none

def intsOf : List PV → Option (List Int)
  | [] => some []
  | .int i :: r => (intsOf r).map (i :: ·)
  | _ :: _ => none
def blsOf : List PV → Option (List Bool)
  | [] => some []
  | .bl i :: r => (blsOf r).map (i :: ·)
  | _ :: _ => none

/-- the items of a list or a tuple -/
def itemsOf : PV → Option (List PV)
  | .tup xs => some xs
  | .lst _ xs => some (brws xs)
  | _ => none

/-- sorted, by ltP -/
def insP (x : PV) : List PV → List PV
  | [] => [x]
  | y :: r => if ltP y x = some true then y :: insP x r else x :: y :: r
def sortP : List PV → List PV
  | [] => []
  | x :: r => insP x (sortP r)

def maxI : Int → List Int → Int
  | m, [] => m
  | m, x :: r => maxI (if x > m then x else m) r
def minI : Int → List Int → Int
  | m, [] => m
  | m, x :: r => minI (if x < m then x else m) r

def dictOf : List PV → List (PV × PV) → Option (List (PV × PV))
  | [], d => some d
  | .tup [k, v] :: r, d => if kdOk k d && nob v then dictOf r (dput k (frz v) d) else none
  | _ :: _, _ => none

mutual
/-- numbers, texts, tuples of such -/
def srtB : PV → Bool
  | .int _ => true
  | .str _ => true
  | .tup xs => srtBs xs
  | .non => false
  | .bl _ => false
  | .lst _ _ => false
  | .dct _ => false
  | .src => false
  | .scr => false
def srtBs : List PV → Bool
  | [] => true
  | x :: xs => srtB x && srtBs xs
end
/-- a tuple with an item -/
def isNE : PV → Bool
  | .tup (_ :: _) => true
  | _ => false
def isTp : PV → Bool
  | .tup _ => true
  | _ => false
def alkB (xs : List PV) : Bool := xs.all fun x => xs.all fun y => PySem.W.alike (toD x) (toD y)
def sortOk (xs : List PV) : Bool := (srtBs xs && shps 29 xs && xs.all isNE && alkB xs) || (decide (xs.length ≤ 1) && xs.all isTp)
/-- ints -/
def sortI1 (xs : List PV) (s : St) : R PV := match intsOf xs with
  | some _ => .ok (.lst .o (sortP xs)) s
  | none => .bad
/-- ints, or tuples that are alike -/
def sortV (xs : List PV) (s : St) : R PV := match intsOf xs with
  | some _ => .ok (.lst .o (sortP xs)) s
  | none => if sortOk xs then .ok (.lst .o (sortP xs)) s else .bad

/-- a pair with a number or a text ahead -/
def pairS : PV → Bool
  | .tup [k, _] => kd1 k
  | _ => false
def bltin (b : Blt) (as : List PV) (s : St) : R PV :=
  match b, as with
  | .len, [.tup xs] => .ok (.int xs.length) s
  | .len, [.lst _ xs] => .ok (.int xs.length) s
  | .len, [.str z] => if z.length ≤ sizeLine then .ok (.int z.length) s else .bad
  | .tuple, [.tup xs] => .ok (.tup xs) s
  | .tuple, [.lst _ xs] => .ok (.tup (brws xs)) s
  | .list, [.tup xs] => .ok (.lst .o xs) s
  | .list, [.lst _ xs] => .ok (.lst .o (brws xs)) s
  | .sum, [.tup xs] => match intsOf xs with | some ns => .ok (.int ns.sum) s | none => .bad
  | .sum, [.lst _ xs] => match intsOf xs with | some ns => .ok (.int ns.sum) s | none => .bad
  | .max, [.lst _ xs] => match intsOf xs with | some (m :: ns) => .ok (.int (maxI m ns)) s | _ => .bad
  | .max, [.tup xs] => match intsOf xs with | some (m :: ns) => .ok (.int (maxI m ns)) s | _ => .bad
  | .min, [.lst _ xs] => match intsOf xs with | some (m :: ns) => .ok (.int (minI m ns)) s | _ => .bad
  | .max, [.int i, .int j] => .ok (.int (if j > i then j else i)) s
  | .min, [.int i, .int j] => .ok (.int (if j < i then j else i)) s
  | .abs, [.int i] => .ok (.int (if i < 0 then -i else i)) s
  | .int, [.int i] => .ok (.int i) s
  | .int, [.bl k] => .ok (.int (if k then 1 else 0)) s
  | .sorted, [.lst _ xs] => sortV xs s
  | .sorted, [.tup xs] => sortI1 xs s
  | .repr, [a] => if shp 30 a && (toD a).showable && decide ((toD a).shown.length ≤ sizeLine) then .ok (.str (toD a).shown) s else .bad
  | .str, [.int i] => if i.natAbs.log2 < 1920 then .ok (.str (toString i)) s else .bad
  | .any, [.lst _ xs] => match blsOf xs with | some bs => .ok (.bl (bs.any id)) s | none => .bad
  | .all, [.lst _ xs] => match blsOf xs with | some bs => .ok (.bl (bs.all id)) s | none => .bad
  | .dict, [.lst _ xs] => if xs.all pairS then match dictOf (brws xs) [] with
    | some d => .ok (.dct s.ds.length) (s.dnew d)
    | none => .bad else .bad
  | _, _ => .bad

def mthOk (m : Mth) (x : PV) (s : St) : Bool := match m, x with
  | .get, .dct n => (s.dat n).isSome
  | .get, _ => false
  | _, _ => true
def methd (m : Mth) (a : PV) (as : List PV) (s : St) : R PV :=
  match m, a, as with
  | .count, .tup xs, [x] => if shp 30 x && shps 30 xs then .ok (.int (xs.countP fun y => eqP y x)) s else .bad
  | .count, .lst _ xs, [x] => if shp 30 x && shps 30 xs then .ok (.int (xs.countP fun y => eqP y x)) s else .bad
  | .index, .tup xs, [x] => if shp 30 x && shps 30 xs then okV ((xs.findIdx? fun y => eqP y x).map fun k => .int k) s else .bad
  | .index, .lst _ xs, [x] => if shp 30 x && shps 30 xs then okV ((xs.findIdx? fun y => eqP y x).map fun k => .int k) s else .bad
  | .get, .dct n, [k, v] => if nob v && noO v then match s.dat n with | some d => if kdOk k d then .ok ((dget k d).getD v) s else (match dglO k d with | some o => .ok (o.getD v) s | none => .bad) | none => .bad else .bad
  | _, _, _ => .bad

def isTy : PV → Ty → Option Bool
  | .int _, t => some (t = .int)
  | .bl _, t => some (t = .bool ∨ t = .int)
  | .str _, t => some (t = .str)
  | .tup _, t => some (t = .tuple)
  | .lst _ _, t => some (t = .list)
  | .dct _, t => some (t = .dict)
  | .non, _ => some false
  | _, _ => none

def unmk (x : PV) (s : St) : Bool := match x with
  | .dct n => match s.dat n with | some d => !isMk d | none => false
  | _ => false
/-- .. a dict that is walked is not asked -/
def isTyS (x : PV) (t : Ty) (s : St) : Option Bool := match x with
  | .dct n => match s.dat n with | some d => if isMk d then none else isTy x t | none => none
  | _ => isTy x t

/-! ### evaluation -/
abbrev Env := List (Option PV)

mutual
/-- a value into a target: fresh values by their slots -/
def bindT : Tg → PV → Env → Option Env
  | .v i, x, e => if i < e.length then some (e.set i (some x)) else none
  | .t l, .tup xs, e => bindTs l xs e
  | .t l, .lst _ xs, e => bindTs l (brws xs) e
  | .t _, _, _ => none
def bindTs : List Tg → List PV → Env → Option Env
  | [], [], e => some e
  | t :: l, x :: xs, e => (bindT t x e).bind fun e' => bindTs l xs e'
  | _, _, _ => none
end

def wipeE (e : Env) : List Nat → Env
  | [] => e
  | v :: vs => (wipeE e vs).set v none

def enumP : Nat → List PV → List PV
  | _, [] => []
  | i, x :: r => .tup [.int i, x] :: enumP (i + 1) r
def rngP (a : Int) : Nat → List PV
  | 0 => []
  | n + 1 => .int a :: rngP (a + 1) n
def rng3P (a c : Int) : Nat → List PV
  | 0 => []
  | n + 1 => .int a :: rng3P (a + c) c n
def zipP : List PV → List PV → List PV
  | x :: xs, y :: ys => .tup [x, y] :: zipP xs ys
  | _, _ => []

/-- what a loop over items makes; exceptions don't leave -/
def lcL (f : PV → St → R (Option PV)) : List PV → St → R (List PV)
  | [], s => .ok [] s
  | x :: r, s => (f x s).bind fun o s1 => (lcL f r s1).bind fun zs s2 => .ok (match o with | some z => z :: zs | none => zs) s2

def noEx {α : Type} : R α → R α
  | .ok a s => .ok a s
  | .ex _ _ => .bad
  | .bad => .bad
  | .ask n k => .ask n fun i => noEx (k i)

def partI (x : PV) (s : St) : R (Option Int) := match x with | .int i => .ok (some i) s | _ => .bad
def condB (x : PV) (s : St) : R Bool := match x with | .bl k => .ok k s | _ => .bad
def pairUp : List PV → Option (List PV)
  | [] => some []
  | [_] => none
  | k :: v :: r => (pairUp r).map (PV.tup [k, v] :: ·)

def smallI (i : Int) : Bool := decide (i.natAbs < 2 ^ 62)

section
variable (F : Nat → List PV → St → R PV)

mutual
def ev : ME → Env → St → R PV
  | .nil, _, _ => .bad
  | .non, _, s => .ok .non s
  | .bl b, _, s => .ok (.bl b) s
  | .int i, _, s => .ok (.int i) s
  | .str x, _, s => .ok (.str x) s
  | .glo i, _, s => .ok (.int i) s
  | .var i, e, s => match e[i]? with | some (some v) => .ok (rdV v) s | _ => .bad
  | .bin o a b, e, s => (ev a e s).bind fun x s1 => (ev b e s1).bind fun y s2 => okV (bop o x y) s2
  | .neg a, e, s => (ev a e s).bind fun x s1 => match x with | .int i => .ok (.int (-i)) s1 | _ => .bad
  | .nt a, e, s => (ev a e s).bind fun x s1 => match x with | .bl c => .ok (.bl (!c)) s1 | _ => .bad
  | .cmp o a b, e, s => (ev a e s).bind fun x s1 => (ev b e s1).bind fun y s2 => okV ((cop o x y s2).map .bl) s2
  | .chn o p a b c, e, s => (ev a e s).bind fun x s1 => (ev b e s1).bind fun y s2 => match cop o x y s2 with
    | some true => (ev c e s2).bind fun z s3 => okV ((cop p y z s3).map .bl) s3
    | some false => .ok (.bl false) s2
    | none => .bad
  | .and a b, e, s => (ev a e s).bind fun x s1 => match x with | .bl true => ev b e s1 | .bl false => .ok (.bl false) s1 | _ => .bad
  | .or a b, e, s => (ev a e s).bind fun x s1 => match x with | .bl false => ev b e s1 | .bl true => .ok (.bl true) s1 | _ => .bad
  | .ite c a b, e, s => (ev c e s).bind fun x s1 => match x with | .bl true => ev a e s1 | .bl false => ev b e s1 | _ => .bad
  | .tup es, e, s => (evs es e s).bind fun xs s1 => if xs.length ≤ sizeLine then .ok (.tup (brws xs)) s1 else .bad
  | .lst es, e, s => (evs es e s).bind fun xs s1 => if xs.length ≤ sizeLine then .ok (.lst .o xs) s1 else .bad
  | .star _, _, _ => .bad
  | .idx a i, e, s => (ev a e s).bind fun x s1 => (ev i e s1).bind fun y s2 => okV (idxP x y s2) s2
  | .slc a l lo h hi, e, s => (ev a e s).bind fun x s1 => (if l then (ev lo e s1).bind partI else .ok none s1).bind fun y s2 => (if h then (ev hi e s2).bind partI else .ok none s2).bind fun z s3 => okV (slcP x y z) s3
  | .rev a, e, s => (ev a e s).bind fun x s1 => okV (revP x) s1
  | .call f es, e, s => (evs es e s).bind fun xs s1 => F f (brws xs) s1
  | .blt b es, e, s => (evs es e s).bind fun xs s1 => bltin b xs s1
  | .mth m a es, e, s => (ev a e s).bind fun x s1 => if mthOk m x s1 then (evs es e s1).bind fun xs s2 => methd m x xs s2 else .bad
  | .lc tg own it hc c t, e, s => (evi it e s).bind fun q s1 => if q.1.length ≤ sizeLine then (noEx (lcL (fun x s2 => match bindT tg x (wipeE e own) with
      | none => .bad
      | some e2 => (if hc then (ev c e2 s2).bind condB else .ok true s2).bind fun k s3 => if k then (ev t e2 s3).bind fun z s4 => .ok (some z) s4 else .ok none s3) q.1 s1)).bind fun zs s5 => .ok (.lst .o zs) s5 else .bad
  | .dic es, e, s => (evs es e s).bind fun ps s1 => match (pairUp ps).bind fun qs => dictOf qs [] with
    | some d => .ok (.dct s1.ds.length) (s1.dnew d)
    | none => .bad
  | .isi a t, e, s => (ev a e s).bind fun x s1 => okV ((isTyS x t s1).map .bl) s1
  | .rg1 _, _, _ => .bad
  | .rg2 _ _, _, _ => .bad
  | .rg3 _ _ _, _, _ => .bad
  | .enu _, _, _ => .bad
  | .zp _ _, _, _ => .bad
  | .ezp _ _, _, _ => .bad
  | .itm _, _, _ => .bad
  | .sq _, _, _ => .bad
  | .pick a n, e, s => (ev a e s).bind fun x s1 => (ev n e s1).bind fun y s2 => match x, y with
    | .src, .int k => if k ≤ 1000000 then .ask (max 1 k.toNat) fun i => .ok (.int i) s2 else .bad
    | _, _ => .bad
  | .opn a, e, s => (ev a e s).bind fun x s1 => match x with | .scr => if s1.op then .bad else .ok .src { s1 with op := true } | _ => .bad
  | .lrg it, e, s => (evi it e s).bind fun q s1 => .ok (.lst .o q.1) s1
  | .dcm tg own it hc c k v, e, s => (evi it e s).bind fun q s1 => (noEx (lcL (fun x s2 => match bindT tg x (wipeE e own) with
      | none => .bad
      | some e2 => (if hc then (ev c e2 s2).bind condB else .ok true s2).bind fun b s3 => if b then (ev k e2 s3).bind fun y s4 => (ev v e2 s4).bind fun z s5 => .ok (some (.tup [y, frz z])) s5 else .ok none s3) q.1 s1)).bind fun zs s5 => match dictOf zs [] with
    | some d => .ok (.dct s5.ds.length) (s5.dnew d)
    | none => .bad
def evs : List ME → Env → St → R (List PV)
  | [], _, s => .ok [] s
  | .star a :: r, e, s => (ev a e s).bind fun x s1 => match itemsOf x with
    | some ys => (evs r e s1).bind fun zs s2 => .ok (ys ++ zs) s2
    | none => .bad
  | a :: r, e, s => (ev a e s).bind fun x s1 => (evs r e s1).bind fun zs s2 => .ok (x :: zs) s2
/-- what a for walks; whether nothing borrowed is walked -/
def evi : ME → Env → St → R (List PV × Bool)
  | .rg1 a, e, s => (ev a e s).bind fun x s1 => match x with
    | .int n => if smallI n then .ok (rngP 0 n.toNat, true) s1 else .bad
    | _ => .bad
  | .rg2 a b, e, s => (ev a e s).bind fun x s1 => (ev b e s1).bind fun y s2 => match x, y with
    | .int i, .int j => if smallI i && smallI j then .ok (rngP i (j - i).toNat, true) s2 else .bad
    | _, _ => .bad
  | .rg3 a b c, e, s => (ev a e s).bind fun x s1 => (ev b e s1).bind fun y s2 => (ev c e s2).bind fun z s3 => match x, y, z with
    | .int i, .int j, .int k => if smallI i && smallI j then (if k = -1 then .ok (rng3P i (-1) (i - j).toNat, true) s3 else .bad) else .bad
    | _, _, _ => .bad
  | .enu a, e, s => (ev a e s).bind fun x s1 => match itemsOf x with
    | some xs => .ok (enumP 0 xs, nob x) s1
    | none => .bad
  | .zp a b, e, s => (ev a e s).bind fun x s1 => (ev b e s1).bind fun y s2 => match itemsOf x, itemsOf y with
    | some xs, some ys => .ok (zipP xs ys, nob x && nob y) s2
    | _, _ => .bad
  | .ezp a b, e, s => (ev a e s).bind fun x s1 => (ev b e s1).bind fun y s2 => match itemsOf x, itemsOf y with
    | some xs, some ys => .ok (enumP 0 (zipP xs ys), nob x && nob y) s2
    | _, _ => .bad
  | .itm a, e, s => (ev a e s).bind fun x s1 => match x with
    | .dct n => match s1.dat n with
      | some d => .ok (d.map fun p => .tup [p.1, p.2], true) s1
      | none => .bad
    | _ => .bad
  | .sq a, e, s => (ev a e s).bind fun x s1 => match x with
    | .tup xs => .ok (xs, nob x) s1
    | .lst _ xs => .ok (brws xs, nob x) s1
    | .str z => .ok (z.cps.toList.map fun c => .str ⟨#[c]⟩, true) s1
    | _ => .bad
  | _, _, _ => .bad
end

mutual
/-- the slots that an expression reads -/
def fv : ME → List Nat
  | .var i => [i]
  | .bin _ a b => fv a ++ fv b
  | .neg a => fv a
  | .nt a => fv a
  | .cmp _ a b => fv a ++ fv b
  | .chn _ _ a b c => fv a ++ fv b ++ fv c
  | .and a b => fv a ++ fv b
  | .or a b => fv a ++ fv b
  | .ite c a b => fv c ++ fv a ++ fv b
  | .tup es => fvs es
  | .lst es => fvs es
  | .star a => fv a
  | .idx a i => fv a ++ fv i
  | .slc a _ lo _ hi => fv a ++ fv lo ++ fv hi
  | .rev a => fv a
  | .call _ es => fvs es
  | .blt _ es => fvs es
  | .mth _ a es => fv a ++ fvs es
  | .lc _ _ it _ c e => fv it ++ fv c ++ fv e
  | .dic es => fvs es
  | .isi a _ => fv a
  | .rg1 a => fv a
  | .rg2 a b => fv a ++ fv b
  | .rg3 a b c => fv a ++ fv b ++ fv c
  | .enu a => fv a
  | .zp a b => fv a ++ fv b
  | .ezp a b => fv a ++ fv b
  | .itm a => fv a
  | .sq a => fv a
  | .pick a n => fv a ++ fv n
  | .nil => []
  | .non => []
  | .bl _ => []
  | .int _ => []
  | .str _ => []
  | .glo _ => []
  | .opn a => fv a
  | .lrg it => fv it
  | .dcm _ _ it _ c k v => fv it ++ fv c ++ fv k ++ fv v
def fvs : List ME → List Nat
  | [] => []
  | a :: r => fv a ++ fvs r
end

/-- slots given away, wholly or what is within -/
def giveA (f : PV → PV) (vs : List Nat) : Nat → Env → Env
  | _, [] => []
  | i, o :: r => (if vs.contains i then o.map f else o) :: giveA f vs (i + 1) r
/-- behind a value that an expression over the slots vs made -/
def esc (v : PV) (vs : List Nat) (e : Env) : Env := if nob v then e else giveA brw vs 0 e

inductive Fl where
  | nx (e : Env)
  | rt (v : PV)
  | bk (e : Env)
  | ct (e : Env)

/-- an owned list within an owned one -/
def modP (f : List PV → Option (List PV)) : List Int → PV → Option PV
  | [], .lst .o xs => (f xs).map (PV.lst .o ·)
  | k :: p, .lst .o xs => (ixOf xs.length k).bind fun j => (xs[j]?).bind fun y => (modP f p y).map fun z => .lst .o (xs.set j z)
  | _, _ => none
def setF (ix : Int) (v : PV) (xs : List PV) : Option (List PV) := (ixOf xs.length ix).map fun j => xs.set j v
def appF (v : PV) (xs : List PV) : Option (List PV) := if xs.length < sizeLine then some (xs ++ [v]) else none
def extF (ys : List PV) (xs : List PV) : Option (List PV) := if xs.length + ys.length ≤ sizeLine then some (xs ++ ys) else none
/-- without the first k -/
def rem1 (k : Int) : List Int → List Int
  | [] => []
  | y :: r => if y = k then r else y :: rem1 k r
def remF (k : Int) (xs : List PV) : Option (List PV) := match intsOf xs with
  | some ns => if ns.contains k then some ((rem1 k ns).map PV.int) else none
  | none => none
def popF (xs : List PV) : Option (List PV) := if xs = [] then none else some xs.dropLast
def getP : List Int → PV → Option PV
  | [], v => some v
  | k :: p, .lst .o xs => (atP xs k).bind (getP p)
  | _, _ => none

/-- a path to an owned list -/
def okP : List Int → PV → Bool
  | [], .lst .o _ => true
  | k :: p, .lst .o xs => match (ixOf xs.length k).bind (xs[·]?) with
    | some y => okP p y
    | none => false
  | _, _ => false
def intP (x : PV) (s : St) : R Int := match x with | .int i => .ok i s | _ => .bad

end

section
variable (F : Nat → List PV → St → R PV)
def evp (x : PV) : List ME → Env → St → R (List Int)
  | [], _, s => if okP [] x then .ok [] s else .bad
  | a :: r, e, s => (evp x r e s).bind fun z s1 => (ev F a e s1).bind fun y s2 => (intP y s2).bind fun i s3 => if okP (z ++ [i]) x then .ok (z ++ [i]) s3 else .bad

/-- x[..][ix] = v, a list or a dict -/
def stor (i : Nat) (path : List ME) (ix : ME) (v : PV) (e : Env) (s : St) : R Env :=
  match e[i]? with
  | some (some (.dct n)) => match path with
    | [] => (ev F ix e s).bind fun k s1 => match s1.dat n with
      | some d => if kdOk k d && nob v && noO v && decide (d.length < sizeLine) then .ok e (s1.dset n (dput k v d)) else .bad
      | none => .bad
    | _ => .bad
  | some (some x) => (evp F x path e s).bind fun p s1 => (ev F ix e s1).bind fun k s2 => (intP k s2).bind fun j s3 => match modP (setF j v) p x with
      | some y => .ok (e.set i (some y)) s3
      | none => .bad
  | _ => .bad
def plc (p : Pl) (v : PV) (e : Env) (s : St) : R Env :=
  match p with
  | .v i => if i < e.length then .ok (e.set i (some v)) s else .bad
  | .s i path ix => stor F i path ix v e s
def plcs : List Pl → List PV → Env → St → R Env
  | [], [], e, s => .ok e s
  | p :: ps, v :: vs, e, s => (plc F p v e s).bind fun e1 s1 => plcs ps vs e1 s1
  | _, _, _, _ => .bad

/-- a slot named alone: what it holds is given on as it is -/
def evm (a : ME) (e : Env) (s : St) : R PV :=
  match a with
  | .var i => match e[i]? with | some (some v) => .ok v s | _ => .bad
  | _ => ev F a e s

def forL (body : PV → Env → St → R Fl) : List PV → Env → St → R Fl
  | [], e, s => .ok (.nx e) s
  | x :: r, e, s => (body x e s).bind fun f s1 => match f with
    | .nx e1 => forL body r e1 s1
    | .ct e1 => forL body r e1 s1
    | .bk e1 => .ok (.nx e1) s1
    | .rt v => .ok (.rt v) s1
def whileL (test : Env → St → R PV) (body : Env → St → R Fl) : Nat → Env → St → R Fl
  | 0, _, _ => .bad
  | n + 1, e, s => (test e s).bind fun c s1 => match c with
    | .bl false => .ok (.nx e) s1
    | .bl true => (body e s1).bind fun f s2 => match f with
      | .nx e1 => whileL test body n e1 s2
      | .ct e1 => whileL test body n e1 s2
      | .bk e1 => .ok (.nx e1) s2
      | .rt v => .ok (.rt v) s2
    | _ => .bad
/-- behind a walk the dict is as it was -/
def lockR (n : Nat) (d : List (PV × PV)) : R Fl → R Fl
  | .ok f s => .ok f (s.dset n d)
  | .ex _ _ => .bad
  | .bad => .bad
  | .ask k f => .ask k fun i => lockR n d (f i)
/-- a list popped at drawn places until it is empty -/
def shufL : Nat → List PV → St → R (List PV)
  | 0, _, s => .ok [] s
  | n + 1, xs, s => .ask (n + 1) fun i => match xs[i]? with
    | some v => (shufL n (xs.eraseIdx i) s).bind fun zs s1 => .ok (v :: zs) s1
    | none => .bad
/-- turns that a while may take -/
def turns : Nat := 100000

mutual
def ex : MS → Env → St → R Fl
  | .asg i a, e, s => (ev F a e s).bind fun v s1 => if i < e.length then .ok (.nx ((esc v (fv a) e).set i (some v))) s1 else .bad
  | .unp tg a, e, s => (ev F a e s).bind fun v s1 => match bindT tg (brw v) (esc v (fv a) e) with
    | some e1 => .ok (.nx e1) s1
    | none => .bad
  | .par ps es, e, s => (evs F es e s).bind fun vs s1 => (plcs F ps vs (esc (.tup vs) (fvs es) e) s1).bind fun e1 s2 => .ok (.nx e1) s2
  | .set i path ix a, e, s => (ev F a e s).bind fun v s1 => (stor F i path ix v (esc v (fv a) e) s1).bind fun e1 s2 => .ok (.nx e1) s2
  | .app i path a, e, s => match e[i]? with
    | some (some x) => (evp F x path e s).bind fun p s0 => (ev F a e s0).bind fun v s1 => match (esc v (fv a) e)[i]? with
      | some (some x1) => match modP (appF v) p x1 with
        | some y => .ok (.nx ((esc v (fv a) e).set i (some y))) s1
        | none => .bad
      | _ => .bad
    | _ => .bad
  | .ext i path a, e, s => match e[i]? with
    | some (some x) => (evp F x path e s).bind fun p s0 => (ev F a e s0).bind fun v s1 => match v with
      | .lst _ ys => if ys.all noO then match (esc v (fv a) e)[i]? with
        | some (some x1) => match modP (extF (brws ys)) p x1 with
          | some y => .ok (.nx ((esc v (fv a) e).set i (some y))) s1
          | none => .bad
        | _ => .bad else .bad
      | _ => .bad
    | _ => .bad
  | .rem i path a, e, s => match e[i]? with
    | some (some x) => (evp F x path e s).bind fun p s0 => (ev F a e s0).bind fun v s1 => match v with
      | .int k => match (esc v (fv a) e)[i]? with
        | some (some x1) => match modP (remF k) p x1 with
          | some y => .ok (.nx ((esc v (fv a) e).set i (some y))) s1
          | none => .bad
        | _ => .bad
      | _ => .bad
    | _ => .bad
  | .pop y i path, e, s => match path, e[i]? with
    | [], some (some (.lst .o xs)) => match xs.getLast? with
      | some v => if y < e.length ∧ y ≠ i ∧ (xs.all noO && nob v) = true then .ok (.nx ((e.set i (some (.lst .o xs.dropLast))).set y (some v))) s else .bad
      | none => .bad
    | _, _ => .bad
  | .upd a b, e, s => (ev F a e s).bind fun x s1 => if unmk x s1 then (ev F b e s1).bind fun y s2 => match x, y with
    | .dct n, .dct m => match s2.dat n, s2.dat m with
      | some d, some d' => if d.length + d'.length ≤ sizeLine ∧ n ≠ m ∧ (d'.all (fun p => kd1 p.1) && d.all (fun p => kd1 p.1)) = true then .ok (.nx e) (s2.dset n (d'.foldl (fun d p => dput p.1 p.2 d) d)) else .bad
      | _, _ => .bad
    | _, _ => .bad else .bad
  | .exp a, e, s => (ev F a e s).bind fun v s1 => .ok (.nx (esc v (fv a) e)) s1
  | .ite c a b, e, s => (ev F c e s).bind fun x s1 => match x with
    | .bl true => exs a e s1
    | .bl false => exs b e s1
    | _ => .bad
  | .for tg it body, e, s => (evi F it e s).bind fun q s1 => forL (fun x e1 s2 => match bindT tg x e1 with
    | some e2 => exs body e2 s2
    | none => .bad) q.1 (if q.2 then e else giveA brw (fv it) 0 e) s1
  | .while c body, e, s => whileL (fun e1 s1 => ev F c e1 s1) (fun e1 s1 => exs body e1 s1) turns e s
  | .ret a, e, s => (evm F a e s).bind fun v s1 => .ok (.rt v) s1
  | .brk, e, s => .ok (.bk e) s
  | .cont, e, s => .ok (.ct e) s
  | .pass, e, s => .ok (.nx e) s
  | .raise c es, e, s => (evs F es e s).bind fun vs s1 => match vs with
    | [] => .ex ⟨c, .non⟩ s1
    | [v] => .ex ⟨c, v⟩ s1
    | _ => .bad
  | .mov i j, e, s => match e[j]? with
    | some (some v) => if i < e.length ∧ i ≠ j then .ok (.nx ((e.set j none).set i (some v))) s else .bad
    | _ => .bad
  | .lnd i, e, s => .ok (.nx (giveA brw [i] 0 e)) s
  | .ded, _, _ => .bad
  | .fdi tg it i body, e, s => match e[i]? with
    | some (some (.dct n)) => match s.dat n with
      | some d => if !isMk d && (!it || (!d.isEmpty && d.all fun p => kd1 p.1)) then lockR n d (forL (fun x e1 s2 => match bindT tg x e1 with
        | some e2 => exs body e2 s2
        | none => .bad) (d.map fun p => if it then .tup [p.1, p.2] else p.1) e (s.dset n (mkd d))) else .bad
      | none => .bad
    | _ => .bad
  | .shuf i a, e, s => (ev F a e s).bind fun x s1 => match x, e[i]? with
    | .src, some (some (.lst .o xs)) => (shufL xs.length xs s1).bind fun zs s2 => .ok (.rt (.lst .o zs)) s2
    | _, _ => .bad
def exs : List MS → Env → St → R Fl
  | [], e, s => .ok (.nx e) s
  | a :: r, e, s => (ex a e s).bind fun f s1 => match f with
    | .nx e1 => exs r e1 s1
    | g => .ok g s1
end
end

/-- a def: its parameters' number, its slots' number, its body -/
structure Fn where
  ps : Nat
  ns : Nat
  body : List MS

mutual
/-- the greatest dict's number, one more -/
def topD : PV → Nat
  | .dct n => n + 1
  | .tup xs => topDs xs
  | .lst _ xs => topDs xs
  | .non => 0
  | .bl _ => 0
  | .int _ => 0
  | .str _ => 0
  | .src => 0
  | .scr => 0
def topDs : List PV → Nat
  | [] => 0
  | x :: xs => max (topD x) (topDs xs)
end
/-- dicts that are out of reach behind a call are forgotten -/
def trim (n : Nat) (v : PV) (s : St) : St :=
  if topD v ≤ n ∧ (s.ds.take n).all (fun d => d.all fun p => decide (topD p.1 ≤ n) && decide (topD p.2 ≤ n)) = true then { s with ds := s.ds.take n } else s

def callB (d : Fn) (F : Nat → List PV → St → R PV) (vs : List PV) (s : St) : R PV :=
  if vs.length = d.ps then (exs F d.body (vs.map some ++ List.replicate (d.ns - d.ps) none) s).bind fun f s1 => match f with
    | .nx _ => .ok .non (trim s.ds.length .non s1)
    | .rt v => .ok v (trim s.ds.length v s1)
    | _ => .bad
  else .bad

/-- calls, as deep as the number -/
def run (T : List Fn) : Nat → Nat → List PV → St → R PV
  | 0, _, _, _ => .bad
  | k + 1, f, vs, s => match T[f]? with
    | some d => callB d (run T k) vs s
    | none => .bad
end Py
end

section
/-! PyB: how values of PyA stand in the layer's heap; what is wanted behind a result. -/
namespace Py
open PySem L2

structure Gh where
  fz : Addr → Prop
  tz : Addr → Prop
  ds : List Addr
  sr : Option (Addr × Addr)
  sc : Addr

mutual
inductive RV (K : W.Frag) (G : Gh) (H : Hp) : PV → V → List Addr → Prop
  | non : RV K G H .non .non []
  | bl (b : Bool) : RV K G H (.bl b) (.bl b) []
  | int (i : Int) : RV K G H (.int i) (.int i) []
  | str (x : Str) : RV K G H (.str x) (.str x) []
  | tup {a : Addr} {xs : List PV} {vs : List V} : H a = some (.tup vs) → RVs K G H xs vs [] → RV K G H (.tup xs) (.ref a) []
  | lf {a : Addr} {xs : List PV} {vs : List V} : H a = some (.lst vs) → G.fz a → RVs K G H xs vs [] → RV K G H (.lst .f xs) (.ref a) []
  | lb {a : Addr} {xs : List PV} {vs : List V} : H a = some (.lst vs) → G.tz a → RVs K G H xs vs [] → RV K G H (.lst .b xs) (.ref a) []
  | lt {a : Addr} {xs : List PV} {vs : List V} : H a = some (.lst vs) → G.tz a → RVs K G H xs vs [] → RV K G H (.lst .t xs) (.ref a) []
  | lo {a : Addr} {xs : List PV} {vs : List V} {A : List Addr} : H a = some (.lst vs) → RVs K G H xs vs A → RV K G H (.lst .o xs) (.ref a) (a :: A)
  | dct {n : Nat} {a : Addr} : G.ds[n]? = some a → RV K G H (.dct n) (.ref a) []
  | src {a c : Addr} : G.sr = some (a, c) → RV K G H .src (.ref a) []
  | scr : RV K G H .scr (.ref G.sc) []
inductive RVs (K : W.Frag) (G : Gh) (H : Hp) : List PV → List V → List Addr → Prop
  | nil : RVs K G H [] [] []
  | cons {x : PV} {v : V} {A : List Addr} {xs : List PV} {vs : List V} {B : List Addr} : RV K G H x v A → RVs K G H xs vs B → RVs K G H (x :: xs) (v :: vs) (A ++ B)
end

/-- more is known, nothing is forgotten -/
structure Le (H : Hp) (G G' : Gh) : Prop where
  fz : ∀ a, G.fz a → G'.fz a
  tz : ∀ a, G.tz a → G'.tz a
  ds : ∃ more, G'.ds = G.ds ++ more
  sr : G'.sr = G.sr ∨ (G.sr = none ∧ ∃ a c, G'.sr = some (a, c) ∧ H a = none ∧ H c = none)
  sc : G'.sc = G.sc
  nf : ∀ a, G'.fz a → G.fz a ∨ H a = none
  nt : ∀ a, G'.tz a → G.tz a ∨ H a = none
  nd : ∀ a, a ∈ G'.ds → a ∈ G.ds ∨ H a = none

/-- lists and tuples stand -/
structure Pr (G : Gh) (H H' : Hp) : Prop where
  tup : ∀ a xs, H a = some (.tup xs) → H' a = some (.tup xs)
  frz : ∀ a o u, H a = some (.frz o u) → H' a = some (.frz o u)
  lst : ∀ a xs, H a = some (.lst xs) → (∀ p c, G.sr = some (p, c) → a ≠ c) → H' a = some (.lst xs)
  dom : ∀ a, H' a = none → H a = none

theorem Pr.refl {G : Gh} {H : Hp} : Pr G H H := ⟨fun _ _ h => h, fun _ _ _ h => h, fun _ _ h _ => h, fun _ h => h⟩
theorem Le.refl {H : Hp} {G : Gh} : Le H G G := ⟨fun _ h => h, fun _ h => h, ⟨[], by simp⟩, .inl rfl, rfl, fun _ h => .inl h, fun _ h => .inl h, fun _ h => .inl h⟩
theorem Le.trans {H H1 : Hp} {G G1 G2 : Gh} (a : Le H G G1) (p : ∀ x, H1 x = none → H x = none) (b : Le H1 G1 G2) : Le H G G2 where
  fz := fun x h => b.fz x (a.fz x h)
  tz := fun x h => b.tz x (a.tz x h)
  ds := by
    obtain ⟨m, e⟩ := a.ds
    obtain ⟨m', e'⟩ := b.ds
    exact ⟨m ++ m', by rw [e', e, List.append_assoc]⟩
  sr := by
    rcases b.sr with e | ⟨e, x, c, q, n1, n2⟩
    · rcases a.sr with e' | ⟨e', x, c, q, n⟩
      · exact .inl (e.trans e')
      · exact .inr ⟨e', x, c, e.trans q, n⟩
    · rcases a.sr with e' | ⟨e', x', c', q', n⟩
      · exact .inr ⟨e'.symm.trans e, x, c, q, p _ n1, p _ n2⟩
      · rw [q'] at e; cases e
  sc := b.sc.trans a.sc
  nf := fun x h => by
    rcases b.nf x h with h | h
    · exact a.nf x h
    · exact .inr (p _ h)
  nt := fun x h => by
    rcases b.nt x h with h | h
    · exact a.nt x h
    · exact .inr (p _ h)
  nd := fun x h => by
    rcases b.nd x h with h | h
    · exact a.nd x h
    · exact .inr (p _ h)
theorem Pr.trans {H H1 H2 : Hp} {G G1 : Gh} (l : Le H G G1) (a : Pr G H H1) (b : Pr G1 H1 H2) : Pr G H H2 where
  tup := fun x xs h => b.tup x xs (a.tup x xs h)
  frz := fun x o u h => b.frz x o u (a.frz x o u h)
  lst := fun x xs h n => b.lst x xs (a.lst x xs h n) fun p c e => by
    rcases l.sr with q | ⟨_, p', c', q, _, n2⟩
    · exact n p c (q.symm.trans e)
    · rw [q] at e
      cases e
      intro z
      rw [z, n2] at h
      cases h
  dom := fun x h => a.dom x (b.dom x h)

theorem SqT.pr {K : W.Frag} {G : Gh} {H H' : Hp} {a : Addr} {xs : List V} (p : Pr G H H') (h : SqT K H a xs) : SqT K H' a xs := by
  rcases h with h | h
  · rcases h with h | ⟨o, h⟩
    · exact .inl (.inl (p.tup _ _ h))
    · exact .inl (.inr ⟨o, p.frz _ _ _ h⟩)
  · exact .inr h

/-- what a relation leans on -/
structure Keep (K : W.Frag) (G G' : Gh) (H H' : Hp) (A : List Addr) : Prop where
  tup : ∀ a xs, H a = some (.tup xs) → H' a = some (.tup xs)
  fz : ∀ a, G.fz a → G'.fz a
  tz : ∀ a, G.tz a → G'.tz a
  lst : ∀ a xs, H a = some (.lst xs) → (G.fz a ∨ G.tz a ∨ a ∈ A) → H' a = some (.lst xs)
  ds : ∀ (n : Nat) a, G.ds[n]? = some a → G'.ds[n]? = some a
  sr : ∀ p, G.sr = some p → G'.sr = some p
  sc : G'.sc = G.sc
  frz : ∀ a o u, H a = some (.frz o u) → H' a = some (.frz o u)
theorem Keep.sub {K : W.Frag} {G G' : Gh} {H H' : Hp} {A B : List Addr} (k : Keep K G G' H H' A) (h : ∀ a ∈ B, a ∈ A) : Keep K G G' H H' B :=
  ⟨k.tup, k.fz, k.tz, fun a xs e q => k.lst a xs e (q.imp id (Or.imp id (h a))), k.ds, k.sr, k.sc, k.frz⟩

mutual
theorem RV.keep {K : W.Frag} {G G' : Gh} {H H' : Hp} : ∀ {x : PV} {v : V} {A : List Addr}, RV K G H x v A → Keep K G G' H H' A → RV K G' H' x v A
  | _, _, _, .non, _ => .non
  | _, _, _, .bl b, _ => .bl b
  | _, _, _, .int i, _ => .int i
  | _, _, _, .str x, _ => .str x
  | _, _, _, .tup h r, k => .tup (k.tup _ _ h) (RVs.keep r k)
  | _, _, _, .lf h f r, k => .lf (k.lst _ _ h (.inl f)) (k.fz _ f) (RVs.keep r k)
  | _, _, _, .lb h f r, k => .lb (k.lst _ _ h (.inr (.inl f))) (k.tz _ f) (RVs.keep r k)
  | _, _, _, .lt h f r, k => .lt (k.lst _ _ h (.inr (.inl f))) (k.tz _ f) (RVs.keep r k)
  | _, _, _, .lo h r, k => .lo (k.lst _ _ h (.inr (.inr List.mem_cons_self))) (RVs.keep r (k.sub fun _ => List.mem_cons_of_mem _))
  | _, _, _, .dct h, k => .dct (k.ds _ _ h)
  | _, _, _, .src h, k => .src (k.sr _ h)
  | _, _, _, .scr, k => by rw [← k.sc]; exact .scr
theorem RVs.keep {K : W.Frag} {G G' : Gh} {H H' : Hp} : ∀ {x : List PV} {v : List V} {A : List Addr}, RVs K G H x v A → Keep K G G' H H' A → RVs K G' H' x v A
  | _, _, _, .nil, _ => .nil
  | _, _, _, .cons h r, k => .cons (RV.keep h (k.sub fun _ => List.mem_append_left _)) (RVs.keep r (k.sub fun _ => List.mem_append_right _))
end

theorem RVs.length {K : W.Frag} {G : Gh} {H : Hp} : ∀ {xs : List PV} {vs : List V} {A : List Addr}, RVs K G H xs vs A → xs.length = vs.length
  | _, _, _, .nil => rfl
  | _, _, _, .cons _ r => by rw [List.length_cons, List.length_cons, RVs.length r]

/-- what stands in the dicts -/
inductive DIs (K : W.Frag) (G : Gh) (H : Hp) (a : Addr) : List (PV × PV) → Prop
  | k {d : List (PV × PV)} {kvs : List (Key × V)} : H a = some (.dK kvs) → Paired (fun (p : PV × PV) (q : Key × V) => RV K G H p.1 (kV q.1) [] ∧ RV K G H p.2 q.2 []) d kvs → DIs K G H a d
  | t {d : List (PV × PV)} {kvs : List (List Key × V)} : H a = some (.dT kvs) → Paired (fun (p : PV × PV) (q : List Key × V) => (∃ ks, p.1 = .tup ks ∧ RVs K G H ks (q.1.map kV) []) ∧ RV K G H p.2 q.2 []) d kvs → DIs K G H a d
  | fk {o : Obj} {d : List (PV × PV)} {kvs : List (Key × V)} : H a = some (.frz o (.dK kvs)) → Paired (fun (p : PV × PV) (q : Key × V) => RV K G H p.1 (kV q.1) [] ∧ RV K G H p.2 q.2 []) d kvs → DIs K G H a (mkd d)
  | ft {o : Obj} {d : List (PV × PV)} {kvs : List (List Key × V)} : H a = some (.frz o (.dT kvs)) → Paired (fun (p : PV × PV) (q : List Key × V) => (∃ ks, p.1 = .tup ks ∧ RVs K G H ks (q.1.map kV) []) ∧ RV K G H p.2 q.2 []) d kvs → DIs K G H a (mkd d)

/-- the drawing dict and its list of cells -/
def SrcI (H : Hp) (a c : Addr) : Prop := a ≠ c ∧ ∃ (kvs : List (Key × V)) (ns : List Int) (l m t : Int), H a = some (.dK kvs) ∧ H c = some (.lst (ns.map V.int)) ∧
  valV kvs (Sum.inr "cells") = some (.ref c) ∧ valV kvs (Sum.inr "left") = some (.int l) ∧ valV kvs (Sum.inr "mixed") = some (.int m) ∧ valV kvs (Sum.inr "turn") = some (.int t) ∧
  (∀ k ∈ kvs.map (·.1), k ∈ ([Sum.inr "cells", Sum.inr "left", Sum.inr "mixed", Sum.inr "turn"] : List Key)) ∧ kvs.length = 4

structure SR (K : W.Frag) (G : Gh) (H : Hp) (s : St) : Prop where
  len : s.ds.length = G.ds.length
  nd : G.ds.Nodup
  dat : ∀ (n : Nat) d a, s.ds[n]? = some d → G.ds[n]? = some a → DIs K G H a d
  fl : ∀ a, G.fz a → ∃ xs, H a = some (.lst xs)
  tl : ∀ a, G.tz a → ∃ xs, H a = some (.lst xs)
  ft : ∀ a, G.fz a → ¬ G.tz a
  op : s.op = G.sr.isSome
  si : ∀ a c, G.sr = some (a, c) → SrcI H a c ∧ a ∉ G.ds ∧ ¬ G.fz c ∧ ¬ G.tz c
  sc : ∃ ns : List Int, ns.length ≤ sizeLine ∧ (SqL K (fun _ => none) G.sc (ns.map V.int) ∨ ∃ o, H G.sc = some (.frz o (.lst (ns.map V.int))))
  nb : ∀ d ∈ s.ds, ∀ p ∈ d, nob p.2 = true

theorem Le.keep {K : W.Frag} {G G' : Gh} {H H' : Hp} {s : St} {A : List Addr} (l : Le H G G') (p : Pr G H H') (r : SR K G H s) (hA : ∀ a ∈ A, ∀ q c, G.sr = some (q, c) → a ≠ c) : Keep K G G' H H' A where
  tup := p.tup
  fz := l.fz
  tz := l.tz
  lst := fun a xs h q => p.lst a xs h fun p' c e => by
    obtain ⟨_, _, n1, n2⟩ := r.si p' c e
    rcases q with q | q | q
    · intro z; subst z; exact n1 q
    · intro z; subst z; exact n2 q
    · exact hA a q p' c e
  ds := fun n a h => by
    obtain ⟨m, e⟩ := l.ds
    rw [e]
    rw [List.getElem?_append_left]
    · exact h
    · exact (List.getElem?_eq_some_iff.mp h).1
  sr := fun q e => by
    rcases l.sr with z | ⟨z, _⟩
    · rw [z]; exact e
    · rw [z] at e; cases e
  sc := l.sc
  frz := p.frz

/-- where one stands: behind a base -/
structure Nw (K : W.Frag) (H0 : Hp) (G0 : Gh) (H : Hp) (G : Gh) (s : St) : Prop where
  le : Le H0 G0 G
  pr : Pr G0 H0 H
  sr : SR K G H s
theorem Nw.trans {K : W.Frag} {H0 H1 H2 : Hp} {G0 G1 G2 : Gh} {s1 s2 : St} (a : Nw K H0 G0 H1 G1 s1) (b : Nw K H1 G1 H2 G2 s2) : Nw K H0 G0 H2 G2 s2 := ⟨a.le.trans a.pr.dom b.le, a.pr.trans a.le b.pr, b.sr⟩
theorem Nw.refl {K : W.Frag} {H : Hp} {G : Gh} {s : St} (r : SR K G H s) : Nw K H G H G s := ⟨Le.refl, Pr.refl, r⟩

/-- new addresses of owned lists -/
structure Fr (H : Hp) (G : Gh) (A : List Addr) : Prop where
  nd : A.Nodup
  new : ∀ a ∈ A, H a = none
  nf : ∀ a ∈ A, ¬ G.fz a
  nt : ∀ a ∈ A, ¬ G.tz a
  nc : ∀ a ∈ A, ∀ q c, G.sr = some (q, c) → a ≠ c
theorem Fr.nil {H : Hp} {G : Gh} : Fr H G [] := ⟨List.nodup_nil, (fun _ h => nomatch h), (fun _ h => nomatch h), (fun _ h => nomatch h), (fun _ h => nomatch h)⟩

abbrev Rl (α β : Type) := Gh → Hp → α → β → List Addr → Prop
/-- what is wanted of an exception: its class, its argument -/
abbrev XW := Nat → V → Hp → Prop

def Post {α β : Type} (K : W.Frag) (H0 : Hp) (G0 : Gh) (rel : Rl α β) (W : XW) (Q : β → Hp → Prop) : R α → Prop
  | .ok a s => ∀ G y H A, Le H0 G0 G → Pr G0 H0 H → SR K G H s → rel G H a y A → Fr H0 G A → Q y H
  | .ex e s => ∀ G y H, Le H0 G0 G → Pr G0 H0 H → SR K G H s → RV K G H e.arg y [] → W e.cls y H
  | .bad => False
  | .ask n k => ∀ i, i < n → Post K H0 G0 rel W Q (k i)

section
variable {α β γ δ : Type} {K : W.Frag} {H0 H : Hp} {G0 G : Gh} {rel : Rl α β} {rel2 : Rl γ δ} {W : XW} {Q : β → Hp → Prop} {Q2 : δ → Hp → Prop}
theorem Fr.back {A : List Addr} (p : ∀ x, H x = none → H0 x = none) (f : Fr H G A) : Fr H0 G A := ⟨f.nd, fun a h => p a (f.new a h), f.nf, f.nt, f.nc⟩
/-- the first part's end, from a later base; the rest is wanted as ahead -/
theorem Post.bind {f : α → St → R γ} (l : Le H0 G0 G) (p : Pr G0 H0 H) : ∀ {r : R α}, Post K H0 G0 rel2 W Q2 (r.bind f) →
    Post K H G rel W (fun y H' => ∃ a s G' A, Nw K H G H' G' s ∧ rel G' H' a y A ∧ Fr H G' A ∧ Post K H0 G0 rel2 W Q2 (f a s)) r
  | .ok a s, h => fun G' y H' A l' p' r q f => ⟨a, s, G', A, ⟨l', p', r⟩, q, f, h⟩
  | .ex _ _, h => fun G' y H' l' p' r q => h G' y H' (l.trans p.dom l') (p.trans l p') r q
  | .bad, h => h
  | .ask _ _, h => fun i hi => Post.bind l p (h i hi)
/-- the rest, from where one stands -/
theorem Post.rest {s : St} (n : Nw K H0 G0 H G s) : ∀ {r : R α}, Post K H0 G0 rel W Q r → Post K H G rel W Q r
  | .ok _ _, h => fun G' y H' A l' p' s' q f => h G' y H' A (n.le.trans n.pr.dom l') (n.pr.trans n.le p') s' q (f.back n.pr.dom)
  | .ex _ _, h => fun G' y H' l' p' s' q => h G' y H' (n.le.trans n.pr.dom l') (n.pr.trans n.le p') s' q
  | .bad, h => h
  | .ask _ _, h => fun i hi => Post.rest n (h i hi)
theorem Post.mono {Q' : β → Hp → Prop} (hq : ∀ y H, Q y H → Q' y H) : ∀ {r : R α}, Post K H0 G0 rel W Q r → Post K H0 G0 rel W Q' r
  | .ok _ _, h => fun G y H A l p r q f => hq y H (h G y H A l p r q f)
  | .ex _ _, h => h
  | .bad, h => h
  | .ask _ _, h => fun i hi => Post.mono hq (h i hi)
/-- .. where each way's end is known -/
theorem Post.imp {rel' : Rl α γ} {Q' : γ → Hp → Prop} {W' : XW} (hw : ∀ c y H, W c y H → W' c y H) (hq : ∀ a s, (∀ G y H A, Le H0 G0 G → Pr G0 H0 H → SR K G H s → rel G H a y A → Fr H0 G A → Q y H) → ∀ G y H A, Le H0 G0 G → Pr G0 H0 H → SR K G H s → rel' G H a y A → Fr H0 G A → Q' y H) :
    ∀ {r : R α}, Post K H0 G0 rel W Q r → Post K H0 G0 rel' W' Q' r
  | .ok a s, h => hq a s h
  | .ex _ _, h => fun G y H l p r q => hw _ _ _ (h G y H l p r q)
  | .bad, h => h
  | .ask _ _, h => fun i hi => Post.imp hw hq (h i hi)
end

/-- the slots, as an expression sees them -/
def ER (K : W.Frag) (G : Gh) (H : Hp) (e : Env) (σ : L2.St) : Prop := (∀ (i : Nat) v, e[i]? = some (some v) → ∃ x, σ[i]? = some (some x) ∧ RV K G H (rdV v) x []) ∧ e.length ≤ σ.length
theorem ER.keep {K : W.Frag} {G G' : Gh} {H H' : Hp} {e : Env} {σ : L2.St} (h : ER K G H e σ) (k : Keep K G G' H H' []) : ER K G' H' e σ := ⟨fun i v q => by
  obtain ⟨x, e1, r⟩ := h.1 i v q
  exact ⟨x, e1, r.keep k⟩, h.2⟩

section
variable {K : W.Frag} {H0 H H' : Hp} {G0 G G' : Gh} {s : St}
theorem Nw.keep {s' : St} {A : List Addr} (r : SR K G H s) (n : Nw K H G H' G' s') (hA : ∀ a ∈ A, ∀ q c, G.sr = some (q, c) → a ≠ c) : Keep K G G' H H' A := Le.keep n.le n.pr r hA
theorem Nw.keep0 {s' : St} (r : SR K G H s) (n : Nw K H G H' G' s') : Keep K G G' H H' [] := n.keep r fun _ h => nomatch h

/-- a new object laid -/
theorem Pr.upd {p : Addr} {o : HO} (hp : H p = none) : Pr G H (upd H p o) where
  tup := fun a xs h => by rw [upd_ne (ne_of_none h hp)]; exact h
  frz := fun a _ xs h => by rw [upd_ne (ne_of_none h hp)]; exact h
  lst := fun a xs h _ => by rw [upd_ne (ne_of_none h hp)]; exact h
  dom := fun a h => by
    by_cases e : a = p
    · rw [e, hp]
    · rw [upd_ne e] at h; exact h
theorem upd_some {p a : Addr} {o u : HO} (hp : H p = none) (h : H a = some u) : L2.upd H p o a = some u := by rw [upd_ne (ne_of_none h hp)]; exact h

theorem Keep.up {A : List Addr} (h : ∀ a o, H a = some o → H' a = some o) : Keep K G G H H' A where
  tup := fun a xs x => h _ _ x
  fz := fun _ x => x
  tz := fun _ x => x
  lst := fun a xs x _ => h _ _ x
  ds := fun _ _ x => x
  sr := fun _ x => x
  sc := rfl
  frz := fun _ _ _ x => h _ _ x
theorem Paired.imp {α β : Type} {F F' : α → β → Prop} : ∀ {l : List α} {m : List β}, Paired F l m → (∀ a b, F a b → F' a b) → Paired F' l m
  | _, _, .nil, _ => .nil
  | _, _, .cons r t, f => .cons (f _ _ r) (Paired.imp t f)
theorem DIs.keep {a : Addr} {d : List (PV × PV)} (k : Keep K G G' H H' []) (ha : ∀ o, H a = some o → H' a = some o) (h : DIs K G H a d) : DIs K G' H' a d := by
  cases h with
  | k e r => exact .k (ha _ e) (Paired.imp r fun p q z => ⟨z.1.keep k, z.2.keep k⟩)
  | t e r => exact .t (ha _ e) (Paired.imp r fun p q ⟨⟨ks, e1, z1⟩, z⟩ => ⟨⟨ks, e1, z1.keep k⟩, z.keep k⟩)
  | fk e r => exact .fk (ha _ e) (Paired.imp r fun p q z => ⟨z.1.keep k, z.2.keep k⟩)
  | ft e r => exact .ft (ha _ e) (Paired.imp r fun p q ⟨⟨ks, e1, z1⟩, z⟩ => ⟨⟨ks, e1, z1.keep k⟩, z.keep k⟩)
theorem SrcI.up {a c : Addr} (h : ∀ b o, H b = some o → H' b = some o) (x : SrcI H a c) : SrcI H' a c := by
  obtain ⟨n, kvs, ns, l, m, t, e1, e2, r⟩ := x
  exact ⟨n, kvs, ns, l, m, t, h _ _ e1, h _ _ e2, r⟩
theorem SqL.up {a : Addr} {xs : List V} (h : ∀ b o, H b = some o → H' b = some o) (x : SqL K H a xs) : SqL K H' a xs := by
  rcases x with (x | ⟨o, x⟩) | x
  · exact .inl (.inl (h _ _ x))
  · exact .inl (.inr ⟨o, h _ _ x⟩)
  · exact .inr x
theorem SR.up (h : ∀ a o, H a = some o → H' a = some o) (r : SR K G H s) : SR K G H' s where
  len := r.len
  nd := r.nd
  dat := fun n d a e1 e2 => DIs.keep (Keep.up h) (h a) (r.dat n d a e1 e2)
  fl := fun a f => let ⟨xs, e⟩ := r.fl a f; ⟨xs, h _ _ e⟩
  tl := fun a f => let ⟨xs, e⟩ := r.tl a f; ⟨xs, h _ _ e⟩
  ft := r.ft
  op := r.op
  si := fun a c e => let ⟨x, y⟩ := r.si a c e; ⟨x.up h, y⟩
  sc := let ⟨ns, nl, x⟩ := r.sc; ⟨ns, nl, x.imp id fun ⟨o, y⟩ => ⟨o, h _ _ y⟩⟩
  nb := r.nb

/-- lists given away -/
def Gh.addT (G : Gh) (A : List Addr) : Gh := { G with tz := fun a => G.tz a ∨ a ∈ A }
theorem Keep.addT (A B : List Addr) : Keep K G (G.addT A) H H B := ⟨fun _ _ h => h, fun _ h => h, fun _ h => .inl h, fun _ _ h _ => h, fun _ _ h => h, fun _ h => h, rfl, fun _ _ _ h => h⟩
mutual
theorem RV.lists : ∀ {x : PV} {v : V} {A : List Addr}, RV K G H x v A → ∀ a ∈ A, ∃ xs, H a = some (.lst xs)
  | _, _, _, .lo h r => fun a ha => by
    rcases List.mem_cons.mp ha with e | e
    · rw [e]; exact ⟨_, h⟩
    · exact RVs.lists r a e
  | _, _, _, .non => fun _ h => nomatch h
  | _, _, _, .bl _ => fun _ h => nomatch h
  | _, _, _, .int _ => fun _ h => nomatch h
  | _, _, _, .str _ => fun _ h => nomatch h
  | _, _, _, .tup _ _ => fun _ h => nomatch h
  | _, _, _, .lf _ _ _ => fun _ h => nomatch h
  | _, _, _, .lb _ _ _ => fun _ h => nomatch h
  | _, _, _, .lt _ _ _ => fun _ h => nomatch h
  | _, _, _, .dct _ => fun _ h => nomatch h
  | _, _, _, .src _ => fun _ h => nomatch h
  | _, _, _, .scr => fun _ h => nomatch h
theorem RVs.lists : ∀ {x : List PV} {v : List V} {A : List Addr}, RVs K G H x v A → ∀ a ∈ A, ∃ xs, H a = some (.lst xs)
  | _, _, _, .nil => fun _ h => nomatch h
  | _, _, _, .cons h r => fun a ha => by
    rcases List.mem_append.mp ha with e | e
    · exact RV.lists h a e
    · exact RVs.lists r a e
end
theorem SR.addT {A : List Addr} (r : SR K G H s) (h : ∀ a ∈ A, ∃ xs, H a = some (.lst xs)) (hf : ∀ a ∈ A, ¬ G.fz a) (hc : ∀ a ∈ A, ∀ q c, G.sr = some (q, c) → a ≠ c) : SR K (G.addT A) H s where
  len := r.len
  nd := r.nd
  dat := fun n d a e1 e2 => DIs.keep (Keep.addT A []) (fun _ h => h) (r.dat n d a e1 e2)
  fl := r.fl
  tl := fun a f => f.elim (r.tl a) (h a)
  ft := fun a f g => g.elim (r.ft a f) fun q => hf a q f
  op := r.op
  si := fun a c e => by
    obtain ⟨x1, x2, x3, x4⟩ := r.si a c e
    exact ⟨x1, x2, x3, fun z => z.elim x4 fun q => hc c q a c e rfl⟩
  sc := r.sc
  nb := r.nb
theorem Le.addT {A : List Addr} (h : ∀ a ∈ A, H0 a = none) : Le H0 G (G.addT A) :=
  ⟨fun _ x => x, fun _ x => .inl x, ⟨[], by simp [Gh.addT]⟩, .inl rfl, rfl, fun _ x => .inl x, fun a x => x.elim .inl fun q => .inr (h a q), fun _ x => .inl x⟩
/-- the same place, own lists given away -/
theorem Nw.addT {A : List Addr} (n : Nw K H0 G0 H G s) (f : Fr H0 G A) (h : ∀ a ∈ A, ∃ xs, H a = some (.lst xs)) : Nw K H0 G0 H (G.addT A) s where
  le := n.le.trans (H1 := H0) (fun _ x => x) (Le.addT f.new)
  pr := n.pr
  sr := n.sr.addT h f.nf f.nc
mutual
theorem RV.brw : ∀ {x : PV} {v : V} {A : List Addr}, RV K G H x v A → (∀ a ∈ A, G.tz a) → RV K G H (Py.brw x) v []
  | _, _, _, .non, _ => by simp only [Py.brw]; exact .non
  | _, _, _, .bl b, _ => by simp only [Py.brw]; exact .bl b
  | _, _, _, .int i, _ => by simp only [Py.brw]; exact .int i
  | _, _, _, .str x, _ => by simp only [Py.brw]; exact .str x
  | _, _, _, .tup h r, _ => by simp only [Py.brw]; exact .tup h r
  | _, _, _, .lf h f r, _ => by simp only [Py.brw]; exact .lf h f r
  | _, _, _, .lb h f r, _ => by simp only [Py.brw]; exact .lb h f r
  | _, _, _, .lt h f r, _ => by simp only [Py.brw]; exact .lb h f r
  | _, _, _, .lo h r, k => by simp only [Py.brw]; exact .lb h (k _ List.mem_cons_self) (RVs.brw r fun a q => k a (List.mem_cons_of_mem _ q))
  | _, _, _, .dct h, _ => by simp only [Py.brw]; exact .dct h
  | _, _, _, .src h, _ => by simp only [Py.brw]; exact .src h
  | _, _, _, .scr, _ => by simp only [Py.brw]; exact .scr
theorem RVs.brw : ∀ {x : List PV} {v : List V} {A : List Addr}, RVs K G H x v A → (∀ a ∈ A, G.tz a) → RVs K G H (Py.brws x) v []
  | _, _, _, .nil, _ => by simp only [Py.brws]; exact .nil
  | _, _, _, .cons h r, k => by
    simp only [Py.brws]
    exact .cons (A := []) (B := []) (RV.brw h fun a q => k a (List.mem_append_left _ q)) (RVs.brw r fun a q => k a (List.mem_append_right _ q))
end
theorem RV.brwT {x : PV} {v : V} {A : List Addr} (r : RV K G H x v A) : RV K (G.addT A) H (Py.brw x) v [] := (r.keep (Keep.addT A A)).brw fun _ q => .inr q
theorem RVs.brwT {x : List PV} {v : List V} {A : List Addr} (r : RVs K G H x v A) : RVs K (G.addT A) H (Py.brws x) v [] := (r.keep (Keep.addT A A)).brw fun _ q => .inr q

/-- an end: the value given on -/
theorem Post.at {α β : Type} {rel : Rl α β} {W : XW} {Q : β → Hp → Prop} {a : α} (h : Post K H0 G0 rel W Q (.ok a s)) {y : β} {A : List Addr} (n : Nw K H0 G0 H G s) (r : rel G H a y A) (f : Fr H0 G A) : Q y H := h G y H A n.le n.pr n.sr r f
/-- a new object laid -/
theorem Nw.lay {p : Addr} {o : HO} (n : Nw K H0 G0 H G s) (hp : H p = none) : Nw K H0 G0 (upd H p o) G s where
  le := n.le
  pr := n.pr.trans n.le (Pr.upd hp)
  sr := n.sr.up fun _ _ h => upd_some hp h
theorem Keep.lay {p : Addr} {o : HO} {A : List Addr} (hp : H p = none) : Keep K G G H (upd H p o) A := Keep.up fun _ _ h => upd_some hp h
/-- the address of a new list is an owned one -/
theorem Nw.fr1 {p : Addr} (n : Nw K H0 G0 H G s) (hp : H p = none) : Fr H0 G [p] where
  nd := by simp
  new := fun a ha => by rw [List.mem_singleton.mp ha]; exact n.pr.dom _ hp
  nf := fun a ha q => by
    rw [List.mem_singleton.mp ha] at q
    obtain ⟨xs, e⟩ := n.sr.fl _ q
    rw [hp] at e; cases e
  nt := fun a ha q => by
    rw [List.mem_singleton.mp ha] at q
    obtain ⟨xs, e⟩ := n.sr.tl _ q
    rw [hp] at e; cases e
  nc := fun a ha q c e z => by
    rw [List.mem_singleton.mp ha] at z
    subst z
    obtain ⟨⟨_, _, ns, _, _, _, _, e2, _⟩, _⟩ := n.sr.si q p e
    rw [hp] at e2; cases e2
end
end Py
end

section
/-! PyC: the operations by values, over the layer's rules. -/
namespace Py
open PySem L2

structure Cxt (X : Cx) : Prop where
  nd : X.N.Nodup
  hu : X.A.units + 200 < cLine
  cal : X.calm = true
  gd : X.A.guards = some []

def BOp.op : BOp → Operator
  | .add => .Add | .sub => .Sub | .mul => .Mult | .fdiv => .FloorDiv | .mod => .Mod | .pow => .Pow | .shl => .LShift | .shr => .RShift | .band => .BitAnd

/-- a two-place operation by what PyA says -/
def r2 (K : W.Frag) (f : PV → PV → St → R PV) : R2 := fun x y H Q => ∃ (W : XW) (H0 : Hp) (G0 G : Gh) (v w : PV) (A B : List Addr) (s : St),
  Nw K H0 G0 H G s ∧ RV K G H v x A ∧ RV K G H w y B ∧ Fr H0 G A ∧ Fr H0 G B ∧ Post K H0 G0 (RV K) W Q (f v w s)

/-- .. that takes nothing of what its operands own -/
def r2c (K : W.Frag) (f : PV → PV → St → R PV) : R2 := fun x y H Q => ∃ (W : XW) (H0 : Hp) (G0 G : Gh) (v w : PV) (A B : List Addr) (s : St),
  Nw K H0 G0 H G s ∧ RV K G H v x A ∧ RV K G H w y B ∧ Post K H0 G0 (RV K) W Q (f v w s)

section
variable {X : Cx}

/-- the end with a plain value -/
theorem fin0 {K : W.Frag} {H0 H : Hp} {G0 G : Gh} {s : St} {W : XW} {Q : VK} {a : PV} {y : V} (h : Post K H0 G0 (RV K) W Q (.ok a s)) (n : Nw K H0 G0 H G s) (r : RV K G H a y []) : Q y H := h.at n r Fr.nil

theorem cmulW_of {i j : Int} (h : mulOk i j = true) : CMulW i j ∨ CMul i j := by
  unfold mulOk at h
  simp only [Bool.or_eq_true, Bool.and_eq_true, decide_eq_true_eq] at h
  rcases h with (h | h) | ⟨h, h'⟩
  · exact .inr (.inl (by omega))
  · exact .inr (.inr (by omega))
  · exact .inl (wide_mul h h' (by decide) (by decide) (by decide))

theorem Fr.append {H0 : Hp} {G : Gh} {A B : List Addr} (a : Fr H0 G A) (b : Fr H0 G B) (d : ∀ x ∈ A, x ∉ B) : Fr H0 G (A ++ B) where
  nd := List.nodup_append.mpr ⟨a.nd, b.nd, fun x hx y hy e => d x hx (e ▸ hy)⟩
  new := fun x h => (List.mem_append.mp h).elim (a.new x) (b.new x)
  nf := fun x h => (List.mem_append.mp h).elim (a.nf x) (b.nf x)
  nt := fun x h => (List.mem_append.mp h).elim (a.nt x) (b.nt x)
  nc := fun x h => (List.mem_append.mp h).elim (a.nc x) (b.nc x)

/-- both operands given away -/
theorem Nw.addT2 {K : W.Frag} {H0 H : Hp} {G0 G : Gh} {s : St} {A B : List Addr} (n : Nw K H0 G0 H G s) (f : Fr H0 G A) (f' : Fr H0 G B) (h : ∀ a ∈ A, ∃ xs, H a = some (.lst xs)) (h' : ∀ a ∈ B, ∃ xs, H a = some (.lst xs)) :
    Nw K H0 G0 H (G.addT (A ++ B)) s where
  le := n.le.trans (H1 := H0) (fun _ x => x) (Le.addT fun a q => (List.mem_append.mp q).elim (f.new a) (f'.new a))
  pr := n.pr
  sr := n.sr.addT (fun a q => (List.mem_append.mp q).elim (h a) (h' a)) (fun a q => (List.mem_append.mp q).elim (f.nf a) (f'.nf a)) fun a q => (List.mem_append.mp q).elim (f.nc a) (f'.nc a)

theorem RVs.app {K : W.Frag} {G : Gh} {H : Hp} : ∀ {xs ys : List PV} {vs ws : List V}, RVs K G H xs vs [] → RVs K G H ys ws [] → RVs K G H (xs ++ ys) (vs ++ ws) []
  | [], _, [], _, .nil, r => r
  | x :: xs, ys, v :: vs, ws, h, r => by
    generalize e : ([] : List Addr) = A at h
    cases h with
    | cons a b =>
      rename_i A' B'
      have := List.append_eq_nil_iff.mp e.symm
      obtain ⟨rfl, rfl⟩ := this
      exact .cons (A := []) (B := []) a (RVs.app b r)
theorem RVs.inv {K : W.Frag} {G : Gh} {H : Hp} {x : PV} {xs : List PV} {v : V} {vs : List V} (h : RVs K G H (x :: xs) (v :: vs) []) : RV K G H x v [] ∧ RVs K G H xs vs [] := by
  generalize e : ([] : List Addr) = A at h
  cases h with
  | cons a b =>
    obtain ⟨rfl, rfl⟩ := List.append_eq_nil_iff.mp e.symm
    exact ⟨a, b⟩
theorem RVs.nil_of {K : W.Frag} {G : Gh} {H : Hp} {v : V} {vs : List V} {A : List Addr} (h : RVs K G H [] (v :: vs) A) : False := by cases h

theorem brws_eq (xs : List PV) : brws xs = xs.map brw := by
  induction xs with
  | nil => simp only [brws, List.map_nil]
  | cons x xs ih => simp only [brws, List.map_cons, ih]
theorem RVs.get {K : W.Frag} {G : Gh} {H : Hp} : ∀ {xs : List PV} {vs : List V} {j : Nat} {x : PV}, RVs K G H xs vs [] → xs[j]? = some x → ∃ v, vs[j]? = some v ∧ RV K G H x v []
  | [], _, j, x, _, e => by simp at e
  | y :: xs, [], j, x, h, e => by cases h
  | y :: xs, v :: vs, 0, x, h, e => by
    simp only [List.getElem?_cons_zero, Option.some.injEq] at e
    subst e
    exact ⟨v, rfl, h.inv.1⟩
  | y :: xs, v :: vs, j + 1, x, h, e => by
    simp only [List.getElem?_cons_succ] at e ⊢
    exact RVs.get h.inv.2 e
theorem RVs.take {K : W.Frag} {G : Gh} {H : Hp} : ∀ {xs : List PV} {vs : List V} (n : Nat), RVs K G H xs vs [] → RVs K G H (xs.take n) (vs.take n) []
  | [], [], n, _ => by simp only [List.take_nil]; exact .nil
  | x :: xs, v :: vs, 0, h => by simp only [List.take_zero]; exact .nil
  | x :: xs, v :: vs, n + 1, h => by
    simp only [List.take_succ_cons]
    exact .cons (A := []) (B := []) h.inv.1 (RVs.take n h.inv.2)
theorem RVs.drop {K : W.Frag} {G : Gh} {H : Hp} : ∀ {xs : List PV} {vs : List V} (n : Nat), RVs K G H xs vs [] → RVs K G H (xs.drop n) (vs.drop n) []
  | [], [], n, _ => by simp only [List.drop_nil]; exact .nil
  | x :: xs, v :: vs, 0, h => by simp only [List.drop_zero]; exact h
  | x :: xs, v :: vs, n + 1, h => by
    simp only [List.drop_succ_cons]
    exact RVs.drop n h.inv.2
theorem RVs.rep {K : W.Frag} {G : Gh} {H : Hp} {xs : List PV} {vs : List V} (h : RVs K G H xs vs []) : ∀ k : Nat, RVs K G H (List.replicate k xs).flatten (List.replicate k vs).flatten []
  | 0 => by simp only [List.replicate_zero, List.flatten_nil]; exact .nil
  | k + 1 => by simp only [List.replicate_succ, List.flatten_cons]; exact h.app (RVs.rep h k)
theorem RVs.rev {K : W.Frag} {G : Gh} {H : Hp} : ∀ {xs : List PV} {vs : List V}, RVs K G H xs vs [] → RVs K G H xs.reverse vs.reverse []
  | [], [], _ => by simp only [List.reverse_nil]; exact .nil
  | x :: xs, v :: vs, h => by
    simp only [List.reverse_cons]
    exact (RVs.rev h.inv.2).app (.cons (A := []) (B := []) h.inv.1 .nil)

/-- the list of a list, whatever its mode -/
theorem RV.lst_of {K : W.Frag} {G : Gh} {H : Hp} {m : Md} {xs : List PV} {v : V} {A : List Addr} (h : RV K G H (.lst m xs) v A) : ∃ a vs B, v = .ref a ∧ H a = some (.lst vs) ∧ RVs K G H xs vs B ∧ (∀ b ∈ B, b ∈ A) := by
  cases h with
  | lf e _ r => exact ⟨_, _, _, rfl, e, r, fun _ h => h⟩
  | lb e _ r => exact ⟨_, _, _, rfl, e, r, fun _ h => h⟩
  | lt e _ r => exact ⟨_, _, _, rfl, e, r, fun _ h => h⟩
  | lo e r => exact ⟨_, _, _, rfl, e, r, fun _ h => List.mem_cons_of_mem _ h⟩
/-- its items, given away -/
theorem RV.items {K : W.Frag} {G : Gh} {H : Hp} {m : Md} {xs : List PV} {v : V} {A : List Addr} (h : RV K G H (.lst m xs) v A) (hA : ∀ a ∈ A, G.tz a) : ∃ a vs, v = .ref a ∧ H a = some (.lst vs) ∧ RVs K G H (brws xs) vs [] := by
  obtain ⟨a, vs, B, e, e2, r, s⟩ := h.lst_of
  exact ⟨a, vs, e, e2, r.brw fun b q => hA b (s b q)⟩
theorem RV.tup_of {K : W.Frag} {G : Gh} {H : Hp} {xs : List PV} {v : V} {A : List Addr} (h : RV K G H (.tup xs) v A) : ∃ a vs, v = .ref a ∧ H a = some (.tup vs) ∧ RVs K G H xs vs [] := by
  cases h with
  | tup e r => exact ⟨_, _, rfl, e, r⟩
theorem RV.int_of {K : W.Frag} {G : Gh} {H : Hp} {i : Int} {v : V} {A : List Addr} (h : RV K G H (.int i) v A) : v = .int i := by cases h; rfl
theorem RV.bl_of {K : W.Frag} {G : Gh} {H : Hp} {i : Bool} {v : V} {A : List Addr} (h : RV K G H (.bl i) v A) : v = .bl i := by cases h; rfl
theorem RV.str_of {K : W.Frag} {G : Gh} {H : Hp} {i : Str} {v : V} {A : List Addr} (h : RV K G H (.str i) v A) : v = .str i := by cases h; rfl
theorem RV.non_of {K : W.Frag} {G : Gh} {H : Hp} {v : V} {A : List Addr} (h : RV K G H .non v A) : v = .non := by cases h; rfl

theorem SqL.of' {K : W.Frag} {H : Hp} {a : Addr} {vs : List V} (h : H a = some (.lst vs)) : SqL K H a vs := .inl (.inl h)
theorem SqT.of' {K : W.Frag} {H : Hp} {a : Addr} {vs : List V} (h : H a = some (.tup vs)) : SqT K H a vs := .inl (.inl h)
theorem okV_some {α : Type} {a : α} {s : St} : okV (some a) s = .ok a s := rfl


/-- int op int -/
theorem okI {K : W.Frag} {H0 : Hp} {G0 : Gh} {W : XW} {Q : VK} {s : St} {b : Bool} {a : PV} (h : Post K H0 G0 (RV K) W Q (okV (if b = true then some a else none) s)) : b = true ∧ Post K H0 G0 (RV K) W Q (.ok a s) := by
  cases b with
  | true => exact ⟨rfl, h⟩
  | false => exact False.elim h

theorem brws_append (xs ys : List PV) : brws (xs ++ ys) = brws xs ++ brws ys := by simp only [brws_eq, List.map_append]
theorem brws_length (xs : List PV) : (brws xs).length = xs.length := by simp only [brws_eq, List.length_map]

/-- a new list of given items -/
theorem fin_new {K : W.Frag} {H0 H : Hp} {G0 G : Gh} {s : St} {W : XW} {Q : VK} {zs : List PV} {vs : List V} (h : Post K H0 G0 (RV K) W Q (.ok (.lst .o zs) s)) (n : Nw K H0 G0 H G s) (r : RVs K G H zs vs []) (p : Addr) (hp : H p = none) :
    Q (.ref p) (upd H p (.lst vs)) := h.at (n.lay hp) (.lo upd_same (r.keep (Keep.lay hp))) (n.fr1 hp)
/-- a new tuple of given items -/
theorem fin_tup {K : W.Frag} {H0 H : Hp} {G0 G : Gh} {s : St} {W : XW} {Q : VK} {zs : List PV} {vs : List V} (h : Post K H0 G0 (RV K) W Q (.ok (.tup zs) s)) (n : Nw K H0 G0 H G s) (r : RVs K G H zs vs []) (p : Addr) (hp : H p = none) :
    Q (.ref p) (upd H p (.tup vs)) := h.at (n.lay hp) (.tup upd_same (r.keep (Keep.lay hp))) Fr.nil

theorem add_ok : OpR X (binaryOp .Add) (r2 X.K fun v w s => okV (bop .add v w) s) := by
  intro pins s σ H x y v u Q I rx ry ⟨W, H0, G0, G, v', w', A, B, t, n, rv, rw', fa, fb, hp⟩
  cases v' <;> cases w' <;> first
    | exact False.elim hp
    | skip
  · obtain rfl := rv.int_of
    obtain rfl := rw'.int_of
    exact op_add pins s σ H _ _ v u Q I rx ry ⟨_, _, rfl, rfl, fin0 hp n (.int _)⟩
  · rename_i a b
    obtain rfl := rv.str_of
    obtain rfl := rw'.str_of
    simp only [bop] at hp
    by_cases hz : a.length + b.length ≤ sizeLine
    · rw [if_pos hz] at hp
      exact op_add_str pins s σ H _ _ v u Q I rx ry ⟨_, _, rfl, rfl, hz, fin0 hp n (.str _)⟩
    · rw [if_neg hz] at hp; exact False.elim hp
  · rename_i xs ys
    obtain ⟨a, vs, rfl, ea, r1⟩ := rv.tup_of
    obtain ⟨b, ws, rfl, eb, r2⟩ := rw'.tup_of
    simp only [bop] at hp
    by_cases hz : xs.length + ys.length ≤ sizeLine
    · rw [if_pos hz] at hp
      have l1 := r1.length
      have l2 := r2.length
      refine op_catA pins s σ H _ _ v u Q I rx ry ⟨a, b, vs, ws, rfl, rfl, SqT.of' ea, SqT.of' eb, by omega, fun e => ?_, fun _ e => ?_, fun _ _ p hpn => ?_⟩
      · subst e
        obtain rfl : xs = [] := List.eq_nil_of_length_eq_zero l1
        rw [List.nil_append] at hp
        exact hp.at n rw' fb
      · subst e
        obtain rfl : ys = [] := List.eq_nil_of_length_eq_zero l2
        rw [List.append_nil] at hp
        exact hp.at n rv fa
      · exact fin_tup hp n (r1.app r2) p hpn
    · rw [if_neg hz] at hp; exact False.elim hp
  · rename_i m xs m' ys
    have n' := n.addT2 fa fb rv.lists rw'.lists
    obtain ⟨a, vs, rfl, ea, r1⟩ := (rv.keep (Keep.addT (A ++ B) A)).items fun a q => .inr (List.mem_append_left _ q)
    obtain ⟨b, ws, rfl, eb, r2⟩ := (rw'.keep (Keep.addT (A ++ B) B)).items fun a q => .inr (List.mem_append_right _ q)
    simp only [bop] at hp
    by_cases hz : xs.length + ys.length ≤ sizeLine
    · rw [if_pos hz] at hp
      have l1 := r1.length
      have l2 := r2.length
      rw [brws_length] at l1 l2
      exact op_cat pins s σ H _ _ v u Q I rx ry ⟨a, b, vs, ws, rfl, rfl, ea, eb, by omega, fun p hpn => fin_new hp n' (r1.app r2) p hpn⟩
    · rw [if_neg hz] at hp; exact False.elim hp

theorem sub_ok : OpR X (binaryOp .Sub) (r2 X.K fun v w s => okV (bop .sub v w) s) := by
  intro pins s σ H x y v u Q I rx ry ⟨W, H0, G0, G, v', w', A, B, t, n, rv, rw', fa, fb, hp⟩
  cases v' <;> cases w' <;> first
    | exact False.elim hp
    | skip
  obtain rfl := rv.int_of
  obtain rfl := rw'.int_of
  exact op_sub pins s σ H _ _ v u Q I rx ry ⟨_, _, rfl, rfl, fin0 hp n (.int _)⟩

theorem mod_ok : OpR X (binaryOp .Mod) (r2 X.K fun v w s => okV (bop .mod v w) s) := by
  intro pins s σ H x y v u Q I rx ry ⟨W, H0, G0, G, v', w', A, B, t, n, rv, rw', fa, fb, hp⟩
  cases v' <;> cases w' <;> first
    | exact False.elim hp
    | skip
  obtain rfl := rv.int_of
  obtain rfl := rw'.int_of
  obtain ⟨hb, hp⟩ := okI hp
  exact op_mod pins s σ H _ _ v u Q I rx ry ⟨_, _, rfl, rfl, of_decide_eq_true hb, fin0 hp n (.int _)⟩

theorem fdiv_ok : OpR X (binaryOp .FloorDiv) (r2 X.K fun v w s => okV (bop .fdiv v w) s) := by
  intro pins s σ H x y v u Q I rx ry ⟨W, H0, G0, G, v', w', A, B, t, n, rv, rw', fa, fb, hp⟩
  cases v' <;> cases w' <;> first
    | exact False.elim hp
    | skip
  obtain rfl := rv.int_of
  obtain rfl := rw'.int_of
  obtain ⟨hb, hp⟩ := okI hp
  simp only [Bool.and_eq_true, decide_eq_true_eq] at hb
  exact op_fdivW pins s σ H _ _ v u Q I rx ry ⟨_, _, rfl, rfl, wide_div hb.1 hb.2 (by decide) (by decide), fin0 hp n (.int _)⟩

theorem pow_ok : OpR X (binaryOp .Pow) (r2 X.K fun v w s => okV (bop .pow v w) s) := by
  intro pins s σ H x y v u Q I rx ry ⟨W, H0, G0, G, v', w', A, B, t, n, rv, rw', fa, fb, hp⟩
  cases v' <;> cases w' <;> first
    | exact False.elim hp
    | skip
  obtain rfl := rv.int_of
  obtain rfl := rw'.int_of
  obtain ⟨hb, hp⟩ := okI hp
  simp only [Bool.and_eq_true, decide_eq_true_eq] at hb
  exact op_pow pins s σ H _ _ v u Q I rx ry ⟨_, _, rfl, rfl, ⟨hb.1.1, hb.1.2, hb.2⟩, fin0 hp n (.int _)⟩

theorem shl_ok : OpR X (binaryOp .LShift) (r2 X.K fun v w s => okV (bop .shl v w) s) := by
  intro pins s σ H x y v u Q I rx ry ⟨W, H0, G0, G, v', w', A, B, t, n, rv, rw', fa, fb, hp⟩
  cases v' <;> cases w' <;> first
    | exact False.elim hp
    | skip
  obtain rfl := rv.int_of
  obtain rfl := rw'.int_of
  obtain ⟨hb, hp⟩ := okI hp
  simp only [Bool.and_eq_true, decide_eq_true_eq] at hb
  exact op_shl pins s σ H _ _ v u Q I rx ry ⟨_, _, rfl, rfl, ⟨hb.1.1, hb.1.2, hb.2⟩, fin0 hp n (.int _)⟩

theorem shr_ok : OpR X (binaryOp .RShift) (r2 X.K fun v w s => okV (bop .shr v w) s) := by
  intro pins s σ H x y v u Q I rx ry ⟨W, H0, G0, G, v', w', A, B, t, n, rv, rw', fa, fb, hp⟩
  cases v' <;> cases w' <;> first
    | exact False.elim hp
    | skip
  obtain rfl := rv.int_of
  obtain rfl := rw'.int_of
  obtain ⟨hb, hp⟩ := okI hp
  exact op_shr pins s σ H _ _ v u Q I rx ry ⟨_, _, rfl, rfl, of_decide_eq_true hb, fin0 hp n (.int _)⟩

theorem band_ok : OpR X (binaryOp .BitAnd) (r2 X.K fun v w s => okV (bop .band v w) s) := by
  intro pins s σ H x y v u Q I rx ry ⟨W, H0, G0, G, v', w', A, B, t, n, rv, rw', fa, fb, hp⟩
  cases v' <;> cases w' <;> first
    | exact False.elim hp
    | skip
  obtain rfl := rv.int_of
  obtain rfl := rw'.int_of
  exact op_and pins s σ H _ _ v u Q I rx ry ⟨_, _, rfl, rfl, fin0 hp n (.int _)⟩

theorem tuple_mul1 (l : Addr) (items : Array Value) (n : Nat) (dd : Option Addr) (sl : Array (Option Value)) (u : Tok) :
    Meets (Builtin.«tuple.__mul__» ⟨[.ref l, .int 1 u], []⟩) (fun _ R s => s.heap.get? l = some { cls := .type "tuple", dict := dd, data := .seq items n, slots := sl } ∧
      R (.ok (.ret (Value.ref l))) s) :=
  .of_wp fun prog w A R s h => by
    obtain ⟨hp, g, d, tk, os⟩ := s
    obtain ⟨hl, h⟩ := h
    have f1 := AutoSeq1.idx_int
    have c0 : (decide ((1 : Int) < -(2 ^ 63)) || decide ((1 : Int) ≥ 2 ^ 63)) = false := by decide
    have c1 : (items.isEmpty || (1 : Int) == 1) = true := by rw [show ((1 : Int) == 1) = true from rfl, Bool.or_true]
    wp_walk using wpAny_loadPart' hl
    repeat (first
      | (refine wpAny_ite_false (decide_eq_false (by rw [c0]; exact Bool.false_ne_true)) ?_; wp_walk using wpAny_loadPart' hl)
      | (refine wpAny_ite_true (decide_eq_true c1) ?_; wp_walk using wpAny_loadPart' hl))
    exact ⟨_, rfl, h⟩
/-- t * 1 is t -/
theorem op_rep1 : OpR X (binaryOp .Mult) (fun x y H Q => ∃ l xs, x = .ref l ∧ y = .int 1 ∧ SqT X.K H l xs ∧ Q (.ref l) H) := by
  intro pins s σ H x y v u Q I rx ry h
  obtain ⟨l, xs, rfl, rfl, hT, q⟩ := h
  cases rx
  obtain ⟨t, rfl⟩ := ry
  obtain ⟨its, r, ⟨⟨cls, dd, data, sl⟩, ho, hc, n, hd⟩, hs⟩ := I.tuple hT
  simp only at hc hd
  subst hc hd
  exact wpAny_binaryOp_repeat_ref (T := "tuple") (U := "int") (by decide) ⟨_, ho, rfl⟩ (fun s' => typeIs_int s' 1 t) noFill_tuple_mul F.fills_int_mul F.slot_int_rmul repeat_tuple F.slot_int_index.lookup
    (call_meets F.slot_int_rmul (typeIs_int s 1 t) F.entry_int_rmul (F.args_int_rmul_2 _ _) (int_rmul_tuple 1 t l its.toArray n dd sl)
      ⟨ho, rfl, ⟨_, ho, rfl⟩, call_meets F.slot_tuple_mul ⟨_, ho, rfl⟩ F.entry_tuple_mul (F.args_tuple_mul_2 _ _) (tuple_mul1 l its.toArray n dd sl t) ⟨ho, ⟨.ref l, H, I, rfl, q⟩⟩⟩)
theorem mul_ok : OpR X (binaryOp .Mult) (r2 X.K fun v w s => okV (bop .mul v w) s) := by
  intro pins s σ H x y v u Q I rx ry ⟨W, H0, G0, G, v', w', A, B, t, n, rv, rw', fa, fb, hp⟩
  cases v' <;> cases w' <;> first
    | exact False.elim hp
    | skip
  · obtain rfl := rv.int_of
    obtain rfl := rw'.int_of
    obtain ⟨hb, hp⟩ := okI hp
    rcases cmulW_of hb with hc | hc
    · exact op_mulW pins s σ H _ _ v u Q I rx ry ⟨_, _, rfl, rfl, hc, fin0 hp n (.int _)⟩
    · exact op_mul pins s σ H _ _ v u Q I rx ry ⟨_, _, rfl, rfl, hc, fin0 hp n (.int _)⟩
  · rename_i xs j
    obtain ⟨a, vs, rfl, ea, r1⟩ := rv.tup_of
    obtain rfl := rw'.int_of
    obtain ⟨hb, hp⟩ := okI hp
    by_cases hj : j = 1
    · subst hj
      have hp : Post X.K H0 G0 (RV X.K) W Q (.ok (.tup xs) t) := by
        have e : (List.replicate (1 : Int).toNat xs).flatten = xs := by simp
        rw [e] at hp; exact hp
      exact op_rep1 pins s σ H _ _ v u Q I rx ry ⟨a, vs, rfl, rfl, SqT.of' ea, hp.at n rv fa⟩
    rw [decide_eq_false hj, Bool.false_or] at hb
    simp only [Bool.and_eq_true, decide_eq_true_eq] at hb
    have l1 := r1.length
    refine op_repT pins s σ H _ _ v u Q I rx ry ⟨a, j, vs, rfl, rfl, SqT.of' ea, ?_, hb.1.1.2, hb.1.2, by omega, fun p hpn => fin_tup hp n (r1.rep _) p hpn⟩
    intro e
    subst e
    have := hb.1.1.1
    simp only [List.length_nil] at l1
    omega
  · rename_i m xs j
    have n' := n.addT fa rv.lists
    obtain ⟨a, vs, rfl, ea, r1⟩ := (rv.keep (Keep.addT A A)).items fun a q => .inr q
    obtain rfl := rw'.int_of
    obtain ⟨hb, hp⟩ := okI hp
    simp only [Bool.and_eq_true, decide_eq_true_eq] at hb
    have l1 := r1.length
    rw [brws_length] at l1
    refine op_rep pins s σ H _ _ v u Q I rx ry ⟨a, j, vs, rfl, rfl, ea, hb.1.1, hb.1.2, by rw [← l1]; exact hb.2, fun p hpn => fin_new hp n' (r1.rep _) p hpn⟩

theorem bin_ok : ∀ o : BOp, OpR X (binaryOp o.op) (r2 X.K fun v w s => okV (bop o v w) s)
  | .add => add_ok
  | .sub => sub_ok
  | .mul => mul_ok
  | .fdiv => fdiv_ok
  | .mod => mod_ok
  | .pow => pow_ok
  | .shl => shl_ok
  | .shr => shr_ok
  | .band => band_ok
end
end Py
end

section
/-! PyD: comparisons, dicts, items, slices. -/
namespace Py
open PySem L2

mutual
theorem shp_lay : ∀ (n : Nat) (v : PV), shp n v = true → (toD v).canLay0 = true ∧ (toD v).depth ≤ n
  | _, .non, _ => by simp [toD, PyData.canLay0, PyData.depth]
  | _, .bl _, _ => by simp [toD, PyData.canLay0, PyData.depth]
  | _, .int _, _ => by simp [toD, PyData.canLay0, PyData.depth]
  | n, .str s, h => by
    have h : PyData.strOk s = true := by cases n <;> simpa [shp] using h
    simp [toD, PyData.canLay0, PyData.depth, h]
  | 0, .tup _, h => by simp [shp] at h
  | 0, .lst _ _, h => by simp [shp] at h
  | n + 1, .tup xs, h => by
    have := shps_lay n xs (by simpa [shp] using h)
    simp only [toD, PyData.canLay0, PyData.depth]
    exact ⟨this.1, by omega⟩
  | n + 1, .lst _ xs, h => by
    have := shps_lay n xs (by simpa [shp] using h)
    simp only [toD, PyData.canLay0, PyData.depth]
    exact ⟨this.1, by omega⟩
  | n, .dct _, h => by cases n <;> simp [shp] at h
  | n, .src, h => by cases n <;> simp [shp] at h
  | n, .scr, h => by cases n <;> simp [shp] at h
theorem shps_lay : ∀ (n : Nat) (v : List PV), shps n v = true → PyData.canLayAll0 (toDs v) = true ∧ PyData.depthAll (toDs v) ≤ n
  | _, [], _ => by simp [toDs, PyData.canLayAll0, PyData.depthAll]
  | n, x :: xs, h => by
    simp only [shps, Bool.and_eq_true] at h
    have h1 := shp_lay n x h.1
    have h2 := shps_lay n xs h.2
    simp only [toDs, PyData.canLayAll0, PyData.depthAll, h1.1, h2.1, Bool.and_self]
    exact ⟨trivial, by omega⟩
end
theorem shp_shaped {v : PV} (h : shp 30 v = true) : SeqAt.shaped (toD v) = true := by
  have := shp_lay 30 v h
  unfold SeqAt.shaped
  rw [Bool.and_eq_true, decide_eq_true_eq]
  exact ⟨this.1, by omega⟩
theorem shps_shaped {v : List PV} (h : shps 30 v = true) : SeqAt.shaped (.list (toDs v)) = true := by
  have := shps_lay 30 v h
  unfold SeqAt.shaped
  rw [Bool.and_eq_true, decide_eq_true_eq]
  simp only [PyData.canLay0, PyData.depth]
  exact ⟨this.1, by omega⟩

mutual
theorem RV.dp {K : W.Frag} {G : Gh} {H : Hp} : ∀ {n : Nat} {x : PV} {v : V} {A : List Addr}, RV K G H x v A → shp n x = true → Dp K H v (toD x)
  | _, _, _, _, .non, _ => by simp only [toD]; exact .non
  | _, _, _, _, .bl b, _ => by simp only [toD]; exact .bl b
  | _, _, _, _, .int i, _ => by simp only [toD]; exact .int i
  | _, _, _, _, .str x, _ => by simp only [toD]; exact .str x
  | 0, _, _, _, .tup _ _, s => by simp [shp] at s
  | n + 1, _, _, _, .tup h r, s => by simp only [toD]; exact .tup (SqT.of' h) (RVs.dp (n := n) r (by simpa [shp] using s))
  | 0, _, _, _, .lf _ _ _, s => by simp [shp] at s
  | n + 1, _, _, _, .lf h _ r, s => by simp only [toD]; exact .lst (SqL.of' h) (RVs.dp (n := n) r (by simpa [shp] using s))
  | 0, _, _, _, .lb _ _ _, s => by simp [shp] at s
  | n + 1, _, _, _, .lb h _ r, s => by simp only [toD]; exact .lst (SqL.of' h) (RVs.dp (n := n) r (by simpa [shp] using s))
  | 0, _, _, _, .lt _ _ _, s => by simp [shp] at s
  | n + 1, _, _, _, .lt h _ r, s => by simp only [toD]; exact .lst (SqL.of' h) (RVs.dp (n := n) r (by simpa [shp] using s))
  | 0, _, _, _, .lo _ _, s => by simp [shp] at s
  | n + 1, _, _, _, .lo h r, s => by simp only [toD]; exact .lst (SqL.of' h) (RVs.dp (n := n) r (by simpa [shp] using s))
  | n, _, _, _, .dct _, s => by cases n <;> simp [shp] at s
  | n, _, _, _, .src _, s => by cases n <;> simp [shp] at s
  | n, _, _, _, .scr, s => by cases n <;> simp [shp] at s
theorem RVs.dp {K : W.Frag} {G : Gh} {H : Hp} : ∀ {n : Nat} {x : List PV} {v : List V} {A : List Addr}, RVs K G H x v A → shps n x = true → DpAll K H v (toDs x)
  | _, _, _, _, .nil, _ => by simp only [toDs]; exact .nil
  | n, _, _, _, .cons h r, s => by
    simp only [shps, Bool.and_eq_true] at s
    simp only [toDs]
    exact .cons (RV.dp h s.1) (RVs.dp r s.2)
end

theorem memP_any (a : PV) : ∀ xs : List PV, memP a xs = (toDs xs).any fun y => PyData.eqv y (toD a)
  | [] => by simp [memP, toDs]
  | x :: xs => by simp only [memP, toDs, List.any_cons, eqP, memP_any a xs]

/-! ### < -/
theorem toDs_get : ∀ (xs : List PV) (j : Nat), (toDs xs)[j]? = (xs[j]?).map toD
  | [], j => by simp [toDs]
  | x :: xs, 0 => by simp [toDs]
  | x :: xs, j + 1 => by simp only [toDs, List.getElem?_cons_succ]; exact toDs_get xs j
theorem reads_at {h : Heap} : ∀ {us : List Value} {ds : List PyData} {as : List Addr} (j : Nat), ReadsAll h us ds as → ∀ u d, us[j]? = some u → ds[j]? = some d → ∃ bs, Reads h u d bs
  | _, _, _, j, .nil, u, d, e, _ => by simp at e
  | _, _, _, 0, .cons a b, u, d, e, e' => by
    simp only [List.getElem?_cons_zero, Option.some.injEq] at e e'
    subst e e'
    exact ⟨_, a⟩
  | _, _, _, j + 1, .cons a b, u, d, e, e' => by
    simp only [List.getElem?_cons_succ] at e e'
    exact reads_at j b u d e e'
theorem readsAll_len {h : Heap} : ∀ {us : List Value} {ds : List PyData} {as : List Addr}, ReadsAll h us ds as → us.length = ds.length
  | _, _, _, .nil => rfl
  | _, _, _, .cons _ b => by rw [List.length_cons, List.length_cons, readsAll_len b]

def nth (xs : List PyData) (j : Nat) : PyData := xs.getD j .none
theorem ltDs_lex : ∀ (xs ys : List PyData) (b : Bool) (e r : Nat → Bool) (i : Nat) (z : Bool), ltDs xs ys = some b → (∀ j, j < xs.length → j < ys.length → e (i + j) = PyData.eqv (nth xs j) (nth ys j)) →
    (∀ j, j < xs.length → j < ys.length → ltD (nth xs j) (nth ys j) = some (r (i + j))) → z = decide (xs.length < ys.length) → Ob.lexAt e r z i (min xs.length ys.length) = b
  | [], [], b, e, r, i, z, h, _, _, hz => by
    simp only [ltDs, Option.some.injEq] at h
    subst h
    rw [hz]; rfl
  | [], y :: ys, b, e, r, i, z, h, _, _, hz => by
    simp only [ltDs, Option.some.injEq] at h
    subst h
    rw [hz]
    simp [Ob.lexAt]
  | x :: xs, [], b, e, r, i, z, h, _, _, hz => by
    simp only [ltDs, Option.some.injEq] at h
    subst h
    rw [hz]
    simp [Ob.lexAt]
  | x :: xs, y :: ys, b, e, r, i, z, h, he, hr, hz => by
    have e0 := he 0 (by simp) (by simp)
    have r0 := hr 0 (by simp) (by simp)
    simp only [Nat.add_zero, nth, List.getD_cons_zero] at e0 r0
    unfold ltDs at h
    rw [r0] at h
    cases hl : ltDs xs ys with
    | none => rw [hl] at h; cases h
    | some c =>
      rw [hl] at h
      simp only [Option.some.injEq] at h
      have ih := ltDs_lex xs ys c e r (i + 1) z hl (fun j h1 h2 => by
        have := he (j + 1) (by simp; omega) (by simp; omega)
        rw [show i + 1 + j = i + (j + 1) by omega]
        simpa [nth] using this) (fun j h1 h2 => by
        have := hr (j + 1) (by simp; omega) (by simp; omega)
        rw [show i + 1 + j = i + (j + 1) by omega]
        simpa [nth] using this) (by rw [hz]; simp)
      have em : min (x :: xs).length (y :: ys).length = min xs.length ys.length + 1 := by simp only [List.length_cons]; omega
      rw [em, Ob.lexAt_succ, e0, ih]
      exact h
theorem ltDs_all : ∀ (xs ys : List PyData) (b : Bool), ltDs xs ys = some b → ∀ j, j < xs.length → j < ys.length → ∃ c, ltD (nth xs j) (nth ys j) = some c
  | [], _, _, _, j, h, _ => by simp at h
  | _ :: _, [], _, _, j, _, h => by simp at h
  | x :: xs, y :: ys, b, h, j, h1, h2 => by
    unfold ltDs at h
    cases ha : ltD x y with
    | none => rw [ha] at h; cases h
    | some a =>
      cases hb : ltDs xs ys with
      | none => rw [ha, hb] at h; cases h
      | some c =>
        cases j with
        | zero => exact ⟨a, by simpa [nth] using ha⟩
        | succ j =>
          obtain ⟨d, hd⟩ := ltDs_all xs ys c hb j (by simpa using h1) (by simpa using h2)
          exact ⟨d, by simpa [nth] using hd⟩
theorem canLayAll_at : ∀ (ds : List PyData), PyData.canLayAll0 ds = true → ∀ d ∈ ds, d.canLay0 = true
  | [], _, d, h => nomatch h
  | x :: xs, h, d, hd => by
    simp only [PyData.canLayAll0, Bool.and_eq_true] at h
    rcases List.mem_cons.mp hd with e | e
    · rw [e]; exact h.1
    · exact canLayAll_at xs h.2 d e
theorem depthAll_at : ∀ (ds : List PyData), ∀ d ∈ ds, d.depth ≤ PyData.depthAll ds
  | [], d, h => nomatch h
  | x :: xs, d, hd => by
    simp only [PyData.depthAll]
    rcases List.mem_cons.mp hd with e | e
    · rw [e]; omega
    · have := depthAll_at xs d e; omega

theorem rc_lt : ∀ (n : Nat) (d e : PyData) (b : Bool) (A : Around) (s : Shared) (u v : Value) (as bs : List Addr), d.depth ≤ n → ltD d e = some b → Reads s.heap u d as → Reads s.heap v e bs → d.canLay0 = true → e.canLay0 = true → A.units + n + 2 < cLine →
    Ob.RcOp .Lt A s u v b := by
  intro n
  induction n with
  | zero =>
    intro d e b A s u v as bs hn h ru rv c1 c2 hu
    cases d <;> cases e <;> simp only [ltD] at h <;> try cases h
    · cases ru; cases rv; exact Ob.RcOp.lt_int _ _ _ _
    · cases ru; cases rv; exact fun _ _ _ _ h => PySem.P.lt_str h
    · simp only [PyData.depth] at hn; omega
  | succ n ih =>
    intro d e b A s u v as bs hn h ru rv c1 c2 hu
    cases d <;> cases e <;> simp only [ltD] at h <;> try cases h
    · cases ru; cases rv; exact Ob.RcOp.lt_int _ _ _ _
    · cases ru; cases rv; exact fun _ _ _ _ h => PySem.P.lt_str h
    · rename_i xs ys
      cases ru with
      | tuple h1 h2 h3 h4 =>
        cases rv with
        | tuple g1 g2 g3 g4 =>
          rename_i a o its nn a' o' its' nn'
          have l1 := readsAll_len h4
          have l2 := readsAll_len g4
          have dd : PyData.depthAll xs ≤ n := by simp only [PyData.depth] at hn; omega
          have cx : ∀ d ∈ xs, d.canLay0 = true := canLayAll_at xs (by simpa [PyData.canLay0] using c1)
          have cy : ∀ d ∈ ys, d.canLay0 = true := canLayAll_at ys (by simpa [PyData.canLay0] using c2)
          have gx : ∀ j (q : j < its.size), ∃ bs, Reads s.heap its[j] (nth xs j) bs ∧ nth xs j ∈ xs := fun j q => by
            have q' : j < xs.length := by rw [← l1]; simpa using q
            obtain ⟨bs, r⟩ := reads_at j h4 its[j] (nth xs j) (by simp [q]) (by simp [nth, List.getD_eq_getElem?_getD, q'])
            exact ⟨bs, r, by simp [nth, List.getD_eq_getElem?_getD, q']⟩
          have gy : ∀ j (q : j < its'.size), ∃ bs, Reads s.heap its'[j] (nth ys j) bs ∧ nth ys j ∈ ys := fun j q => by
            have q' : j < ys.length := by rw [← l2]; simpa using q
            obtain ⟨bs, r⟩ := reads_at j g4 its'[j] (nth ys j) (by simp [q]) (by simp [nth, List.getD_eq_getElem?_getD, q'])
            exact ⟨bs, r, by simp [nth, List.getD_eq_getElem?_getD, q']⟩
          have R := Ob.RcOp.tuples_lt (A := A) (s := s) (e := fun j => PyData.eqv (nth xs j) (nth ys j)) (r := fun j => (ltD (nth xs j) (nth ys j)).getD false) ⟨_, h1, h2, _, h3⟩ ⟨_, g1, g2, _, g3⟩ (by omega)
            (fun j q1 q2 => by
              obtain ⟨bs1, r1, m1⟩ := gx j q1
              obtain ⟨bs2, r2, m2⟩ := gy j q2
              exact SeqAt.eqAt_reads _ _ _ _ _ _ _ _ r1 r2 (cx _ m1) (cy _ m2) (by
                have := depthAll_at xs _ m1
                show A.units + 1 + min (nth xs j).depth (nth ys j).depth < cLine
                omega))
            (fun j q1 q2 _ => by
              obtain ⟨bs1, r1, m1⟩ := gx j q1
              obtain ⟨bs2, r2, m2⟩ := gy j q2
              obtain ⟨c, hc⟩ := ltDs_all xs ys b h j (by rw [← l1]; simpa using q1) (by rw [← l2]; simpa using q2)
              simp only [hc, Option.getD_some]
              refine ih _ _ c A.in1 s _ _ bs1 bs2 ?_ hc r1 r2 (cx _ m1) (cy _ m2) (by show A.units + 1 + n + 2 < _; omega)
              have := depthAll_at xs _ m1
              omega)
          have e1 : its.size = xs.length := by rw [← l1]; simp
          have e2 : its'.size = ys.length := by rw [← l2]; simp
          rw [e1, e2, ltDs_lex xs ys b _ _ 0 _ h (fun j _ _ => by simp) (fun j q1 q2 => by
            obtain ⟨c, hc⟩ := ltDs_all xs ys b h j q1 q2
            simp [hc]) rfl] at R
          exact R

/-! ### comparisons -/
section
variable {X : Cx}
def COp.op : COp → CmpOp
  | .eq => .Eq | .ne => .NotEq | .lt => .Lt | .le => .LtE | .gt => .Gt | .ge => .GtE | .isN => .Is | .notN => .IsNot | .inn => .In | .nin => .NotIn

theorem okM {K : W.Frag} {H0 : Hp} {G0 : Gh} {W : XW} {Q : VK} {s : St} {o : Option Bool} (h : Post K H0 G0 (RV K) W Q (okV (o.map PV.bl) s)) : ∃ b, o = some b ∧ Post K H0 G0 (RV K) W Q (.ok (.bl b) s) := by
  cases o with
  | none => exact False.elim h
  | some b => exact ⟨b, rfl, h⟩
theorem ifS {b c : Bool} {x : Bool} (h : (if c = true then some x else none) = some b) : c = true ∧ x = b := by
  cases c with
  | true => exact ⟨rfl, by simpa using h⟩
  | false => cases h

theorem eq_ok (c : Cxt X) : OpR X (compareOp .Eq) (r2c X.K fun v w s => okV ((cop .eq v w s).map PV.bl) s) := by
  intro pins s σ H x y v u Q I rx ry ⟨W, H0, G0, G, v', w', A, B, t, n, rv, rw', hp⟩
  obtain ⟨b, hb, hp⟩ := okM hp
  obtain ⟨hs, rfl⟩ := ifS (by simpa only [cop] using hb)
  rw [Bool.and_eq_true] at hs
  have := c.hu
  exact op_eqD (by omega) pins s σ H x y v u Q I rx ry ⟨toD v', toD w', rv.dp hs.1, rw'.dp hs.2, shp_shaped hs.1, shp_shaped hs.2, fin0 hp n (.bl _)⟩
theorem ne_ok (c : Cxt X) : OpR X (compareOp .NotEq) (r2c X.K fun v w s => okV ((cop .ne v w s).map PV.bl) s) := by
  intro pins s σ H x y v u Q I rx ry ⟨W, H0, G0, G, v', w', A, B, t, n, rv, rw', hp⟩
  obtain ⟨b, hb, hp⟩ := okM hp
  obtain ⟨hs, rfl⟩ := ifS (by simpa only [cop] using hb)
  rw [Bool.and_eq_true] at hs
  have := c.hu
  exact op_neD (by omega) pins s σ H x y v u Q I rx ry ⟨toD v', toD w', rv.dp hs.1, rw'.dp hs.2, shp_shaped hs.1, shp_shaped hs.2, fin0 hp n (.bl _)⟩
theorem lt_ok (c : Cxt X) : OpR X (compareOp .Lt) (r2c X.K fun v w s => okV ((cop .lt v w s).map PV.bl) s) := by
  intro pins s σ H x y v u Q I rx ry ⟨W, H0, G0, G, v', w', A, B, t, n, rv, rw', hp⟩
  obtain ⟨b, hb, hp⟩ := okM hp
  simp only [cop] at hb
  split at hb
  · rename_i hs
    rw [Bool.and_eq_true] at hs
    have := c.hu
    obtain ⟨as, r1⟩ := Dp.reads I (toD v') x v (rv.dp hs.1) rx
    obtain ⟨bs, r2⟩ := Dp.reads I (toD w') y u (rw'.dp hs.2) ry
    have l1 := shp_lay 30 v' hs.1
    have l2 := shp_lay 30 w' hs.2
    have R := rc_lt 30 _ _ b X.A s v u as bs l1.2 hb r1 r2 l1.1 l2.1 (by omega)
    have z : wpAny (model X.prog X.w) X.A (compareOp .Lt v u) (EP X pins σ Q) X.xe s := R X.prog X.w X.xe (EP X pins σ Q) ⟨.bl _, H, I, rfl, fin0 hp n (.bl _)⟩
    exact z
  · cases hb
theorem le_ok : OpR X (compareOp .LtE) (r2c X.K fun v w s => okV ((cop .le v w s).map PV.bl) s) := by
  intro pins s σ H x y v u Q I rx ry ⟨W, H0, G0, G, v', w', A, B, t, n, rv, rw', hp⟩
  cases v' <;> cases w' <;> first
    | exact False.elim hp
    | skip
  obtain rfl := rv.int_of
  obtain rfl := rw'.int_of
  exact op_le pins s σ H _ _ v u Q I rx ry ⟨_, _, rfl, rfl, fin0 hp n (.bl _)⟩
theorem gt_ok : OpR X (compareOp .Gt) (r2c X.K fun v w s => okV ((cop .gt v w s).map PV.bl) s) := by
  intro pins s σ H x y v u Q I rx ry ⟨W, H0, G0, G, v', w', A, B, t, n, rv, rw', hp⟩
  cases v' <;> cases w' <;> first
    | exact False.elim hp
    | skip
  obtain rfl := rv.int_of
  obtain rfl := rw'.int_of
  exact op_gt pins s σ H _ _ v u Q I rx ry ⟨_, _, rfl, rfl, fin0 hp n (.bl _)⟩
theorem ge_ok : OpR X (compareOp .GtE) (r2c X.K fun v w s => okV ((cop .ge v w s).map PV.bl) s) := by
  intro pins s σ H x y v u Q I rx ry ⟨W, H0, G0, G, v', w', A, B, t, n, rv, rw', hp⟩
  cases v' <;> cases w' <;> first
    | exact False.elim hp
    | skip
  obtain rfl := rv.int_of
  obtain rfl := rw'.int_of
  exact op_ge pins s σ H _ _ v u Q I rx ry ⟨_, _, rfl, rfl, fin0 hp n (.bl _)⟩
theorem isn_of {K : W.Frag} {G : Gh} {H : Hp} {v : PV} {x : V} {A : List Addr} (h : RV K G H v x A) : decide (x = .non) = isNonB v := by
  cases h <;> rfl
theorem isn_ok : OpR X (compareOp .Is) (r2c X.K fun v w s => okV ((cop .isN v w s).map PV.bl) s) := by
  intro pins s σ H x y v u Q I rx ry ⟨W, H0, G0, G, v', w', A, B, t, n, rv, rw', hp⟩
  cases w' <;> first
    | exact False.elim hp
    | skip
  rotate_left
  · cases v' <;> first
      | exact False.elim hp
      | skip
    obtain rfl := rv.bl_of
    obtain rfl := rw'.bl_of
    exact op_isBl pins s σ H _ _ v u Q I rx ry ⟨_, _, rfl, rfl, fin0 hp n (.bl _)⟩
  obtain rfl := rw'.non_of
  refine op_isN pins s σ H _ _ v u Q I rx ry ⟨rfl, ?_⟩
  rw [isn_of rv]
  exact fin0 hp n (.bl _)
theorem notn_ok : OpR X (compareOp .IsNot) (r2c X.K fun v w s => okV ((cop .notN v w s).map PV.bl) s) := by
  intro pins s σ H x y v u Q I rx ry ⟨W, H0, G0, G, v', w', A, B, t, n, rv, rw', hp⟩
  cases w' <;> first
    | exact False.elim hp
    | skip
  rotate_left
  · cases v' <;> first
      | exact False.elim hp
      | skip
    obtain rfl := rv.bl_of
    obtain rfl := rw'.bl_of
    exact op_notBl pins s σ H _ _ v u Q I rx ry ⟨_, _, rfl, rfl, fin0 hp n (.bl _)⟩
  obtain rfl := rw'.non_of
  refine op_notN pins s σ H _ _ v u Q I rx ry ⟨rfl, ?_⟩
  rw [isn_of rv]
  exact fin0 hp n (.bl _)

/-! ### dicts -/
theorem eqP_int (i j : Int) : eqP (.int i) (.int j) = (i == j) := by simp [eqP, toD, PyData.eqv]
theorem eqP_str (i j : Str) : eqP (.str i) (.str j) = (i == j) := by simp [eqP, toD, PyData.eqv]

theorem key_of_kd1 {K : W.Frag} {G : Gh} {H : Hp} {x : PV} {v : V} {A : List Addr} (h : RV K G H x v A) (k : kd1 x = true) : ∃ q : Key, v = kV q ∧ A = [] := by
  cases h <;> simp [kd1] at k
  · rename_i i; exact ⟨.inl i, rfl, rfl⟩
  · rename_i i; exact ⟨.inr i, rfl, rfl⟩
theorem eq_of_kV {K : W.Frag} {G : Gh} {H : Hp} {x y : PV} {p q : Key} (h : RV K G H x (kV p) []) (h' : RV K G H y (kV q) []) : PyData.eqv (toD x) (toD y) = decide (p = q) := by
  cases p <;> cases q <;> (simp only [kV] at h h'; cases h; cases h'; simp [toD, PyData.eqv])
  · rename_i i j; rw [Bool.beq_eq_decide_eq]
  · rename_i i j; rw [Bool.beq_eq_decide_eq]
theorem eq_of_kVs {K : W.Frag} {G : Gh} {H : Hp} : ∀ {xs ys : List PV} {p q : List Key}, RVs K G H xs (p.map kV) [] → RVs K G H ys (q.map kV) [] → PyData.eqvAll (toDs xs) (toDs ys) = decide (p = q)
  | [], [], [], [], _, _ => by simp [toDs, PyData.eqvAll]
  | [], y :: ys, [], q :: qs, _, _ => by simp [toDs, PyData.eqvAll]
  | x :: xs, [], p :: ps, [], _, _ => by simp [toDs, PyData.eqvAll]
  | x :: xs, y :: ys, p :: ps, q :: qs, h, h' => by
    simp only [List.map_cons] at h h'
    simp only [toDs, PyData.eqvAll, eq_of_kV h.inv.1 h'.inv.1, eq_of_kVs h.inv.2 h'.inv.2]
    by_cases e : p = q
    · subst e; simp
    · simp [e]
  | [], _, _ :: _, _, h, _ => by cases h
  | _ :: _, _, [], _, h, _ => by cases h
  | _, [], _, _ :: _, _, h => by cases h
  | _, _ :: _, _, [], _, h => by cases h

theorem keys_of_kd1 {K : W.Frag} {G : Gh} {H : Hp} : ∀ {xs : List PV} {vs : List V}, RVs K G H xs vs [] → xs.all kd1 = true → ∃ q : List Key, vs = q.map kV
  | [], [], _, _ => ⟨[], rfl⟩
  | x :: xs, v :: vs, h, k => by
    simp only [List.all_cons, Bool.and_eq_true] at k
    obtain ⟨p, e, _⟩ := key_of_kd1 h.inv.1 k.1
    obtain ⟨q, e'⟩ := keys_of_kd1 h.inv.2 k.2
    exact ⟨p :: q, by rw [e, e']; rfl⟩
  | [], _ :: _, h, _ => by cases h
  | _ :: _, [], h, _ => by cases h

/-- keys of tuples -/
def TK (K : W.Frag) (G : Gh) (H : Hp) (x : PV) (q : List Key) : Prop := ∃ ks, x = .tup ks ∧ RVs K G H ks (q.map kV) []
theorem eq_of_tk {K : W.Frag} {G : Gh} {H : Hp} {x y : PV} {p q : List Key} (h : TK K G H x p) (h' : TK K G H y q) : eqP x y = decide (p = q) := by
  obtain ⟨a, rfl, r⟩ := h
  obtain ⟨b, rfl, r'⟩ := h'
  simp only [eqP, toD, PyData.eqv]
  exact eq_of_kVs r r'

section
variable {κ : Type} [DecidableEq κ] {K : W.Frag} {G : Gh} {H : Hp} {F : PV → κ → Prop}
/-- the dict's pairs by keys of one kind -/
abbrev PD (K : W.Frag) (G : Gh) (H : Hp) (F : PV → κ → Prop) : List (PV × PV) → List (κ × V) → Prop := Paired fun p q => F p.1 q.1 ∧ RV K G H p.2 q.2 []
theorem PD.get (hF : ∀ x y p q, F x p → F y q → eqP x y = decide (p = q)) {k : PV} {p : κ} (hk : F k p) : ∀ {d : List (PV × PV)} {kvs : List (κ × V)}, PD K G H F d kvs → (∀ v, dget k d = some v → ∃ y, valV kvs p = some y ∧ RV K G H v y []) ∧ (dget k d = none → valV kvs p = none)
  | [], [], _ => ⟨(fun v h => nomatch h), fun _ => rfl⟩
  | (x, v) :: d, (q, y) :: kvs, .cons h r => by
    have e := hF x k q p h.1 hk
    unfold dget
    by_cases z : q = p
    · rw [e, decide_eq_true z]
      rw [valV_pos (by exact z)]
      exact ⟨fun w hw => by simp at hw; subst hw; exact ⟨y, rfl, h.2⟩, fun hw => by simp at hw⟩
    · rw [e, decide_eq_false z]
      rw [valV_neg (by exact z)]
      exact PD.get hF hk r
theorem PD.has (hF : ∀ x y p q, F x p → F y q → eqP x y = decide (p = q)) {k : PV} {p : κ} (hk : F k p) : ∀ {d : List (PV × PV)} {kvs : List (κ × V)}, PD K G H F d kvs → dhas k d = (valV kvs p).isSome ∧ dhas k d = kvs.any fun kv => decide (kv.1 = p)
  | [], [], _ => ⟨rfl, rfl⟩
  | (x, v) :: d, (q, y) :: kvs, .cons h r => by
    have e := hF x k q p h.1 hk
    unfold dhas
    by_cases z : q = p
    · rw [e, decide_eq_true z, valV_pos (by exact z)]
      simp [z]
    · have ih := PD.has hF hk r
      rw [e, decide_eq_false z, valV_neg (by exact z)]
      simp only [Bool.false_or, List.any_cons, decide_eq_false z]
      exact ih
theorem PD.mapv (hF : ∀ x y p q, F x p → F y q → eqP x y = decide (p = q)) {k : PV} {p : κ} (hk : F k p) {v : PV} {y : V} (hv : RV K G H v y []) : ∀ {d : List (PV × PV)} {kvs : List (κ × V)}, PD K G H F d kvs →
    PD K G H F (d.map fun z => if eqP z.1 k then (z.1, v) else z) (kvs.map fun kv => if kv.1 = p then (kv.1, y) else kv)
  | [], [], _ => .nil
  | a :: d, b :: kvs, .cons r t => by
    simp only [List.map_cons]
    refine .cons ?_ (PD.mapv hF hk hv t)
    have e := hF a.1 k b.1 p r.1 hk
    by_cases z : b.1 = p
    · rw [e, decide_eq_true z, if_pos rfl, if_pos z]
      exact ⟨r.1, hv⟩
    · rw [e, decide_eq_false z, if_neg (by simp), if_neg z]
      exact r
theorem PD.snoc {k : PV} {p : κ} (hk : F k p) {v : PV} {y : V} (hv : RV K G H v y []) : ∀ {d : List (PV × PV)} {kvs : List (κ × V)}, PD K G H F d kvs → PD K G H F (d ++ [(k, v)]) (kvs ++ [(p, y)])
  | [], [], _ => .cons ⟨hk, hv⟩ .nil
  | a :: d, b :: kvs, .cons r t => .cons r (PD.snoc hk hv t)
theorem PD.put (hF : ∀ x y p q, F x p → F y q → eqP x y = decide (p = q)) {k : PV} {p : κ} (hk : F k p) {v : PV} {y : V} (hv : RV K G H v y []) {d : List (PV × PV)} {kvs : List (κ × V)} (h : PD K G H F d kvs) : PD K G H F (dput k v d) (putK kvs p y) := by
  unfold dput putK
  rw [(PD.has hF hk h).2]
  split
  · exact PD.mapv hF hk hv h
  · exact PD.snoc hk hv h
theorem PD.len {d : List (PV × PV)} {kvs : List (κ × V)} (h : PD K G H F d kvs) : d.length = kvs.length := Paired.length h
end
end
end Py
end

section
/-! PyE: dicts, items, slices, by values. -/
namespace Py
open PySem L2 PyProof.Rows

section
variable {K : W.Frag} {H0 H : Hp} {G0 G : Gh} {s : St}
/-- a dict stands at a, not walked -/
def IsDcU (H : Hp) (a : Addr) : Prop := (∃ kvs, H a = some (.dK kvs)) ∨ ∃ kvs, H a = some (.dT kvs)
/-- a dict stands at a -/
def IsDc (H : Hp) (a : Addr) : Prop := IsDcU H a ∨ (∃ o kvs, H a = some (.frz o (.dK kvs))) ∨ ∃ o kvs, H a = some (.frz o (.dT kvs))
theorem DIs.isDc {a : Addr} {d : List (PV × PV)} (h : DIs K G H a d) : IsDc H a := by
  cases h with
  | k e _ => exact .inl (.inl ⟨_, e⟩)
  | t e _ => exact .inl (.inr ⟨_, e⟩)
  | fk e _ => exact .inr (.inl ⟨_, _, e⟩)
  | ft e _ => exact .inr (.inr ⟨_, _, e⟩)
theorem DIs.isDcU {a : Addr} {d : List (PV × PV)} (h : DIs K G H a d) (hm : isMk d = false) : IsDcU H a := by
  cases h with
  | k e _ => exact .inl ⟨_, e⟩
  | t e _ => exact .inr ⟨_, e⟩
  | fk e _ => cases hm
  | ft e _ => cases hm
theorem IsDc.ne_tup {a b : Addr} {xs : List V} (h : IsDc H a) (e : H b = some (.tup xs)) : b ≠ a := by
  rintro rfl
  rcases h with (⟨_, h⟩ | ⟨_, h⟩) | ⟨_, _, h⟩ | ⟨_, _, h⟩ <;> rw [h] at e <;> cases e
theorem IsDc.ne_lst {a b : Addr} {xs : List V} (h : IsDc H a) (e : H b = some (.lst xs)) : b ≠ a := by
  rintro rfl
  rcases h with (⟨_, h⟩ | ⟨_, h⟩) | ⟨_, _, h⟩ | ⟨_, _, h⟩ <;> rw [h] at e <;> cases e
theorem IsDcU.ne_frz {a b : Addr} {o : Obj} {u : HO} (h : IsDcU H a) (e : H b = some (.frz o u)) : b ≠ a := by
  rintro rfl
  rcases h with ⟨_, h⟩ | ⟨_, h⟩ <;> rw [h] at e <;> cases e
theorem IsDc.ne_frl {a b : Addr} {o : Obj} {xs : List V} (h : IsDc H a) (e : H b = some (.frz o (.lst xs))) : b ≠ a := by
  rintro rfl
  rcases h with (⟨_, h⟩ | ⟨_, h⟩) | ⟨_, _, h⟩ | ⟨_, _, h⟩ <;> rw [h] at e <;> cases e
theorem IsDc.some {a : Addr} (h : IsDc H a) : ∃ o, H a = some o := by
  rcases h with (⟨_, h⟩ | ⟨_, h⟩) | ⟨_, _, h⟩ | ⟨_, _, h⟩ <;> exact ⟨_, h⟩
theorem mk_no {k : PV} {d : List (PV × PV)} (h : isMk d = true) : kdOk k d = false := by
  rcases d with _ | ⟨⟨x, v⟩, r⟩
  · cases h
  · cases x <;> first
      | (cases h; done)
      | (show (kd k != 0 && (0 == kd k)) = false
         cases h0 : kd k with
         | zero => rfl
         | succ n => rfl)
theorem no_mk {k : PV} {d : List (PV × PV)} (h : kdOk k d = true) : isMk d = false := by
  cases hm : isMk d with
  | false => rfl
  | true => rw [mk_no hm] at h; cases h

/-- a dict is written -/
theorem Pr.dict {a : Addr} {o : HO} (h : IsDcU H a) : Pr G H (L2.upd H a o) where
  tup := fun b xs e => by rw [upd_ne (IsDc.ne_tup (.inl h) e)]; exact e
  frz := fun b _ xs e => by rw [upd_ne (h.ne_frz e)]; exact e
  lst := fun b xs e _ => by rw [upd_ne (IsDc.ne_lst (.inl h) e)]; exact e
  dom := fun b e => by
    by_cases z : b = a
    · rw [z, upd_same] at e; cases e
    · rw [upd_ne z] at e; exact e
theorem Keep.dict {a : Addr} {o : HO} {A : List Addr} (h : IsDcU H a) : Keep K G G H (upd H a o) A where
  tup := fun b xs e => by rw [upd_ne (IsDc.ne_tup (.inl h) e)]; exact e
  fz := fun _ x => x
  tz := fun _ x => x
  lst := fun b xs e _ => by rw [upd_ne (IsDc.ne_lst (.inl h) e)]; exact e
  ds := fun _ _ x => x
  sr := fun _ x => x
  sc := rfl
  frz := fun b _ xs e => by rw [upd_ne (h.ne_frz e)]; exact e
theorem SR.dict {n : Nat} {a : Addr} {d d' : List (PV × PV)} {o : HO} (hu : IsDcU H a) (r : SR K G H s) (e1 : s.ds[n]? = some d) (e2 : G.ds[n]? = some a) (new : DIs K G (upd H a o) a d') (hb : ∀ p ∈ d', nob p.2 = true) : SR K G (upd H a o) (s.dset n d') := by
  have hd := (r.dat n d a e1 e2).isDc
  have hn : n < s.ds.length := (List.getElem?_eq_some_iff.mp e1).1
  have mem : a ∈ G.ds := List.mem_of_getElem? e2
  refine ⟨by simp [St.dset, r.len], r.nd, fun m d1 b h1 h2 => ?_, fun b f => ?_, fun b f => ?_, r.ft, r.op, fun b c e => ?_, ?_, fun d1 h1 => ?_⟩
  · by_cases z : m = n
    · subst z
      simp only [St.dset, List.getElem?_set_self hn] at h1
      cases h1
      rw [e2] at h2
      cases h2
      exact new
    · simp only [St.dset, List.getElem?_set_ne (Ne.symm z)] at h1
      have hb : b ≠ a := by
        rintro rfl
        have q1 := List.getElem?_eq_some_iff.mp e2
        have q2 := List.getElem?_eq_some_iff.mp h2
        obtain ⟨l1, g1⟩ := q1
        obtain ⟨l2, g2⟩ := q2
        exact z ((List.getElem_inj r.nd).mp (g2.trans g1.symm))
      exact DIs.keep (Keep.dict hu) (fun o e => by rw [upd_ne hb]; exact e) (r.dat m d1 b h1 h2)
  · obtain ⟨xs, e⟩ := r.fl b f
    exact ⟨xs, by rw [upd_ne (hd.ne_lst e)]; exact e⟩
  · obtain ⟨xs, e⟩ := r.tl b f
    exact ⟨xs, by rw [upd_ne (hd.ne_lst e)]; exact e⟩
  · obtain ⟨⟨n0, kvs, ns, l, m, t, q1, q2, q3⟩, nb, n1, n2⟩ := r.si b c e
    have hb : b ≠ a := fun z => nb (z ▸ mem)
    exact ⟨⟨n0, kvs, ns, l, m, t, by rw [upd_ne hb]; exact q1, by rw [upd_ne (hd.ne_lst q2)]; exact q2, q3⟩, nb, n1, n2⟩
  · obtain ⟨ns, nl, x⟩ := r.sc
    refine ⟨ns, nl, ?_⟩
    rcases x with x | ⟨y, x⟩
    · exact .inl x
    · exact .inr ⟨y, by rw [upd_ne (hd.ne_frl x)]; exact x⟩
  · rcases List.mem_or_eq_of_mem_set h1 with h1 | h1
    · exact r.nb d1 h1
    · rw [h1]; exact hb
theorem dset_same {n : Nat} {d : List (PV × PV)} (h : s.ds[n]? = some d) : s.dset n d = s := by
  obtain ⟨ds, op⟩ := s
  simp only [St.dset, St.mk.injEq, and_true]
  apply List.ext_getElem?
  intro m
  by_cases z : m = n
  · subst z
    rw [List.getElem?_set_self (List.getElem?_eq_some_iff.mp h).1]
    exact h.symm
  · rw [List.getElem?_set_ne (Ne.symm z)]
theorem Nw.dict {n : Nat} {a : Addr} {d d' : List (PV × PV)} {o : HO} (hu : IsDcU H a) (w : Nw K H0 G0 H G s) (e1 : s.ds[n]? = some d) (e2 : G.ds[n]? = some a) (new : DIs K G (upd H a o) a d') (hb : ∀ p ∈ d', nob p.2 = true) : Nw K H0 G0 (upd H a o) G (s.dset n d') :=
  ⟨w.le, w.pr.trans w.le (Pr.dict hu), SR.dict hu w.sr e1 e2 new hb⟩
theorem SR.at {n : Nat} {d : List (PV × PV)} (r : SR K G H s) (e : s.ds[n]? = some d) : ∃ a, G.ds[n]? = some a ∧ DIs K G H a d := by
  have h : n < G.ds.length := by rw [← r.len]; exact (List.getElem?_eq_some_iff.mp e).1
  exact ⟨G.ds[n], by simp [h], r.dat n d _ e (by simp [h])⟩
end

section
variable {X : Cx} {pins : List (Addr × Obj)} {σ : L2.St} {H : Hp} {s : Shared} {a : Addr}
/-- the empty dict is of both kinds -/
theorem toT (I : Inv X pins σ H s) (e : H a = some (.dK [])) : Inv X pins σ (upd H a (.dT [])) s := by
  obtain ⟨z, hs, vs, kv, o, es, ep, h1, h2, h3, h4, h5, h6⟩ := dk_of I.hok e
  cases kv
  obtain ⟨u, hu⟩ := (⟨o, h1⟩ : ∃ u, s.heap.get? a = some u)
  have he : es.toList = [] := by
    generalize es.toList = l at h5
    cases h5
    rfl
  exact I.write (x := a) (e := a) (h' := s.heap) (t' := s.toks) (by rw [e]; trivial) (.inl rfl) (fun _ _ _ q => q) ⟨u, hu⟩ ⟨z, hs, [], .nil, o, es, ep, h1, h2, h3, he, List.nodup_nil⟩
theorem toK (I : Inv X pins σ H s) (e : H a = some (.dT [])) : Inv X pins σ (upd H a (.dK [])) s := by
  obtain ⟨z, hs, xs, kt, o, es, ep, h1, h2, h3, h4, h5, h6⟩ := dt_of I.hok e
  cases kt
  have he : es.toList = [] := h4
  obtain ⟨l⟩ := es
  simp only at he
  subst he
  exact I.write (x := a) (e := a) (h' := s.heap) (t' := s.toks) (by rw [e]; trivial) (.inl rfl) (fun _ _ _ q => q) ⟨o, h1⟩ ⟨z, hs, [], .nil, o, _, ep, h1, h2, h3, (fun x hx => by simp at hx), .nil, List.nodup_nil⟩
end

/-! ### a dict asked, a dict written -/
section
variable {X : Cx} {pins : List (Addr × Obj)} {σ : L2.St} {H H0 : Hp} {G0 G : Gh} {s : Shared} {t : Py.St} {a : Addr}
theorem tk_uniq {K : W.Frag} {x y : PV} {p q : List Key} (h : TK K G H x p) (h' : TK K G H y q) : eqP x y = decide (p = q) := eq_of_tk h h'
def SK (K : W.Frag) (G : Gh) (H : Hp) (x : PV) (q : Key) : Prop := RV K G H x (kV q) []
theorem sk_uniq {K : W.Frag} {x y : PV} {p q : Key} (h : SK K G H x p) (h' : SK K G H y q) : eqP x y = decide (p = q) := eq_of_kV h h'
theorem kd_sk {K : W.Frag} {x : PV} {q : Key} (h : SK K G H x q) : kd x = 1 := by
  cases q <;> (unfold SK kV at h; cases h; rfl)
theorem kd_tk {K : W.Frag} {x : PV} {q : List Key} (h : TK K G H x q) : kd x = 2 ∨ kd x = 0 := by
  obtain ⟨ks, rfl, _⟩ := h
  rw [show kd (.tup ks) = if ks.all kd1 then 2 else 0 from rfl]
  cases ks.all kd1 <;> simp
/-- the dict may be asked for a key: what it gives, behind a change of names alone -/
theorem dask {n : Nat} {d : List (PV × PV)} {k : PV} {y : V} {B : List Addr} (I : Inv X pins σ H s) (n0 : Nw X.K H0 G0 H G t) (e1 : t.ds[n]? = some d) (hk : kdOk k d = true) (rk : RV X.K G H k y B) :
    ∃ a H1, G.ds[n]? = some a ∧ Inv X pins σ H1 s ∧ Nw X.K H0 G0 H1 G t ∧ (∀ A, Keep X.K G G H H1 A) ∧
      ((∀ v, dget k d = some v → ∃ z, DGet H1 a y (some z) ∧ RV X.K G H1 v z []) ∧ (dget k d = none → DGet H1 a y none) ∧ ∃ o, DGet H1 a y o ∧ dhas k d = o.isSome) ∧
      (∀ v z, RV X.K G H1 v z [] → d.length < sizeLine → ∃ o, DPut H1 a y z (upd H1 a o) ∧ DIs X.K G (upd H1 a o) a (dput k v d)) := by
  obtain ⟨a, e2, hd⟩ := n0.sr.at e1
  -- by the key's kind, the dict's kind
  have kcase : (∃ q, SK X.K G H k q ∧ y = kV q) ∨ ∃ q b, TK X.K G H k q ∧ y = .ref b ∧ H b = some (.tup (q.map kV)) := by
    have hne : kd k ≠ 0 := by
      cases d with
      | nil => simpa [kdOk] using hk
      | cons p r => obtain ⟨p1, p2⟩ := p; simp [kdOk] at hk; exact hk.1
    cases rk with
    | int i => exact .inl ⟨.inl i, .int i, rfl⟩
    | str x => exact .inl ⟨.inr x, .str x, rfl⟩
    | tup h r =>
      rename_i b xs vs
      rw [show kd (.tup xs) = if xs.all kd1 then 2 else 0 from rfl] at hne
      split at hne
      · rename_i hall
        obtain ⟨q, rfl⟩ := keys_of_kd1 r hall
        exact .inr ⟨q, b, ⟨xs, rfl, r⟩, rfl, h⟩
      · exact absurd rfl hne
    | _ => exact absurd rfl hne
  have K0 : ∀ {κ : Type} [DecidableEq κ] {F : Hp → PV → κ → Prop} {H1 : Hp} {kvs : List (κ × V)} {p : κ} {mk : List (κ × V) → HO} (hF : ∀ x y p q, F H1 x p → F H1 y q → eqP x y = decide (p = q)) (hkF : F H1 k p) (r : PD X.K G H1 (F H1) d kvs)
      (dg : ∀ o, o = valV kvs p → DGet H1 a y o) (dp : ∀ z, kvs.length < sizeLine → DPut H1 a y z (upd H1 a (mk (putK kvs p z)))) (di : ∀ v z, RV X.K G H1 v z [] → PD X.K G H1 (F H1) (dput k v d) (putK kvs p z) → DIs X.K G (upd H1 a (mk (putK kvs p z))) a (dput k v d)),
      ((∀ v, dget k d = some v → ∃ z, DGet H1 a y (some z) ∧ RV X.K G H1 v z []) ∧ (dget k d = none → DGet H1 a y none) ∧ ∃ o, DGet H1 a y o ∧ dhas k d = o.isSome) ∧
      (∀ v z, RV X.K G H1 v z [] → d.length < sizeLine → ∃ o, DPut H1 a y z (upd H1 a o) ∧ DIs X.K G (upd H1 a o) a (dput k v d)) := by
    intro κ _ F H1 kvs p mk hF hkF r dg dp di
    refine ⟨⟨fun v hv => ?_, fun hv => dg _ ((r.get hF hkF).2 hv).symm, _, dg _ rfl, (r.has hF hkF).1⟩, fun v z rv hl => ⟨_, dp z (by rw [← r.len]; exact hl), di v z rv (r.put hF hkF rv)⟩⟩
    obtain ⟨z, e, rz⟩ := (r.get hF hkF).1 v hv
    exact ⟨z, dg _ e.symm, rz⟩
  have dk : ∀ {H1 : Hp} {kvs : List (Key × V)} {q : Key}, H1 a = some (.dK kvs) → PD X.K G H1 (SK X.K G H1) d kvs → SK X.K G H1 k q → y = kV q →
      ((∀ v, dget k d = some v → ∃ z, DGet H1 a y (some z) ∧ RV X.K G H1 v z []) ∧ (dget k d = none → DGet H1 a y none) ∧ ∃ o, DGet H1 a y o ∧ dhas k d = o.isSome) ∧
      (∀ v z, RV X.K G H1 v z [] → d.length < sizeLine → ∃ o, DPut H1 a y z (upd H1 a o) ∧ DIs X.K G (upd H1 a o) a (dput k v d)) := fun {H1 kvs q} ea r rk' ey =>
    K0 (F := fun H1 => SK X.K G H1) (mk := .dK) (fun x y p q => sk_uniq) rk' r (fun o e => by rw [e, ey]; exact DGet.k ea) (fun z hl => by rw [ey]; exact DPut.k ea hl)
      fun v z _ rp => .k upd_same (Paired.imp rp fun _ _ w => ⟨w.1.keep (Keep.dict (.inl ⟨_, ea⟩)), w.2.keep (Keep.dict (.inl ⟨_, ea⟩))⟩)
  have dt : ∀ {H1 : Hp} {kvs : List (List Key × V)} {q : List Key} {b : Addr}, H1 a = some (.dT kvs) → PD X.K G H1 (TK X.K G H1) d kvs → TK X.K G H1 k q → y = .ref b → H1 b = some (.tup (q.map kV)) →
      ((∀ v, dget k d = some v → ∃ z, DGet H1 a y (some z) ∧ RV X.K G H1 v z []) ∧ (dget k d = none → DGet H1 a y none) ∧ ∃ o, DGet H1 a y o ∧ dhas k d = o.isSome) ∧
      (∀ v z, RV X.K G H1 v z [] → d.length < sizeLine → ∃ o, DPut H1 a y z (upd H1 a o) ∧ DIs X.K G (upd H1 a o) a (dput k v d)) := fun {H1 kvs q b} ea r rk' ey eb =>
    K0 (F := fun H1 => TK X.K G H1) (mk := .dT) (fun x y p q => tk_uniq) rk' r (fun o e => by rw [e, ey]; exact DGet.t ea eb) (fun z hl => by rw [ey]; exact DPut.t ea eb hl)
      fun v z _ rp => .t upd_same (Paired.imp rp fun _ _ ⟨⟨ks, e, w⟩, w'⟩ => ⟨⟨ks, e, w.keep (Keep.dict (.inr ⟨_, ea⟩))⟩, w'.keep (Keep.dict (.inr ⟨_, ea⟩))⟩)
  rcases kcase with ⟨q, rq, ey⟩ | ⟨q, b, rq, ey, eb⟩
  · cases hd with
    | k ea r => exact ⟨a, H, e2, I, n0, fun A => Keep.up fun _ _ h => h, dk ea r rq ey⟩
    | t ea r =>
      cases r with
      | nil =>
        have kp : ∀ A, Keep X.K G G H (upd H a (.dK [])) A := fun A => Keep.dict (.inr ⟨_, ea⟩)
        have n1 : Nw X.K H0 G0 (upd H a (.dK [])) G t := by
          have := Nw.dict (o := .dK []) (.inr ⟨_, ea⟩) n0 e1 e2 (.k upd_same .nil) (fun _ h => nomatch h)
          rw [dset_same e1] at this
          exact this
        exact ⟨a, _, e2, toK I ea, n1, kp, dk upd_same .nil (RV.keep rq (kp [])) ey⟩
      | cons w _ =>
        exfalso
        have h1 := kd_sk rq
        rcases kd_tk w.1 with h2 | h2 <;> simp [kdOk, h1, h2] at hk
    | fk ea r => exact absurd hk (by rw [mk_no rfl]; intro z; cases z)
    | ft ea r => exact absurd hk (by rw [mk_no rfl]; intro z; cases z)
  · cases hd with
    | t ea r => exact ⟨a, H, e2, I, n0, fun A => Keep.up fun _ _ h => h, dt ea r rq ey eb⟩
    | k ea r =>
      cases r with
      | nil =>
        have kp : ∀ A, Keep X.K G G H (upd H a (.dT [])) A := fun A => Keep.dict (.inl ⟨_, ea⟩)
        have n1 : Nw X.K H0 G0 (upd H a (.dT [])) G t := by
          have := Nw.dict (o := .dT []) (.inl ⟨_, ea⟩) n0 e1 e2 (.t upd_same .nil) (fun _ h => nomatch h)
          rw [dset_same e1] at this
          exact this
        have rq' : TK X.K G (upd H a (.dT [])) k q := let ⟨ks, e, w⟩ := rq; ⟨ks, e, w.keep (kp [])⟩
        exact ⟨a, _, e2, toT I ea, n1, kp, dt upd_same .nil rq' ey (by rw [upd_ne (IsDc.ne_tup (.inl (.inl ⟨_, ea⟩)) eb)]; exact eb)⟩
      | cons w _ =>
        exfalso
        have h1 := kd_sk w.1
        rcases kd_tk rq with h2 | h2 <;> simp [kdOk, h1, h2] at hk
    | fk ea r => exact absurd hk (by rw [mk_no rfl]; intro z; cases z)
    | ft ea r => exact absurd hk (by rw [mk_no rfl]; intro z; cases z)
end

/-! ### a dict asked while it is walked -/
section
variable {K : W.Frag} {H H0 : Hp} {G0 G : Gh} {t : Py.St} {a : Addr}
theorem dglO_in {k : PV} {d : List (PV × PV)} {o : Option PV} (h : dglO k d = some o) : ∃ v p r, d = (.scr, v) :: p :: r ∧ kdOk k (p :: r) = true ∧ dget k (p :: r) = o := by
  rcases d with _ | ⟨⟨x, v⟩, _ | ⟨p, r⟩⟩
  · cases h
  · cases x <;> cases h
  · cases x <;> first
      | (cases h; done)
      | (have h : (if kdOk k (p :: r) then some (dget k (p :: r)) else none) = some o := h
         by_cases hk : kdOk k (p :: r) = true
         · rw [if_pos hk] at h
           exact ⟨v, p, r, rfl, hk, Option.some.inj h⟩
         · rw [if_neg hk] at h; cases h)
theorem daskL {n : Nat} {d : List (PV × PV)} {k : PV} {y : V} {B : List Addr} {o : Option PV} (n0 : Nw K H0 G0 H G t) (e1 : t.ds[n]? = some d) (ho : dglO k d = some o) (rk : RV K G H k y B) :
    ∃ a r, G.ds[n]? = some a ∧ DGet H a y r ∧ (∀ v, o = some v → ∃ z, r = some z ∧ RV K G H v z []) ∧ (o = none → r = none) := by
  obtain ⟨a, e2, hd⟩ := n0.sr.at e1
  obtain ⟨v0, p, r, ed, hk, eo⟩ := dglO_in ho
  subst ed
  have kcase : (∃ q, SK K G H k q ∧ y = kV q) ∨ ∃ q b, TK K G H k q ∧ y = .ref b ∧ H b = some (.tup (q.map kV)) := by
    have hne : kd k ≠ 0 := by
      obtain ⟨p1, p2⟩ := p
      simp [kdOk] at hk
      exact hk.1
    cases rk with
    | int i => exact .inl ⟨.inl i, .int i, rfl⟩
    | str x => exact .inl ⟨.inr x, .str x, rfl⟩
    | tup h r =>
      rename_i b xs vs
      rw [show kd (.tup xs) = if xs.all kd1 then 2 else 0 from rfl] at hne
      split at hne
      · rename_i hall
        obtain ⟨q, rfl⟩ := keys_of_kd1 r hall
        exact .inr ⟨q, b, ⟨xs, rfl, r⟩, rfl, h⟩
      · exact absurd rfl hne
    | _ => exact absurd rfl hne
  refine ⟨a, ?_⟩
  generalize hdd : ((PV.scr, v0) :: p :: r : List (PV × PV)) = dd at hd
  cases hd with
  | k ea pr =>
    subst hdd
    cases pr with
    | @cons _ q _ _ h _ =>
      obtain ⟨q1, q2⟩ := q
      obtain ⟨h, _⟩ := h
      cases q1 <;> cases h
  | t ea pr =>
    subst hdd
    cases pr with
    | cons h _ =>
      obtain ⟨⟨ks, h, _⟩, _⟩ := h
      cases h
  | fk ea pr =>
    cases hdd
    rcases kcase with ⟨q, rq, ey⟩ | ⟨q, b, rq, ey, eb⟩
    · refine ⟨_, e2, .inl ⟨_, q, .inr ⟨_, ea⟩, ey, rfl⟩, fun v hv => ?_, fun hn => ?_⟩
      · exact (PD.get (F := SK K G H) (fun x y p q => sk_uniq) rq pr).1 v (eo.trans hv)
      · exact (PD.get (F := SK K G H) (fun x y p q => sk_uniq) rq pr).2 (eo.trans hn)
    · exfalso
      cases pr with
      | cons w _ =>
        have h1 := kd_sk (q := _) w.1
        rcases kd_tk rq with h2 | h2 <;> simp [kdOk, h1, h2] at hk
  | ft ea pr =>
    cases hdd
    rcases kcase with ⟨q, rq, ey⟩ | ⟨q, b, rq, ey, eb⟩
    · exfalso
      cases pr with
      | cons w _ =>
        have h1 := kd_sk rq
        rcases kd_tk w.1 with h2 | h2 <;> simp [kdOk, h1, h2] at hk
    · refine ⟨_, e2, .inr ⟨_, q, b, .inr ⟨_, ea⟩, ey, eb, rfl⟩, fun v hv => ?_, fun hn => ?_⟩
      · exact (PD.get (F := TK K G H) (fun x y p q => tk_uniq) rq pr).1 v (eo.trans hv)
      · exact (PD.get (F := TK K G H) (fun x y p q => tk_uniq) rq pr).2 (eo.trans hn)
end

/-! ### a new dict -/
section
variable {K : W.Frag} {H0 H : Hp} {G0 G : Gh} {s : Py.St}
def Gh.addD (G : Gh) (p : Addr) : Gh := { G with ds := G.ds ++ [p] }
theorem Keep.addD {p : Addr} {H' : Hp} {A : List Addr} (h : ∀ a o, H a = some o → H' a = some o) : Keep K G (G.addD p) H H' A where
  tup := fun _ _ e => h _ _ e
  fz := fun _ x => x
  tz := fun _ x => x
  lst := fun _ _ e _ => h _ _ e
  ds := fun n a e => by
    show (G.ds ++ [p])[n]? = some a
    rw [List.getElem?_append_left (List.getElem?_eq_some_iff.mp e).1]
    exact e
  sr := fun _ e => e
  sc := rfl
  frz := fun _ _ _ e => h _ _ e
theorem SR.new {p : Addr} {o : HO} {d : List (PV × PV)} (r : SR K G H s) (hp : H p = none) (hd : DIs K (G.addD p) (upd H p o) p d) (hb : ∀ q ∈ d, nob q.2 = true) : SR K (G.addD p) (upd H p o) (s.dnew d) := by
  have up : ∀ a u, H a = some u → upd H p o a = some u := fun _ _ h => upd_some hp h
  have np : p ∉ G.ds := fun z => by
    obtain ⟨n, hn⟩ := List.getElem?_of_mem z
    have hl : n < s.ds.length := by rw [r.len]; exact (List.getElem?_eq_some_iff.mp hn).1
    obtain ⟨u, hu⟩ := (r.dat n s.ds[n] p (by simp [hl]) hn).isDc.some
    rw [hp] at hu; cases hu
  refine ⟨by simp [St.dnew, Gh.addD, r.len], ?_, fun m d1 b h1 h2 => ?_, fun a f => let ⟨xs, e⟩ := r.fl a f; ⟨xs, up _ _ e⟩, fun a f => let ⟨xs, e⟩ := r.tl a f; ⟨xs, up _ _ e⟩, r.ft, r.op, fun a c e => ?_, let ⟨ns, nl, x⟩ := r.sc; ⟨ns, nl, x.imp id fun ⟨o, y⟩ => ⟨o, up _ _ y⟩⟩, fun d1 h1 => ?_⟩
  · show (G.ds ++ [p]).Nodup
    exact List.nodup_append.mpr ⟨r.nd, by simp, fun a ha b hb e => np (by rw [List.mem_singleton.mp hb] at e; rw [← e]; exact ha)⟩
  · have h1 : (s.ds ++ [d])[m]? = some d1 := h1
    have h2 : (G.ds ++ [p])[m]? = some b := h2
    by_cases z : m < s.ds.length
    · rw [List.getElem?_append_left z] at h1
      rw [List.getElem?_append_left (by rw [← r.len]; exact z)] at h2
      exact DIs.keep (Keep.addD up) (up b) (r.dat m d1 b h1 h2)
    · rw [List.getElem?_append_right (Nat.le_of_not_lt z)] at h1
      rw [List.getElem?_append_right (by rw [← r.len]; exact Nat.le_of_not_lt z)] at h2
      have e0 : m - s.ds.length = 0 := by
        have := (List.getElem?_eq_some_iff.mp h1).1
        simp at this
        omega
      rw [e0] at h1
      rw [← r.len, e0] at h2
      simp at h1 h2
      subst h1 h2
      exact hd
  · obtain ⟨x1, x2, x3, x4⟩ := r.si a c e
    refine ⟨x1.up up, ?_, x3, x4⟩
    show a ∉ G.ds ++ [p]
    intro z
    rcases List.mem_append.mp z with z | z
    · exact x2 z
    · rw [List.mem_singleton.mp z] at x1
      obtain ⟨_, _, _, _, _, _, q, _⟩ := x1
      rw [hp] at q; cases q
  · rcases List.mem_append.mp h1 with h1 | h1
    · exact r.nb d1 h1
    · rw [List.mem_singleton.mp h1]; exact hb
theorem Nw.new {p : Addr} {o : HO} {d : List (PV × PV)} (w : Nw K H0 G0 H G s) (hp : H p = none) (hd : DIs K (G.addD p) (upd H p o) p d) (hb : ∀ q ∈ d, nob q.2 = true) : Nw K H0 G0 (upd H p o) (G.addD p) (s.dnew d) where
  le := w.le.trans w.pr.dom ⟨fun _ x => x, fun _ x => x, ⟨[p], rfl⟩, .inl rfl, rfl, fun _ x => .inl x, fun _ x => .inl x, fun a x => by
    rcases List.mem_append.mp x with x | x
    · exact .inl x
    · rw [List.mem_singleton.mp x]; exact .inr hp⟩
  pr := w.pr.trans w.le (Pr.upd hp)
  sr := w.sr.new hp hd hb
theorem newD_at {p : Addr} (r : SR K G H s) : (G.addD p).ds[s.ds.length]? = some p := by
  show (G.ds ++ [p])[s.ds.length]? = some p
  rw [r.len, List.getElem?_append_right (Nat.le_refl _)]
  simp
end
end Py
end

section
/-! PyF: in, subscripts, slices. -/
namespace Py
open PySem L2 PyProof.Rows
section
variable {X : Cx}
theorem okM' {α : Type} {K : W.Frag} {H0 : Hp} {G0 : Gh} {β : Type} {rel : Rl α β} {W : XW} {Q : β → Hp → Prop} {s : St} {o : Option α} (h : Post K H0 G0 rel W Q (okV o s)) : ∃ b, o = some b ∧ Post K H0 G0 rel W Q (.ok b s) := by
  cases o with
  | none => exact False.elim h
  | some b => exact ⟨b, rfl, h⟩

theorem in_gen {neg : Bool} (c : Cxt X) : OpR X (compareOp (if neg then .NotIn else .In)) (r2c X.K fun v w s => okV ((cop (if neg then .nin else .inn) v w s).map PV.bl) s) := by
  intro pins s σ H x y v u Q I rx ry ⟨W, H0, G0, G, v', w', A, B, t, n, rv, rw', hp⟩
  obtain ⟨b, hb, hq⟩ := okM hp
  clear hp
  have hu := c.hu
  have seq : ∀ (m : Bool) (xs : List PV), (if (shp 30 v' && shps 30 xs) = true then some (if neg then !memP v' xs else memP v' xs) else none) = some b → shp 30 v' = true ∧ shps 30 xs = true ∧ (if neg then !memP v' xs else memP v' xs) = b := by
    intro m xs h
    obtain ⟨h1, h2⟩ := ifS h
    rw [Bool.and_eq_true] at h1
    exact ⟨h1.1, h1.2, h2⟩
  cases w' <;> try (cases neg <;> (simp [cop] at hb; done))
  · rename_i xs
    obtain ⟨s1, s2, eb⟩ := seq neg xs (by cases neg <;> simpa [cop] using hb)
    obtain ⟨a, vs, rfl, ea, r1⟩ := rw'.tup_of
    obtain ⟨as, q1⟩ := Dp.reads I (toD v') x v (rv.dp s1) rx
    obtain ⟨bs, q2⟩ := Dp.reads I (.tuple (toDs xs)) (.ref a) u (.tup (SqT.of' ea) (r1.dp s2)) ry
    have l1 := shp_lay 30 v' s1
    have l2 := shps_lay 30 xs s2
    have e := memP_any v' xs
    cases neg
    · exact SeqAt.in_tuple_reads q2 q1 l2.1 l1.1 (by omega) ⟨.bl _, H, I, rfl, by rw [← e]; simp at eb; rw [eb]; exact fin0 hq n (.bl _)⟩
    · exact SeqAt.notIn_tuple_reads q2 q1 l2.1 l1.1 (by omega) ⟨.bl _, H, I, rfl, by rw [← e]; simp only [if_true] at eb; rw [eb]; exact fin0 hq n (.bl _)⟩
  · rename_i m xs
    obtain ⟨s1, s2, eb⟩ := seq neg xs (by cases neg <;> simpa [cop] using hb)
    obtain ⟨a, vs, B', rfl, ea, r1, _⟩ := rw'.lst_of
    obtain ⟨as, q1⟩ := Dp.reads I (toD v') x v (rv.dp s1) rx
    obtain ⟨bs, q2⟩ := Dp.reads I (.list (toDs xs)) (.ref a) u (.lst (SqL.of' ea) (r1.dp s2)) ry
    have l1 := shp_lay 30 v' s1
    have l2 := shps_lay 30 xs s2
    have e := memP_any v' xs
    cases neg
    · exact SeqAt.in_list_reads q2 q1 l2.1 l1.1 (by omega) ⟨.bl _, H, I, rfl, by rw [← e]; simp at eb; rw [eb]; exact fin0 hq n (.bl _)⟩
    · exact SeqAt.notIn_list_reads q2 q1 l2.1 l1.1 (by omega) ⟨.bl _, H, I, rfl, by rw [← e]; simp only [if_true] at eb; rw [eb]; exact fin0 hq n (.bl _)⟩
  · rename_i m
    have hb' : ∃ d, t.ds[m]? = some d ∧ kdOk v' d = true ∧ (if neg then !dhas v' d else dhas v' d) = b := by
      unfold St.dat at *
      cases neg <;> simp only [cop, St.dat, if_true, Bool.false_eq_true, if_false] at hb <;> (split at hb) <;> try cases hb
      all_goals (rename_i d hd; obtain ⟨h1, h2⟩ := ifS hb; exact ⟨d, hd, h1, by simpa using h2⟩)
    obtain ⟨d, hd, hk, eb⟩ := hb'
    obtain ⟨a, H1, e2, I1, n1, kp, ⟨_, _, o, hg, ho⟩, _⟩ := dask I n hd hk rv
    cases rw' with
    | dct ea =>
      rw [ea] at e2
      cases e2
      cases ry
      cases neg
      · simp only [Bool.false_eq_true, if_false] at eb
        rw [ho] at eb
        exact d_in (by omega) I1 hg rx fun s3 I3 => ⟨.bl _, H1, I3, rfl, by rw [eb]; exact fin0 hq n1 (.bl _)⟩
      · simp only [if_true] at eb
        rw [ho] at eb
        exact d_notIn (by omega) I1 hg rx fun s3 I3 => ⟨.bl _, H1, I3, rfl, by rw [eb]; exact fin0 hq n1 (.bl _)⟩

theorem cop_ok (c : Cxt X) : ∀ o : COp, OpR X (compareOp o.op) (r2c X.K fun v w s => okV ((cop o v w s).map PV.bl) s)
  | .eq => eq_ok c
  | .ne => ne_ok c
  | .lt => lt_ok c
  | .le => le_ok
  | .gt => gt_ok
  | .ge => ge_ok
  | .isN => isn_ok
  | .notN => notn_ok
  | .inn => in_gen (neg := false) c
  | .nin => in_gen (neg := true) c

/-! ### subscripts -/
theorem ixOf_eq (n : Nat) (i : Int) : ixOf n i = L2.ixN n i := rfl
theorem atP_get {K : W.Frag} {G : Gh} {H : Hp} {xs : List PV} {vs : List V} {i : Int} {x : PV} (h : RVs K G H xs vs []) (e : atP xs i = some x) : ∃ y, atI vs i = some y ∧ RV K G H x y [] := by
  unfold atP at e
  rw [ixOf_eq, h.length] at e
  unfold atI
  cases q : ixN vs.length i with
  | none => rw [q] at e; cases e
  | some j =>
    rw [q] at e
    obtain ⟨y, e1, r⟩ := h.get (x := x) (j := j) e
    exact ⟨y, e1, r⟩
theorem sub_tail {value slice : Expr} {o i : Value} {s : Shared} {T id : String} {Q : Value → Shared → Prop} (hT : s.TypeIs o T) (hl : typeLookup (.type T) "__getitem__" = pure (some (.builtin id)))
    (h : wpAny (model X.prog X.w) X.A (getItem o i) Q X.xe s) (hs : subscripted slice false o i = operate [o, i] (getItem o i)) : wpAny (model X.prog X.w) X.A (subscriptTail value slice o i) Q X.xe s := by
  unfold subscriptTail
  refine wpAny_bind ?_
  rw [getitemInPython_of_ne (hT.not_modules)]
  refine wpAny_bind (wpAny_specialOf (hT) hl ?_)
  have fin : wpAny (model X.prog X.w) X.A (subscripted slice false o i) (fun r s' => wpAny (model X.prog X.w) X.A (letTemporaryGo value o r >>= fun _ => pure r) Q X.xe s') X.xe s := by
    rw [hs]
    exact wpAny_operating (wpAny_mono h (fun r s' h' => wpAny_bind (wpAny_letTemporaryGo (wpAny_pure h'))) fun _ _ z => z)
  first
    | exact wpAny_pure (wpAny_bind fin)
    | exact wpAny_bind (wpAny_pure (wpAny_bind fin))
    | exact wpAny_bind fin

theorem ix_ok (c : Cxt X) : IxR X (r2 X.K fun v w s => okV (idxP v w s) s) := by
  intro value slice pins s σ H x y v u Q I rx ry ⟨W, H0, G0, G, v', w', A, B, t, n, rv, rw', fa, fb, hp⟩ hs
  obtain ⟨b, hb, hq⟩ := okM' hp
  clear hp
  have hu := c.hu
  cases v' with
  | str z =>
    cases w' with
    | int k =>
     obtain rfl := rv.str_of
     obtain rfl := rw'.int_of
     simp only [idxP] at hb
     by_cases hz : z.length ≤ sizeLine
     · rw [if_pos hz] at hb
       cases hj : ixOf z.cps.toList.length k with
       | none => rw [hj] at hb; cases hb
       | some j =>
         rw [hj] at hb
         simp only [Option.bind_some] at hb
         cases hc : z.cps.toList[j]? with
         | none => rw [hc] at hb; cases hb
         | some q =>
           rw [hc] at hb
           simp only [Option.map_some, Option.some.injEq] at hb
           subst hb
           refine ix_str value slice pins s σ H _ _ v u Q I rx ry ⟨z, k, q, rfl, rfl, hz, ?_, fin0 hq n (.str _)⟩ hs
           unfold atI
           rw [← ixOf_eq, hj]
           exact hc
     · rw [if_neg hz] at hb; cases hb
    | _ => cases hb
  | tup xs =>
    cases w' <;> try (cases hb; done)
    simp only [idxP] at hb
    obtain ⟨a, vs, rfl, ea, r1⟩ := rv.tup_of
    obtain rfl := rw'.int_of
    obtain ⟨z, e, rz⟩ := atP_get r1 hb
    exact ix_tup value slice pins s σ H _ _ v u Q I rx ry ⟨a, vs, _, z, rfl, rfl, SqT.of' ea, e, fin0 hq n rz⟩ hs
  | lst m xs =>
    cases w' <;> try (cases hb; done)
    simp only [idxP] at hb
    have n' := n.addT fa rv.lists
    obtain ⟨a, vs, rfl, ea, r1⟩ := (rv.keep (Keep.addT A A)).items fun a q => .inr q
    obtain rfl := rw'.int_of
    rename_i k
    cases hx : atP xs k with
    | none => rw [hx] at hb; cases hb
    | some q =>
      rw [hx] at hb
      simp only [Option.map_some, Option.some.injEq] at hb
      subst hb
      have hx' : atP (brws xs) k = some (brw q) := by
        unfold atP at hx ⊢
        rw [brws_length]
        cases hj : ixOf xs.length k with
        | none => rw [hj] at hx; cases hx
        | some j =>
          rw [hj] at hx
          simp only [Option.bind_some] at hx ⊢
          rw [brws_eq, List.getElem?_map, hx]
          rfl
      obtain ⟨z, e, rz⟩ := atP_get r1 hx'
      exact ix_list value slice pins s σ H _ _ v u Q I rx ry ⟨a, vs, k, z, rfl, rfl, SqL.of' ea, e, fin0 hq n' rz⟩ hs
  | dct m =>
    have hb' : ∃ d, t.ds[m]? = some d ∧ ((kdOk w' d = true ∧ dget w' d = some b) ∨ dglO w' d = some (some b)) := by
      cases w' <;> simp only [idxP, St.dat] at hb <;> (split at hb) <;> try cases hb
      all_goals (rename_i d hd; split at hb)
      all_goals first
        | (rename_i hk; exact ⟨d, hd, .inl ⟨hk, hb⟩⟩)
        | (unfold dgl at hb
           split at hb <;> first
             | (cases hb; done)
             | (rename_i o ho; rw [hb] at ho; exact ⟨d, hd, .inr ho⟩))
    obtain ⟨d, hd, hk⟩ := hb'
    rcases hk with ⟨hk, eb⟩ | hL
    case inr =>
      obtain ⟨a, r, e2, g, hg, _⟩ := daskL n hd hL rw'
      obtain ⟨z, rfl, rz⟩ := hg b rfl
      cases rv with
      | dct ea =>
        rw [ea] at e2
        cases e2
        cases rx
        exact sub_tail (dict_typeIs I g) PySem.F.slot_dict_getitem.lookup (d_getItem (by omega) I g ry fun w2 s3 I3 rw2 => ⟨z, H, I3, rw2, fin0 hq n rz⟩) hs
    obtain ⟨a, H1, e2, I1, n1, kp, ⟨hg, _, _⟩, _⟩ := dask I n hd hk rw'
    obtain ⟨z, g, rz⟩ := hg b eb
    cases rv with
    | dct ea =>
      rw [ea] at e2
      cases e2
      cases rx
      exact sub_tail (dict_typeIs I1 g) PySem.F.slot_dict_getitem.lookup (d_getItem (by omega) I1 g ry fun w2 s3 I3 rw2 => ⟨z, H1, I3, rw2, fin0 hq n1 rz⟩) hs
  | _ => (cases w' <;> cases hb)

/-! ### slices -/
theorem clipP_eq (n d : Nat) (o : Option Int) : clipP n d o = HT.sIx n d o := by cases o <;> rfl
theorem cutP_rv {K : W.Frag} {G : Gh} {H : Hp} {xs : List PV} {vs : List V} {lo hi : Option Int} (h : RVs K G H xs vs []) : RVs K G H (cutP xs lo hi) (cutV vs lo hi) [] := by
  unfold cutP cutV
  rw [clipP_eq, clipP_eq, h.length]
  exact (h.drop _).take _

/-- a slice by what PyA says -/
def r1s (K : W.Frag) : V → Option Int → Option Int → Hp → VK → Prop := fun x lo hi H Q => ∃ (W : XW) (H0 : Hp) (G0 G : Gh) (v : PV) (A : List Addr) (s : Py.St),
  Nw K H0 G0 H G s ∧ RV K G H v x A ∧ Fr H0 G A ∧ Post K H0 G0 (RV K) W Q (okV (slcP v lo hi) s)
theorem slc_ok : SlR X (r1s X.K) := by
  intro pins s σ H x v vl vu lo hi sl Q I rx hs pl pu ⟨W, H0, G0, G, v', A, t, n, rv, fa, hp⟩
  cases v' with
  | tup xs =>
    obtain ⟨a, vs, rfl, ea, r1⟩ := rv.tup_of
    have hl := r1.length
    refine sl_tupA pins s σ H _ v vl vu lo hi sl Q I rx hs pl pu ⟨a, vs, rfl, SqT.of' ea, fun ⟨e1, e2⟩ => ?_, fun _ p hpn => fin_tup hp n (cutP_rv r1) p hpn⟩
    have e : cutP xs lo hi = xs := by
      unfold cutP
      rw [clipP_eq, clipP_eq, hl, e1, e2]
      simp [← hl]
    have hp' : Post X.K H0 G0 (RV X.K) W Q (.ok (.tup (cutP xs lo hi)) t) := hp
    rw [e] at hp'
    exact hp'.at n rv fa
  | lst m xs =>
    have n' := n.addT fa rv.lists
    obtain ⟨a, vs, B, e1, ea, r1, hB⟩ := rv.lst_of
    subst e1
    have hp' : Post X.K H0 G0 (RV X.K) W Q (.ok (.lst .o (brws (cutP xs lo hi))) t) := hp
    have e : brws (cutP xs lo hi) = cutP (brws xs) lo hi := by
      unfold cutP
      rw [brws_length, brws_eq, brws_eq, List.map_take, List.map_drop]
    rw [e] at hp'
    have r2 : RVs X.K (G.addT A) H (brws xs) vs [] := (r1.keep (Keep.addT A B)).brw fun b q => .inr (hB b q)
    exact sl_list pins s σ H _ v vl vu lo hi sl Q I rx hs pl pu ⟨a, vs, rfl, SqL.of' ea, fun p hpn => fin_new hp' n' (cutP_rv r2) p hpn⟩
  | str z =>
    obtain rfl := rv.str_of
    simp only [slcP] at hp
    by_cases hz : z.length ≤ sizeLine
    · rw [if_pos hz] at hp
      refine sl_str pins s σ H _ v vl vu lo hi sl Q I rx hs pl pu ⟨z, rfl, hz, ?_⟩
      have e : (⟨(cutP z.cps.toList lo hi).toArray⟩ : Str) = cutS z lo hi := by
        unfold cutP cutS
        rw [clipP_eq, clipP_eq]
        rfl
      rw [← e]
      exact fin0 hp n (.str _)
    · rw [if_neg hz] at hp; exact False.elim hp
  | _ => exact False.elim hp

/-! ### [::-1] -/
theorem adjust_back (n : Nat) : Builtin.Slice.sliceAdjust none none (-1) (n : Int) = ((n : Int) - 1, -1) := rfl
theorem places_back (n : Nat) : Builtin.Slice.slicePlaces ((n : Int) - 1) (-1) (-1) = n := by
  unfold Builtin.Slice.slicePlaces
  rw [if_neg (by decide)]
  by_cases h : (n : Int) - 1 > -1
  · rw [if_pos h]
    have e : ((n : Int) - 1 - -1 - 1) / (- -1) = (n : Int) - 1 := by
      rw [show (- -1 : Int) = 1 by decide, Int.ediv_one]
      omega
    rw [e]
    omega
  · rw [if_neg h]; omega
theorem pick_back (xs : Array Value) : ((List.range xs.size).filterMap fun (m : Nat) => xs[(((xs.size : Int) - 1) + (m : Int) * (-1)).toNat]?).toArray = xs.toList.reverse.toArray := by
  congr 1
  have e : (fun (m : Nat) => xs[(((xs.size : Int) - 1) + (m : Int) * (-1)).toNat]?) = fun (m : Nat) => xs[(((xs.size : Int) - 1) - (m : Int)).toNat]? := by
    funext m
    congr 2
    omega
  rw [e]
  have k : ∀ n, n ≤ xs.size → (List.range n).filterMap (fun m : Nat => xs[(((xs.size : Int) - 1) - (m : Int)).toNat]?) = (xs.toList.reverse).take n := by
    intro n
    induction n with
    | zero => intro _; simp
    | succ n ih =>
      intro h
      rw [List.range_succ, List.filterMap_append, ih (by omega)]
      have e1 : ((xs.size : Int) - 1 - (n : Int)).toNat = xs.size - 1 - n := by omega
      have e2 : xs[xs.size - 1 - n]? = some xs[xs.size - 1 - n] := by simp
      simp only [List.filterMap_cons, List.filterMap_nil, e1, e2]
      rw [List.take_add_one, List.getElem?_reverse (by simpa using Nat.lt_of_succ_le h)]
      congr 1
      have e3 : xs.toList[xs.toList.length - 1 - n]? = some xs[xs.size - 1 - n] := by
        rw [Array.length_toList, Array.getElem?_toList]
        exact e2
      rw [e3]
      rfl
  rw [k xs.size (Nat.le_refl _)]
  rw [List.take_of_length_le (by simp)]
theorem back_tuple {t sl : Addr} {items : Array Value} {vl vu vs : Value} {prog : Program} {w : World} {A : Around} {E : Value → Shared → Prop} {s : Shared} {Q : Value → Shared → Prop} (ht : IsTup s.heap t items) (hs : s.heap.IsSliceOf sl vl vu vs) (pl : IsPart vl none) (pu : IsPart vu none) (ps : IsPart vs (some (-1)))
    (h : Q (.ref s.heap.objs.size) { s with heap := s.heap.push { cls := .type "tuple", data := .seq items.toList.reverse.toArray } }) (hsz : items.size ≤ sizeLine) : wpAny (model prog w) A (getItem (.ref t) (.ref sl)) Q E s := by
  have room : sizeOk (.seq items.toList.reverse.toArray) := by
    show items.toList.reverse.toArray.size ≤ sizeLine
    simpa using hsz
  obtain ⟨os, hos, hcs, hds⟩ := id hs
  have ty : s.TypeIs (.ref sl) "slice" := ⟨os, hos, hcs⟩
  unfold getItem
  try with_reducible refine wpAny_holding ?_
  first | refine wpAny_bind (wpAny_pure ?_) | skip
  refine wpAny_bind (wpAny_sequenceKey (ht.typeIs) (by decide) ?_)
  refine wpAny_bind (wpAny_callSpecial?_slot (name := Str.ofString "__getitem__") (ht.typeIs) PyProof.Rows.slot_tuple_getitem
    (wpAny_call_entry PyProof.Rows.slot_tuple_getitem (ht.typeIs) entry_tuple_getitem ?_ (args_tuple_getitem _ _)))
  show wpAny _ _ (Builtin.Tuple.tupleItemsOf (.ref t) >>= _) _ _ s
  refine wpAny_bind (tupleItemsOf_ (ht) ?_)
  refine wpAny_bind (wpAny_typeOf (ty) ?_)
  rw [if_pos (by decide)]
  refine wpAny_bind ?_
  unfold Builtin.Slice.sliceApplied Builtin.Slice.sliceFields
  refine wpAny_bind (wpAny_bind (wpAny_field hos hds (x := vl) rfl (wpAny_bind (wpAny_field hos hds (x := vu) rfl (wpAny_bind (wpAny_field hos hds (x := vs) rfl (wpAny_pure ?_)))))))
  refine wpAny_bind (HT.slicePart_ ps ?_)
  show wpAny _ _ (if ((-1 : Int) == 0) = true then _ else _) _ _ s
  rw [if_neg (by decide)]
  refine wpAny_bind (HT.slicePart_ pl (wpAny_bind (HT.slicePart_ pu (wpAny_bind (wpAny_pure ?_)))))
  show wpAny _ _ (match Builtin.Slice.sliceAdjust none none (-1) (items.size : Int) with | (lo, hi) => pure (lo, (-1 : Int), Builtin.Slice.slicePlaces lo hi (-1))) _ _ s
  rw [adjust_back]
  show wpAny _ _ (pure ((items.size : Int) - 1, (-1 : Int), Builtin.Slice.slicePlaces ((items.size : Int) - 1) (-1) (-1))) _ _ s
  rw [places_back]
  refine wpAny_pure ?_
  have hno : ¬ ((((items.size : Int) - 1) == 0 && (-1 : Int) == 1 && items.size == items.size) = true) := by
    intro q
    rw [Bool.and_eq_true, Bool.and_eq_true] at q
    exact absurd (eq_of_beq q.1.2) (by decide)
  show wpAny _ _ (if (((items.size : Int) - 1) == 0 && (-1 : Int) == 1 && items.size == items.size) = true then _ else _) _ _ s
  rw [if_neg hno, pick_back]
  first
    | exact wpAny_bind (m := Builtin.Tuple.tupleExact _) (wpAny_newObj_type (wpAny_pure ⟨_, rfl, wpAny_pure h⟩) room)
    | exact wpAny_bind (m := Builtin.Tuple.tupleExact _) (wpAny_newObj_type (wpAny_bind (wpAny_pure (wpAny_pure ⟨_, rfl, wpAny_pure h⟩))) room)
    | exact wpAny_bind (wpAny_bind (m := Builtin.Tuple.tupleExact _) (wpAny_newObj_type (wpAny_pure (wpAny_pure ⟨_, rfl, wpAny_pure h⟩)) room))
    | exact wpAny_bind (wpAny_bind (m := Builtin.Tuple.tupleExact _) (wpAny_newObj_type (wpAny_pure ⟨_, rfl, wpAny_pure h⟩) room))
end
end Py
end

section
/-! PyMx: max of a tuple of ints. -/
namespace Py
open PySem L2 PyProof.Rows
section
variable {prog : Program} {w : World} {A : Around} {E : Value → Shared → Prop} {s : Shared} {l : Addr} {its : List Value} {ns : List Int} {Q : Value → Shared → Prop} {xs : Array (Int × Tok)}
theorem iter_intTup {Q : Value → Shared → Prop} (hl : s.heap.IsTuple l (intItems xs))
    (h : ∀ s₂ : Shared, s₂ = { s with heap := s.heap.push { cls := .type "tuple_iterator", data := .fields #[.ref l, .int 0 0] } } →
      (s₂.heap.IsTupleIter s.heap.objs.size l 0 ∧ s₂.heap.IsTuple l (intItems xs)) → (∀ b ∈ [s.heap.objs.size, l], b < s₂.heap.objs.size) → l ≠ s.heap.objs.size → Q (.ref s.heap.objs.size) s₂) :
    wpAny (model prog w) A (pyIter (.ref l)) Q E s := by
  have hlt : l < s.heap.objs.size := by obtain ⟨_, e, _⟩ := hl; exact Heap.lt_size e
  refine wpAny_pyIter_tuple hl (h _ rfl ⟨⟨_, Heap.get?_push_size _ rfl, rfl, rfl⟩, hl.at fun o e => Heap.get?_push_of_some _ e⟩ (fun b hb => ?_) (Nat.ne_of_lt hlt))
  show b < (s.heap.push _).objs.size
  rw [Heap.size_push]
  rcases List.mem_cons.mp hb with rfl | hb
  · exact Nat.lt_succ_self _
  · rcases List.mem_cons.mp hb with rfl | hb
    · exact Nat.lt_succ_of_lt hlt
    · cases hb
theorem old_keptT {o' : Obj} {h' : Heap} (hk : ∀ b o, b ∉ [s.heap.objs.size] → (s.heap.push o').get? b = some o → h'.get? b = some o) :
    ∀ b o, s.heap.get? b = some o → h'.get? b = some o := fun b o e => by
  refine hk b o (fun hm => ?_) (Heap.get?_push_of_some _ e)
  rcases List.mem_cons.mp hm with e1 | hm
  · exact absurd (e1 ▸ Heap.lt_size e) (Nat.lt_irrefl _)
  · cases hm
theorem max_intTup {Q : Value → Shared → Prop} (hh : A.handled = none) (hl : s.heap.IsTuple l (intItems xs)) (hne : 0 < xs.size)
    (h : ∀ v h' tk, (intItems xs)[argBest (fun i j => decide (numAt xs i > numAt xs j)) (xs.size - 1)]? = some v → (∀ b o, s.heap.get? b = some o → h'.get? b = some o) → Q v { s with heap := h', toks := tk }) :
    wpAny (model prog w) A (call (.builtin "max") [.ref l]) Q E s := by
  refine call_max_walk (iter_intTup hl fun s₂ e st hfp hlI => ?_)
  subst e
  refine ⟨_, _, _, _, _, _, _, rfl, Walks.tuple (A := A.in1) hh _ l hlI (intItems xs), st, hfp, by simpa [intItems] using hne, CmpOf.ints_gt (numAt xs) (fun _ _ => intItems_at), fun v h' tk hP hk => ?_⟩
  exact h v h' tk (by simpa [intItems] using hP) (old_keptT hk)
theorem max_rawT (hh : A.handled = none) (hl : s.heap.IsTuple l its.toArray) (hi : IntsAre its ns) (hne : 0 < ns.length)
    (h : ∀ h' tk M t', (∀ b o, s.heap.get? b = some o → h'.get? b = some o) → M ∈ ns → (∀ a, a ∈ ns → a ≤ M) → Q (.int M t') { s with heap := h', toks := tk }) : wpAny (model prog w) A (call (.builtin "max") [.ref l]) Q E s := by
  obtain ⟨xs, e⟩ := hi.allInts.items
  have hn : numsOf (intItems xs).toList = ns := by rw [← e]; exact hi.numsOf
  rw [nums_intItems] at hn
  subst hn
  rw [e] at hl
  have hsz : 0 < xs.size := by simpa using hne
  refine max_intTup hh hl hsz fun v h' tk hv hk => ?_
  obtain ⟨t, rfl⟩ := intItems_at hv
  obtain ⟨h1, h2⟩ := argBest_gt (numAt xs) (xs.size - 1)
  refine h h' tk _ t hk ?_ fun a ha => ?_
  · rw [numAt_eq]; exact PySem.getD_mem (by rw [List.length_map, Array.length_toList]; omega)
  · obtain ⟨j, hj, rfl⟩ := mem_getD ha
    rw [List.length_map, Array.length_toList] at hj
    rw [← numAt_eq]; exact h2 j (by omega)
end
def rMaxT (K : PySem.W.Frag) : List V → Hp → VK → Prop := fun vs H Q => ∃ (a : Addr) (ns : List Int), vs = [V.ref a] ∧ SqT K H a (ns.map V.int) ∧ 0 < ns.length ∧ ∀ m, m ∈ ns → (∀ x, x ∈ ns → x ≤ m) → Q (.int m) H
section
variable {X : Cx}
theorem cr_maxT (hc : X.calm = true) : CallR X (.builtin "max") (rMaxT X.K) := by
  intro pins s σ H vs us Q I r h
  obtain ⟨a, ns, rfl, hs, hne, q⟩ := h
  obtain ⟨its, rv, hl, _⟩ := I.tuple hs
  rw [Vals.ref1 r]
  exact max_rawT (I.ok.hd hc) hl rv.ints hne fun h' tk m t' hk h1 h2 => ⟨.int _, H, I.kept hk, ⟨_, rfl⟩, q m h1 h2⟩
end
end Py
end

section
/-! PyG: the built-in functions, by values. -/
namespace Py
open PySem L2 PyProof.Rows

/-- a call by what PyA says -/
def rC (K : W.Frag) (f : List PV → Py.St → R PV) : List V → Hp → VK → Prop := fun vs H Q => ∃ (W : XW) (H0 : Hp) (G0 G : Gh) (as : List PV) (A : List Addr) (s : Py.St),
  Nw K H0 G0 H G s ∧ RVs K G H as vs A ∧ Fr H0 G A ∧ Post K H0 G0 (RV K) W Q (f as s)

section
variable {X : Cx}
theorem RVs.one {K : W.Frag} {G : Gh} {H : Hp} {a : PV} {vs : List V} {A : List Addr} (h : RVs K G H [a] vs A) : ∃ v, vs = [v] ∧ RV K G H a v A := by
  cases h with
  | cons r t =>
    cases t
    rw [List.append_nil]
    exact ⟨_, rfl, r⟩
theorem RVs.two {K : W.Frag} {G : Gh} {H : Hp} {a b : PV} {vs : List V} {A : List Addr} (h : RVs K G H [a, b] vs A) : ∃ v w B C, vs = [v, w] ∧ A = B ++ C ∧ RV K G H a v B ∧ RV K G H b w C := by
  cases h with
  | cons r t =>
    obtain ⟨w, rfl, r'⟩ := t.one
    exact ⟨_, _, _, _, rfl, rfl, r, r'⟩
theorem Fr.left {H0 : Hp} {G : Gh} {A B : List Addr} (f : Fr H0 G (A ++ B)) : Fr H0 G A := ⟨(List.nodup_append.mp f.nd).1, fun a h => f.new a (List.mem_append_left _ h), fun a h => f.nf a (List.mem_append_left _ h), fun a h => f.nt a (List.mem_append_left _ h), fun a h => f.nc a (List.mem_append_left _ h)⟩
theorem Fr.right {H0 : Hp} {G : Gh} {A B : List Addr} (f : Fr H0 G (A ++ B)) : Fr H0 G B := ⟨(List.nodup_append.mp f.nd).2.1, fun a h => f.new a (List.mem_append_right _ h), fun a h => f.nf a (List.mem_append_right _ h), fun a h => f.nt a (List.mem_append_right _ h), fun a h => f.nc a (List.mem_append_right _ h)⟩

theorem ints_rv {K : W.Frag} {G : Gh} {H : Hp} : ∀ {xs : List PV} {vs : List V} {A : List Addr} {ns : List Int}, RVs K G H xs vs A → intsOf xs = some ns → vs = ns.map V.int
  | [], _, _, ns, .nil, h => by simp [intsOf] at h; subst h; rfl
  | .int i :: xs, _, _, ns, .cons a b, h => by
    simp only [intsOf, Option.map_eq_some_iff] at h
    obtain ⟨m, h1, rfl⟩ := h
    obtain rfl := a.int_of
    rw [ints_rv b h1]
    rfl
  | .non :: xs, _, _, ns, .cons a b, h => by simp [intsOf] at h
  | .bl _ :: xs, _, _, ns, .cons a b, h => by simp [intsOf] at h
  | .str _ :: xs, _, _, ns, .cons a b, h => by simp [intsOf] at h
  | .tup _ :: xs, _, _, ns, .cons a b, h => by simp [intsOf] at h
  | .lst _ _ :: xs, _, _, ns, .cons a b, h => by simp [intsOf] at h
  | .dct _ :: xs, _, _, ns, .cons a b, h => by simp [intsOf] at h
  | .src :: xs, _, _, ns, .cons a b, h => by simp [intsOf] at h
  | .scr :: xs, _, _, ns, .cons a b, h => by simp [intsOf] at h
theorem ints_pv : ∀ {xs : List PV} {ns : List Int}, intsOf xs = some ns → xs = ns.map PV.int
  | [], ns, h => by simp [intsOf] at h; subst h; rfl
  | .int i :: xs, ns, h => by
    simp only [intsOf, Option.map_eq_some_iff] at h
    obtain ⟨m, h1, rfl⟩ := h
    rw [ints_pv h1]; rfl
  | .non :: xs, ns, h => by simp [intsOf] at h
  | .bl _ :: xs, ns, h => by simp [intsOf] at h
  | .str _ :: xs, ns, h => by simp [intsOf] at h
  | .tup _ :: xs, ns, h => by simp [intsOf] at h
  | .lst _ _ :: xs, ns, h => by simp [intsOf] at h
  | .dct _ :: xs, ns, h => by simp [intsOf] at h
  | .src :: xs, ns, h => by simp [intsOf] at h
  | .scr :: xs, ns, h => by simp [intsOf] at h
theorem bls_rv {K : W.Frag} {G : Gh} {H : Hp} : ∀ {xs : List PV} {vs : List V} {A : List Addr} {ns : List Bool}, RVs K G H xs vs A → blsOf xs = some ns → vs = ns.map V.bl
  | [], _, _, ns, .nil, h => by simp [blsOf] at h; subst h; rfl
  | .bl i :: xs, _, _, ns, .cons a b, h => by
    simp only [blsOf, Option.map_eq_some_iff] at h
    obtain ⟨m, h1, rfl⟩ := h
    obtain rfl := a.bl_of
    rw [bls_rv b h1]
    rfl
  | .non :: xs, _, _, ns, .cons a b, h => by simp [blsOf] at h
  | .int _ :: xs, _, _, ns, .cons a b, h => by simp [blsOf] at h
  | .str _ :: xs, _, _, ns, .cons a b, h => by simp [blsOf] at h
  | .tup _ :: xs, _, _, ns, .cons a b, h => by simp [blsOf] at h
  | .lst _ _ :: xs, _, _, ns, .cons a b, h => by simp [blsOf] at h
  | .dct _ :: xs, _, _, ns, .cons a b, h => by simp [blsOf] at h
  | .src :: xs, _, _, ns, .cons a b, h => by simp [blsOf] at h
  | .scr :: xs, _, _, ns, .cons a b, h => by simp [blsOf] at h

def Blt.val : Blt → Value
  | .len => .builtin "len" | .tuple => .type "tuple" | .list => .type "list" | .sum => .builtin "sum" | .max => .builtin "max" | .min => .builtin "min" | .abs => .builtin "abs" | .int => .type "int"
  | .sorted => .builtin "sorted" | .repr => .builtin "repr" | .any => .builtin "any" | .all => .builtin "all" | .str => .type "str" | .dict => .type "dict"

theorem maxI_spec : ∀ (ns : List Int) (m : Int), maxI m ns ∈ m :: ns ∧ ∀ y ∈ m :: ns, y ≤ maxI m ns
  | [], m => by simp [maxI]
  | x :: r, m => by
    have ih := maxI_spec r (if x > m then x else m)
    have hq : m ≤ (if x > m then x else m) ∧ x ≤ (if x > m then x else m) ∧ ((if x > m then x else m) = m ∨ (if x > m then x else m) = x) := by split <;> omega
    unfold maxI
    generalize (if x > m then x else m) = q at ih hq
    have h0 := ih.2 _ List.mem_cons_self
    constructor
    · rcases List.mem_cons.mp ih.1 with e | e
      · rw [e]; rcases hq.2.2 with z | z <;> rw [z] <;> simp
      · exact List.mem_cons_of_mem _ (List.mem_cons_of_mem _ e)
    · intro y hy
      rcases List.mem_cons.mp hy with e | hy
      · omega
      · rcases List.mem_cons.mp hy with e | hy
        · omega
        · exact ih.2 y (List.mem_cons_of_mem _ hy)
theorem minI_spec : ∀ (ns : List Int) (m : Int), minI m ns ∈ m :: ns ∧ ∀ y ∈ m :: ns, minI m ns ≤ y
  | [], m => by simp [minI]
  | x :: r, m => by
    have ih := minI_spec r (if x < m then x else m)
    have hq : (if x < m then x else m) ≤ m ∧ (if x < m then x else m) ≤ x ∧ ((if x < m then x else m) = m ∨ (if x < m then x else m) = x) := by split <;> omega
    unfold minI
    generalize (if x < m then x else m) = q at ih hq
    have h0 := ih.2 _ List.mem_cons_self
    constructor
    · rcases List.mem_cons.mp ih.1 with e | e
      · rw [e]; rcases hq.2.2 with z | z <;> rw [z] <;> simp
      · exact List.mem_cons_of_mem _ (List.mem_cons_of_mem _ e)
    · intro y hy
      rcases List.mem_cons.mp hy with e | hy
      · omega
      · rcases List.mem_cons.mp hy with e | hy
        · omega
        · exact ih.2 y (List.mem_cons_of_mem _ hy)

theorem len_ok : CallR X (Blt.val .len) (rC X.K (bltin .len)) := by
  intro pins s σ H vs us Q I rs ⟨W, H0, G0, G, as, A, t, n, rv, fa, hp⟩
  match as, hp, rv with
  | [.tup xs], hp, rv =>
    obtain ⟨v, rfl, r⟩ := rv.one
    obtain ⟨a, ws, rfl, ea, r1⟩ := r.tup_of
    refine call_len_seq pins s σ H _ us Q I rs ⟨a, ws, rfl, .inr (SqT.of' ea), ?_⟩
    rw [← r1.length]
    exact fin0 hp n (.int _)
  | [.lst m xs], hp, rv =>
    obtain ⟨v, rfl, r⟩ := rv.one
    obtain ⟨a, ws, B, rfl, ea, r1, _⟩ := r.lst_of
    refine call_len_seq pins s σ H _ us Q I rs ⟨a, ws, rfl, .inl (SqL.of' ea), ?_⟩
    rw [← r1.length]
    exact fin0 hp n (.int _)
  | [.str z], hp, rv =>
    obtain ⟨v, rfl, r⟩ := rv.one
    obtain rfl := r.str_of
    have hp : Post X.K H0 G0 (RV X.K) W Q (if z.length ≤ sizeLine then .ok (.int z.length) t else .bad) := hp
    split at hp
    · rename_i hz
      exact call_len_str pins s σ H _ us Q I rs ⟨z, rfl, hz, fin0 hp n (.int _)⟩
    · exact False.elim hp
  | [.non], hp, _ => exact False.elim hp
  | [.bl _], hp, _ => exact False.elim hp
  | [.int _], hp, _ => exact False.elim hp
  | [.dct _], hp, _ => exact False.elim hp
  | [.src], hp, _ => exact False.elim hp
  | [.scr], hp, _ => exact False.elim hp
  | [], hp, _ => exact False.elim hp
  | a :: b :: r, hp, _ => cases a <;> exact False.elim hp

theorem tuple_ok : CallR X (Blt.val .tuple) (rC X.K (bltin .tuple)) := by
  intro pins s σ H vs us Q I rs ⟨W, H0, G0, G, as, A, t, n, rv, fa, hp⟩
  match as, hp, rv with
  | [.tup xs], hp, rv =>
    obtain ⟨v, rfl, r⟩ := rv.one
    obtain ⟨a, ws, rfl, ea, r1⟩ := r.tup_of
    exact call_tuple_of pins s σ H _ us Q I rs ⟨a, ws, rfl, .inr ⟨SqT.of' ea, Post.at hp n r fa⟩⟩
  | [.lst m xs], hp, rv =>
    obtain ⟨v, rfl, r⟩ := rv.one
    have n' := n.addT fa r.lists
    obtain ⟨a, ws, rfl, ea, r1⟩ := (r.keep (Keep.addT A A)).items fun a q => .inr q
    exact call_tuple_of pins s σ H _ us Q I rs ⟨a, ws, rfl, .inl ⟨SqL.of' ea, fun l hl => fin_tup hp n' r1 l hl⟩⟩
  | [.str z], hp, _ => exact False.elim hp
  | [.non], hp, _ => exact False.elim hp
  | [.bl _], hp, _ => exact False.elim hp
  | [.int _], hp, _ => exact False.elim hp
  | [.dct _], hp, _ => exact False.elim hp
  | [.src], hp, _ => exact False.elim hp
  | [.scr], hp, _ => exact False.elim hp
  | [], hp, _ => exact False.elim hp
  | a :: b :: r, hp, _ => cases a <;> exact False.elim hp

theorem list_ok : CallR X (Blt.val .list) (rC X.K (bltin .list)) := by
  intro pins s σ H vs us Q I rs ⟨W, H0, G0, G, as, A, t, n, rv, fa, hp⟩
  match as, hp, rv with
  | [.tup xs], hp, rv =>
    obtain ⟨v, rfl, r⟩ := rv.one
    obtain ⟨a, ws, rfl, ea, r1⟩ := r.tup_of
    exact call_list_of pins s σ H _ us Q I rs ⟨a, ws, rfl, .inr (SqT.of' ea), fun l hl => fin_new hp n r1 l hl⟩
  | [.lst m xs], hp, rv =>
    obtain ⟨v, rfl, r⟩ := rv.one
    have n' := n.addT fa r.lists
    obtain ⟨a, ws, rfl, ea, r1⟩ := (r.keep (Keep.addT A A)).items fun a q => .inr q
    exact call_list_of pins s σ H _ us Q I rs ⟨a, ws, rfl, .inl (SqL.of' ea), fun l hl => fin_new hp n' r1 l hl⟩
  | [.str z], hp, _ => exact False.elim hp
  | [.non], hp, _ => exact False.elim hp
  | [.bl _], hp, _ => exact False.elim hp
  | [.int _], hp, _ => exact False.elim hp
  | [.dct _], hp, _ => exact False.elim hp
  | [.src], hp, _ => exact False.elim hp
  | [.scr], hp, _ => exact False.elim hp
  | [], hp, _ => exact False.elim hp
  | a :: b :: r, hp, _ => cases a <;> exact False.elim hp

/-- none of it: the arguments are others -/
theorem noB {α : Prop} {K : W.Frag} {H0 : Hp} {G0 : Gh} {W : XW} {Q : VK} (h : Post K H0 G0 (RV K) W Q .bad) : α := False.elim h

theorem iter_tupI {prog : Program} {w : World} {A : Around} {E : Value → Shared → Prop} {s : Shared} {l : Addr} {items : Array Value} {Q : Value → Shared → Prop} (hl : s.heap.IsTuple l items)
    (h : ∀ s₂ : Shared, s₂ = { s with heap := s.heap.push { cls := .type "tuple_iterator", data := .fields #[.ref l, .int 0 0] } } →
      (s₂.heap.IsTupleIter s.heap.objs.size l 0 ∧ s₂.heap.IsTuple l items) → (∀ b ∈ [s.heap.objs.size, l], b < s₂.heap.objs.size) → l ≠ s.heap.objs.size → Q (.ref s.heap.objs.size) s₂) : wpAny (model prog w) A (pyIter (.ref l)) Q E s := by
  have hlt : l < s.heap.objs.size := by obtain ⟨_, e, _⟩ := hl; exact Heap.lt_size e
  have hs : (s.heap.push { cls := .type "tuple_iterator", data := .fields #[.ref l, .int 0 0] } : Heap).objs.size = s.heap.objs.size + 1 := by simp [Heap.push]
  refine wpAny_pyIter_tuple hl (h _ rfl ⟨⟨_, Heap.get?_push_size _ rfl, rfl, rfl⟩, ?_⟩ (fun b hb => ?_) (Nat.ne_of_lt hlt))
  · obtain ⟨o, e, r⟩ := hl
    exact ⟨o, Heap.get?_push_of_some _ e, r⟩
  · show b < (s.heap.push _).objs.size
    rw [hs]
    rcases List.mem_cons.mp hb with e | hb
    · rw [e]; exact Nat.lt_succ_self _
    · rw [List.mem_singleton.mp hb]; exact Nat.lt_succ_of_lt hlt

theorem sum_tup {prog : Program} {w : World} {A : Around} {E : Value → Shared → Prop} {s : Shared} {l : Addr} {its : List Value} {ns : List Int} {Q : Value → Shared → Prop} (hh : A.handled = none) (hl : s.heap.IsTuple l its.toArray) (hi : IntsAre its ns)
    (h : ∀ h' tk t', (∀ b o, s.heap.get? b = some o → h'.get? b = some o) → Q (.int ns.sum t') { s with heap := h', toks := tk }) : wpAny (model prog w) A (call (.builtin "sum") [.ref l]) Q E s := by
  obtain ⟨xs, e⟩ := hi.allInts.items
  have hn : numsOf (intItems xs).toList = ns := by rw [← e]; exact hi.numsOf
  rw [nums_intItems] at hn
  rw [e] at hl
  refine call_sum_walkG (iter_tupI hl fun s2 e2 st hfp hlI => ?_)
  subst e2
  refine ⟨_, _, _, _, _, _, numAt xs, rfl, Walks.tuple (A := A.in1) hh _ l hlI (intItems xs), st, hfp, (fun _ _ => intItems_at), fun h' tk t' hk => ?_⟩
  have hk' : ∀ b o, s.heap.get? b = some o → h'.get? b = some o := fun b o eo => hk b o (fun hmem => by
    rw [List.mem_singleton.mp hmem] at eo
    exact absurd (Heap.lt_size eo) (Nat.lt_irrefl _)) (Heap.get?_push_of_some _ eo)
  have := h h' tk t' hk'
  rw [show (intItems xs).size = xs.size by simp [intItems], preSum_eq, List.take_of_length_le (by simp), hn]
  exact this

theorem cr_sumT (hc : X.calm = true) : CallR X (.builtin "sum") (fun vs H Q => ∃ (a : Addr) (ns : List Int), vs = [V.ref a] ∧ SqT X.K H a (ns.map V.int) ∧ Q (.int ns.sum) H) := by
  intro pins s σ H vs us Q I r h
  obtain ⟨a, ns, rfl, hs, q⟩ := h
  obtain ⟨its, rv, hl, _⟩ := I.tuple hs
  rw [Vals.ref1 r]
  exact sum_tup (I.ok.hd hc) hl (rv.ints) fun h' tk t' hk => ⟨.int ns.sum, H, I.kept hk, ⟨_, rfl⟩, q⟩

theorem sum_ok (c : Cxt X) : CallR X (Blt.val .sum) (rC X.K (bltin .sum)) := by
  intro pins s σ H vs us Q I rs ⟨W, H0, G0, G, as, A, t, n, rv, fa, hp⟩
  match as, hp, rv with
  | [.tup xs], hp, rv =>
    obtain ⟨v, rfl, r⟩ := rv.one
    obtain ⟨a, ws, rfl, ea, r1⟩ := r.tup_of
    have hp : Post X.K H0 G0 (RV X.K) W Q (match intsOf xs with | some ns => .ok (.int ns.sum) t | none => .bad) := hp
    cases hi : intsOf xs with
    | none => rw [hi] at hp; exact noB hp
    | some ns =>
      rw [hi] at hp
      obtain rfl := ints_rv r1 hi
      exact cr_sumT c.cal pins s σ H _ us Q I rs ⟨a, ns, rfl, SqT.of' ea, fin0 hp n (.int _)⟩
  | [.lst m xs], hp, rv =>
    obtain ⟨v, rfl, r⟩ := rv.one
    obtain ⟨a, ws, B, rfl, ea, r1, _⟩ := r.lst_of
    have hp : Post X.K H0 G0 (RV X.K) W Q (match intsOf xs with | some ns => .ok (.int ns.sum) t | none => .bad) := hp
    cases hi : intsOf xs with
    | none => rw [hi] at hp; exact noB hp
    | some ns =>
      rw [hi] at hp
      obtain rfl := ints_rv r1 hi
      exact cr_sum c.cal pins s σ H _ us Q I rs ⟨a, ns, rfl, SqL.of' ea, fin0 hp n (.int _)⟩
  | [.str _], hp, _ => exact False.elim hp
  | [.non], hp, _ => exact False.elim hp
  | [.bl _], hp, _ => exact False.elim hp
  | [.int _], hp, _ => exact False.elim hp
  | [.dct _], hp, _ => exact False.elim hp
  | [.src], hp, _ => exact False.elim hp
  | [.scr], hp, _ => exact False.elim hp
  | [], hp, _ => exact False.elim hp
  | a :: b :: r, hp, _ => cases a <;> exact False.elim hp

theorem max_ok (c : Cxt X) : CallR X (Blt.val .max) (rC X.K (bltin .max)) := by
  intro pins s σ H vs us Q I rs ⟨W, H0, G0, G, as, A, t, n, rv, fa, hp⟩
  match as, hp, rv with
  | [.lst m xs], hp, rv =>
    obtain ⟨v, rfl, r⟩ := rv.one
    obtain ⟨a, ws, B, rfl, ea, r1, _⟩ := r.lst_of
    have hp : Post X.K H0 G0 (RV X.K) W Q (match intsOf xs with | some (m :: ns) => .ok (.int (maxI m ns)) t | _ => .bad) := hp
    cases hi : intsOf xs with
    | none => rw [hi] at hp; exact noB hp
    | some ns =>
      cases ns with
      | nil => rw [hi] at hp; exact noB hp
      | cons k ns =>
        rw [hi] at hp
        obtain rfl := ints_rv r1 hi
        have sp := maxI_spec ns k
        refine cr_max c.cal pins s σ H _ us Q I rs ⟨a, k :: ns, rfl, SqL.of' ea, by simp, fun M h1 h2 => ?_⟩
        have : M = maxI k ns := Int.le_antisymm (sp.2 _ h1) (h2 _ sp.1)
        rw [this]
        exact fin0 hp n (.int _)
  | [.int i, .int j], hp, rv =>
    obtain ⟨v, w, B, C, rfl, rfl, r, r'⟩ := rv.two
    obtain rfl := r.int_of
    obtain rfl := r'.int_of
    exact call_max2 c.cal pins s σ H _ us Q I rs ⟨i, j, rfl, fin0 hp n (.int _)⟩
  | [.tup xs], hp, rv =>
    obtain ⟨v, rfl, r⟩ := rv.one
    obtain ⟨a, ws, rfl, ea, r1⟩ := r.tup_of
    have hp : Post X.K H0 G0 (RV X.K) W Q (match intsOf xs with | some (m :: ns) => .ok (.int (maxI m ns)) t | _ => .bad) := hp
    cases hi : intsOf xs with
    | none => rw [hi] at hp; exact noB hp
    | some ns =>
      cases ns with
      | nil => rw [hi] at hp; exact noB hp
      | cons k ns =>
        rw [hi] at hp
        obtain rfl := ints_rv r1 hi
        have sp := maxI_spec ns k
        refine cr_maxT c.cal pins s σ H _ us Q I rs ⟨a, k :: ns, rfl, SqT.of' ea, by simp, fun M h1 h2 => ?_⟩
        have : M = maxI k ns := Int.le_antisymm (sp.2 _ h1) (h2 _ sp.1)
        rw [this]
        exact fin0 hp n (.int _)
  | [.str _], hp, _ => exact False.elim hp
  | [.non], hp, _ => exact False.elim hp
  | [.bl _], hp, _ => exact False.elim hp
  | [.int _], hp, _ => exact False.elim hp
  | [.dct _], hp, _ => exact False.elim hp
  | [.src], hp, _ => exact False.elim hp
  | [.scr], hp, _ => exact False.elim hp
  | [], hp, _ => exact False.elim hp
  | a :: b :: d :: r, hp, _ => cases a <;> cases b <;> exact False.elim hp
  | [.tup _, b], hp, _ => exact False.elim hp
  | [.str _, b], hp, _ => exact False.elim hp
  | [.non, b], hp, _ => exact False.elim hp
  | [.bl _, b], hp, _ => exact False.elim hp
  | [.lst _ _, b], hp, _ => exact False.elim hp
  | [.dct _, b], hp, _ => exact False.elim hp
  | [.src, b], hp, _ => exact False.elim hp
  | [.scr, b], hp, _ => exact False.elim hp
  | [.int _, .tup _], hp, _ => exact False.elim hp
  | [.int _, .str _], hp, _ => exact False.elim hp
  | [.int _, .non], hp, _ => exact False.elim hp
  | [.int _, .bl _], hp, _ => exact False.elim hp
  | [.int _, .lst _ _], hp, _ => exact False.elim hp
  | [.int _, .dct _], hp, _ => exact False.elim hp
  | [.int _, .src], hp, _ => exact False.elim hp
  | [.int _, .scr], hp, _ => exact False.elim hp

theorem min_ok (c : Cxt X) : CallR X (Blt.val .min) (rC X.K (bltin .min)) := by
  intro pins s σ H vs us Q I rs ⟨W, H0, G0, G, as, A, t, n, rv, fa, hp⟩
  match as, hp, rv with
  | [.lst m xs], hp, rv =>
    obtain ⟨v, rfl, r⟩ := rv.one
    obtain ⟨a, ws, B, rfl, ea, r1, _⟩ := r.lst_of
    have hp : Post X.K H0 G0 (RV X.K) W Q (match intsOf xs with | some (m :: ns) => .ok (.int (minI m ns)) t | _ => .bad) := hp
    cases hi : intsOf xs with
    | none => rw [hi] at hp; exact noB hp
    | some ns =>
      cases ns with
      | nil => rw [hi] at hp; exact noB hp
      | cons k ns =>
        rw [hi] at hp
        obtain rfl := ints_rv r1 hi
        have sp := minI_spec ns k
        refine cr_min c.cal pins s σ H _ us Q I rs ⟨a, k :: ns, rfl, SqL.of' ea, by simp, fun M h1 h2 => ?_⟩
        have : M = minI k ns := Int.le_antisymm (h2 _ sp.1) (sp.2 _ h1)
        rw [this]
        exact fin0 hp n (.int _)
  | [.int i, .int j], hp, rv =>
    obtain ⟨v, w, B, C, rfl, rfl, r, r'⟩ := rv.two
    obtain rfl := r.int_of
    obtain rfl := r'.int_of
    exact call_min2 c.cal pins s σ H _ us Q I rs ⟨i, j, rfl, fin0 hp n (.int _)⟩
  | [.tup _], hp, _ => exact False.elim hp
  | [.str _], hp, _ => exact False.elim hp
  | [.non], hp, _ => exact False.elim hp
  | [.bl _], hp, _ => exact False.elim hp
  | [.int _], hp, _ => exact False.elim hp
  | [.dct _], hp, _ => exact False.elim hp
  | [.src], hp, _ => exact False.elim hp
  | [.scr], hp, _ => exact False.elim hp
  | [], hp, _ => exact False.elim hp
  | a :: b :: d :: r, hp, _ => cases a <;> cases b <;> exact False.elim hp
  | [.tup _, b], hp, _ => exact False.elim hp
  | [.str _, b], hp, _ => exact False.elim hp
  | [.non, b], hp, _ => exact False.elim hp
  | [.bl _, b], hp, _ => exact False.elim hp
  | [.lst _ _, b], hp, _ => exact False.elim hp
  | [.dct _, b], hp, _ => exact False.elim hp
  | [.src, b], hp, _ => exact False.elim hp
  | [.scr, b], hp, _ => exact False.elim hp
  | [.int _, .tup _], hp, _ => exact False.elim hp
  | [.int _, .str _], hp, _ => exact False.elim hp
  | [.int _, .non], hp, _ => exact False.elim hp
  | [.int _, .bl _], hp, _ => exact False.elim hp
  | [.int _, .lst _ _], hp, _ => exact False.elim hp
  | [.int _, .dct _], hp, _ => exact False.elim hp
  | [.int _, .src], hp, _ => exact False.elim hp
  | [.int _, .scr], hp, _ => exact False.elim hp

theorem abs_ok : CallR X (Blt.val .abs) (rC X.K (bltin .abs)) := by
  intro pins s σ H vs us Q I rs ⟨W, H0, G0, G, as, A, t, n, rv, fa, hp⟩
  match as, hp, rv with
  | [.int i], hp, rv =>
    obtain ⟨v, rfl, r⟩ := rv.one
    obtain rfl := r.int_of
    exact call_abs pins s σ H _ us Q I rs ⟨i, rfl, fin0 hp n (.int _)⟩
  | [], hp, _ => exact False.elim hp
  | a :: b :: r, hp, _ => cases a <;> exact False.elim hp
  | [.tup _], hp, _ => exact False.elim hp
  | [.lst _ _], hp, _ => exact False.elim hp
  | [.str _], hp, _ => exact False.elim hp
  | [.non], hp, _ => exact False.elim hp
  | [.bl _], hp, _ => exact False.elim hp
  | [.dct _], hp, _ => exact False.elim hp
  | [.src], hp, _ => exact False.elim hp
  | [.scr], hp, _ => exact False.elim hp

theorem int_ok : CallR X (Blt.val .int) (rC X.K (bltin .int)) := by
  intro pins s σ H vs us Q I rs ⟨W, H0, G0, G, as, A, t, n, rv, fa, hp⟩
  match as, hp, rv with
  | [.int i], hp, rv =>
    obtain ⟨v, rfl, r⟩ := rv.one
    obtain rfl := r.int_of
    exact call_int1 pins s σ H _ us Q I rs (.inl ⟨i, rfl, fin0 hp n (.int _)⟩)
  | [.bl k], hp, rv =>
    obtain ⟨v, rfl, r⟩ := rv.one
    obtain rfl := r.bl_of
    exact call_int1 pins s σ H _ us Q I rs (.inr ⟨k, rfl, fin0 hp n (.int _)⟩)
  | [], hp, _ => exact False.elim hp
  | a :: b :: r, hp, _ => cases a <;> exact False.elim hp
  | [.tup _], hp, _ => exact False.elim hp
  | [.lst _ _], hp, _ => exact False.elim hp
  | [.str _], hp, _ => exact False.elim hp
  | [.non], hp, _ => exact False.elim hp
  | [.dct _], hp, _ => exact False.elim hp
  | [.src], hp, _ => exact False.elim hp
  | [.scr], hp, _ => exact False.elim hp

theorem str_ok : CallR X (Blt.val .str) (rC X.K (bltin .str)) := by
  intro pins s σ H vs us Q I rs ⟨W, H0, G0, G, as, A, t, n, rv, fa, hp⟩
  match as, hp, rv with
  | [.int i], hp, rv =>
    obtain ⟨v, rfl, r⟩ := rv.one
    obtain rfl := r.int_of
    have hp : Post X.K H0 G0 (RV X.K) W Q (if i.natAbs.log2 < 1920 then .ok (.str (toString i)) t else .bad) := hp
    split at hp
    · rename_i hz
      exact call_str_int pins s σ H _ us Q I rs ⟨i, rfl, hz, fin0 hp n (.str _)⟩
    · exact False.elim hp
  | [], hp, _ => exact False.elim hp
  | a :: b :: r, hp, _ => cases a <;> exact False.elim hp
  | [.tup _], hp, _ => exact False.elim hp
  | [.lst _ _], hp, _ => exact False.elim hp
  | [.str _], hp, _ => exact False.elim hp
  | [.non], hp, _ => exact False.elim hp
  | [.bl _], hp, _ => exact False.elim hp
  | [.dct _], hp, _ => exact False.elim hp
  | [.src], hp, _ => exact False.elim hp
  | [.scr], hp, _ => exact False.elim hp

theorem any_ok (c : Cxt X) : CallR X (Blt.val .any) (rC X.K (bltin .any)) := by
  intro pins s σ H vs us Q I rs ⟨W, H0, G0, G, as, A, t, n, rv, fa, hp⟩
  match as, hp, rv with
  | [.lst m xs], hp, rv =>
    obtain ⟨v, rfl, r⟩ := rv.one
    obtain ⟨a, ws, B, rfl, ea, r1, _⟩ := r.lst_of
    have hp : Post X.K H0 G0 (RV X.K) W Q (match blsOf xs with | some bs => .ok (.bl (bs.any id)) t | none => .bad) := hp
    cases hi : blsOf xs with
    | none => rw [hi] at hp; exact noB hp
    | some ns =>
      rw [hi] at hp
      obtain rfl := bls_rv r1 hi
      exact cr_any c.cal pins s σ H _ us Q I rs ⟨a, ns, rfl, SqL.of' ea, fin0 hp n (.bl _)⟩
  | [], hp, _ => exact False.elim hp
  | a :: b :: r, hp, _ => cases a <;> exact False.elim hp
  | [.tup _], hp, _ => exact False.elim hp
  | [.int _], hp, _ => exact False.elim hp
  | [.str _], hp, _ => exact False.elim hp
  | [.non], hp, _ => exact False.elim hp
  | [.bl _], hp, _ => exact False.elim hp
  | [.dct _], hp, _ => exact False.elim hp
  | [.src], hp, _ => exact False.elim hp
  | [.scr], hp, _ => exact False.elim hp
theorem all_ok (c : Cxt X) : CallR X (Blt.val .all) (rC X.K (bltin .all)) := by
  intro pins s σ H vs us Q I rs ⟨W, H0, G0, G, as, A, t, n, rv, fa, hp⟩
  match as, hp, rv with
  | [.lst m xs], hp, rv =>
    obtain ⟨v, rfl, r⟩ := rv.one
    obtain ⟨a, ws, B, rfl, ea, r1, _⟩ := r.lst_of
    have hp : Post X.K H0 G0 (RV X.K) W Q (match blsOf xs with | some bs => .ok (.bl (bs.all id)) t | none => .bad) := hp
    cases hi : blsOf xs with
    | none => rw [hi] at hp; exact noB hp
    | some ns =>
      rw [hi] at hp
      obtain rfl := bls_rv r1 hi
      exact cr_all c.cal pins s σ H _ us Q I rs ⟨a, ns, rfl, SqL.of' ea, fin0 hp n (.bl _)⟩
  | [], hp, _ => exact False.elim hp
  | a :: b :: r, hp, _ => cases a <;> exact False.elim hp
  | [.tup _], hp, _ => exact False.elim hp
  | [.int _], hp, _ => exact False.elim hp
  | [.str _], hp, _ => exact False.elim hp
  | [.non], hp, _ => exact False.elim hp
  | [.bl _], hp, _ => exact False.elim hp
  | [.dct _], hp, _ => exact False.elim hp
  | [.src], hp, _ => exact False.elim hp
  | [.scr], hp, _ => exact False.elim hp

theorem repr_ok (c : Cxt X) : CallR X (Blt.val .repr) (rC X.K (bltin .repr)) := by
  intro pins s σ H vs us Q I rs ⟨W, H0, G0, G, as, A, t, n, rv, fa, hp⟩
  match as, hp, rv with
  | [a], hp, rv =>
    obtain ⟨v, rfl, r⟩ := rv.one
    have hp : Post X.K H0 G0 (RV X.K) W Q (if (shp 30 a && (toD a).showable && decide ((toD a).shown.length ≤ sizeLine)) = true then .ok (.str (toD a).shown) t else .bad) := by cases a <;> exact hp
    split at hp
    · rename_i hb
      rw [Bool.and_eq_true, Bool.and_eq_true, decide_eq_true_eq] at hb
      obtain ⟨⟨h1, h2⟩, h3⟩ := hb
      obtain ⟨u, rfl, ru⟩ := Vals.one rs
      have fin : ∀ (h' : Heap) (tu : Tok) (tk : Nat), (∀ b o, s.heap.get? b = some o → h'.get? b = some o) → EP X pins σ Q (.str (toD a).shown tu) { s with heap := h', toks := tk } := fun h' tu tk hk =>
        ⟨.str _, H, I.kept hk, ⟨_, rfl⟩, fin0 hp n (.str _)⟩
      have l1 := shp_lay 30 a h1
      obtain ⟨as, q1⟩ := Dp.reads I (toD a) v u (r.dp h1) ru
      have hd := PyData.hasDict_of_canLay _ l1.1
      have hu := c.hu
      have ref : ∀ b, v = .ref b → wpAny (model X.prog X.w) X.A (call (.builtin "repr") [u]) (EP X pins σ Q) X.xe s := by
        rintro b rfl
        cases ru
        exact repr_of_reads' q1 h2 (PyData.noDict_hsm hd) c.gd (by omega) (fun _ _ e => e) (fun h' tu tk hk => fin h' tu tk hk) h3
      cases r with
      | non =>
        cases ru
        exact PySem.P.repr_of_none (fin s.heap _ _ fun _ _ e => e)
      | bl b =>
        cases ru
        refine PySem.P.repr_of_bool ?_
        have e : (toD (.bl b)).shown = (if b then "True" else "False" : Str) := by cases b <;> rfl
        have := fin s.heap s.toks (s.toks + 1) fun _ _ e => e
        rw [e] at this
        exact this
      | int i =>
        obtain ⟨tk, rfl⟩ := ru
        exact PySem.P.repr_of_int (by simpa [toD, PyData.showable] using h2) (fin s.heap _ _ fun _ _ e => e)
      | str x =>
        obtain ⟨tk, rfl⟩ := ru
        exact PySem.P.repr_of_str (fin s.heap _ _ fun _ _ e => e) h3
      | tup _ _ => exact ref _ rfl
      | lf _ _ _ => exact ref _ rfl
      | lb _ _ _ => exact ref _ rfl
      | lt _ _ _ => exact ref _ rfl
      | lo _ _ => exact ref _ rfl
      | dct _ => simp [shp] at h1
      | src _ => simp [shp] at h1
      | scr => simp [shp] at h1
    · exact noB hp
  | [], hp, _ => exact False.elim hp
  | a :: b :: r, hp, _ => cases a <;> exact False.elim hp
end
end Py
end

section
/-! PySo: sorted, of tuples that are alike. -/
namespace Py
open PySem L2 PyProof.Rows

abbrev dLe : PV → PV → Bool := W.dataLe false toD
theorem dLe_total : W.TotalLe dLe := W.sortLe_total _ _ _
theorem dLe_iff (x y : PV) : dLe x y = !W.dataLt (toD y) (toD x) := congrFun (congrFun (W.dataLe_eq false toD) x) y
theorem lexE (b : Bool) : lexLt itemOrd [.inl 0] [.inl 0] = false := by rfl
theorem lt_nil_cons (l : List (Int ⊕ List Nat)) : lexLt itemOrd [.inl 0] (.inl 1 :: l) = true := by
  rw [lex_cons]; rfl
theorem lt_cons_nil (l : List (Int ⊕ List Nat)) : lexLt itemOrd (.inl 1 :: l) [.inl 0] = false := by
  rw [lex_cons]; rfl
mutual
theorem ltD_data : ∀ (x y : PV), srtB x = true → W.alike (toD x) (toD y) = true → ltD (toD x) (toD y) = some (W.dataLt (toD x) (toD y))
  | .int i, y, _, ha => by
    cases y <;> first | (simp [toD, W.alike] at ha; done) | skip
    rename_i j
    show some (decide (i < j)) = some (W.dataLt (.int i) (.int j))
    rw [W.dataLt_int]
  | .str i, y, _, ha => by
    cases y <;> first | (simp [toD, W.alike] at ha; done) | skip
    rename_i j
    show some (decide (i.cps.toList < j.cps.toList)) = some (W.dataLt (.str i) (.str j))
    rw [W.dataLt_str]
  | .tup xs, y, h, ha => by
    cases y <;> first | (simp [toD, W.alike] at ha; done) | skip
    rename_i ys
    show ltDs (toDs xs) (toDs ys) = some (W.dataLt (.tuple (toDs xs)) (.tuple (toDs ys)))
    rw [W.dataLt_tuple]
    exact ltDs_data xs ys h (by simpa [toD, W.alike] using ha)
  | .non, _, h, _ => by cases h
  | .bl _, _, h, _ => by cases h
  | .lst _ _, _, h, _ => by cases h
  | .dct _, _, h, _ => by cases h
  | .src, _, h, _ => by cases h
  | .scr, _, h, _ => by cases h
theorem ltDs_data : ∀ (xs ys : List PV), srtBs xs = true → W.alikeAll (toDs xs) (toDs ys) = true → ltDs (toDs xs) (toDs ys) = some (lexLt itemOrd (W.keyToksAll (toDs xs)) (W.keyToksAll (toDs ys)))
  | [], [], _, _ => by
    show ltDs [] [] = some (lexLt itemOrd (W.keyToksAll []) (W.keyToksAll []))
    simp only [ltDs, W.keyToksAll]
    rw [lexE true]
  | [], y :: ys, _, _ => by
    show ltDs [] (toD y :: toDs ys) = some (lexLt itemOrd (W.keyToksAll []) (W.keyToksAll (toD y :: toDs ys)))
    simp only [ltDs, W.keyToksAll]
    rw [lt_nil_cons]
  | x :: xs, [], _, _ => by
    show ltDs (toD x :: toDs xs) [] = some (lexLt itemOrd (W.keyToksAll (toD x :: toDs xs)) (W.keyToksAll []))
    simp only [ltDs, W.keyToksAll]
    rw [lt_cons_nil]
  | x :: xs, y :: ys, h, ha => by
    have h : (srtB x && srtBs xs) = true := h
    rw [Bool.and_eq_true] at h
    have ha := W.alike_all_cons (x := toD x) (y := toD y) (xs := toDs xs) (ys := toDs ys) ha
    have h1 := ltD_data x y h.1 ha.1
    have h2 := ltDs_data xs ys h.2 ha.2
    show ltDs (toD x :: toDs xs) (toD y :: toDs ys) = some (lexLt itemOrd (W.keyToksAll (toD x :: toDs xs)) (W.keyToksAll (toD y :: toDs ys)))
    rw [ltDs, h1, h2, W.dataLt_cons ha.1]
end
theorem ltP_le {x y : PV} (h : srtB x = true) (ha : W.alike (toD x) (toD y) = true) : ltP x y = some (!dLe y x) := by
  unfold ltP
  rw [ltD_data x y h ha, dLe_iff, Bool.not_not]

/-! ### by insertion, by the core's sort -/
section
variable {α : Type} {le : α → α → Bool} {f : α → α → Bool}
def insG (f : α → α → Bool) (x : α) : List α → List α
  | [] => [x]
  | y :: r => if f y x = true then y :: insG f x r else x :: y :: r
theorem insG_perm (x : α) : ∀ l, (insG f x l).Perm (x :: l)
  | [] => List.Perm.refl _
  | y :: r => by
    unfold insG
    split
    · exact ((insG_perm x r).cons y).trans (List.Perm.swap x y r)
    · exact List.Perm.refl _
theorem insG_srt (h : W.TotalLe le) (x : α) : ∀ l, (∀ y ∈ l, f y x = !le x y) → l.Pairwise (fun a b => le a b = true) → (insG f x l).Pairwise (fun a b => le a b = true)
  | [], _, _ => List.pairwise_singleton _ _
  | y :: r, hf, hp => by
    have hp' := List.pairwise_cons.mp hp
    have fy := hf y List.mem_cons_self
    unfold insG
    split
    · rename_i q
      rw [q] at fy
      have nle : le x y = false := by simpa using fy.symm
      have yx : le y x = true := (h.total x y).resolve_left (by rw [nle]; exact Bool.false_ne_true)
      refine List.pairwise_cons.mpr ⟨fun z hz => ?_, insG_srt h x r (fun z hz => hf z (List.mem_cons_of_mem _ hz)) hp'.2⟩
      rcases List.mem_cons.mp ((insG_perm x r).mem_iff.mp hz) with e | e
      · rw [e]; exact yx
      · exact hp'.1 z e
    · rename_i q
      rw [Bool.not_eq_true] at q
      rw [q] at fy
      have lxy : le x y = true := by simpa using fy.symm
      refine List.pairwise_cons.mpr ⟨fun z hz => ?_, hp⟩
      rcases List.mem_cons.mp hz with e | e
      · rw [e]; exact lxy
      · exact h.trans x y z lxy (hp'.1 z e)
theorem insG_cls (h : W.TotalLe le) (x c : α) : ∀ l, (∀ y ∈ l, f y x = !le x y) → (insG f x l).filter (W.sameRank le c) = (x :: l).filter (W.sameRank le c)
  | [], _ => rfl
  | y :: r, hf => by
    have fy := hf y List.mem_cons_self
    unfold insG
    split
    · rename_i q
      rw [q] at fy
      have nle : le x y = false := by simpa using fy.symm
      have ih := insG_cls h x c r fun z hz => hf z (List.mem_cons_of_mem _ hz)
      rw [List.filter_cons, ih, List.filter_cons, List.filter_cons (x := x), List.filter_cons (x := y)]
      by_cases cx : W.sameRank le c x = true
      · have cy : W.sameRank le c y = false := by
          rw [← Bool.not_eq_true]
          intro z
          unfold W.sameRank at cx z
          rw [Bool.and_eq_true] at cx z
          have := h.trans x c y cx.2 z.1
          rw [nle] at this
          cases this
        rw [cx, cy]; rfl
      · rw [Bool.not_eq_true] at cx
        rw [cx]; rfl
    · rfl
def srtG (f : α → α → Bool) : List α → List α
  | [] => []
  | x :: r => insG f x (srtG f r)
theorem srtG_perm : ∀ l : List α, (srtG f l).Perm l
  | [] => List.Perm.refl _
  | x :: r => (insG_perm x _).trans ((srtG_perm r).cons x)
theorem srtG_ok (h : W.TotalLe le) : ∀ l : List α, (∀ x ∈ l, ∀ y ∈ l, f y x = !le x y) → (srtG f l).Pairwise (fun a b => le a b = true) ∧ ∀ c, (srtG f l).filter (W.sameRank le c) = l.filter (W.sameRank le c)
  | [], _ => ⟨List.Pairwise.nil, fun _ => rfl⟩
  | x :: r, hf => by
    obtain ⟨a, b⟩ := srtG_ok h r fun u hu v hv => hf u (List.mem_cons_of_mem _ hu) v (List.mem_cons_of_mem _ hv)
    have hx : ∀ y ∈ srtG f r, f y x = !le x y := fun y hy => hf x List.mem_cons_self y (List.mem_cons_of_mem _ ((srtG_perm r).mem_iff.mp hy))
    refine ⟨insG_srt h x _ hx a, fun c => ?_⟩
    show (insG f x (srtG f r)).filter _ = _
    rw [insG_cls h x c _ hx, List.filter_cons, List.filter_cons, b c]
theorem srtG_merge (h : W.TotalLe le) (l : List α) (hf : ∀ x ∈ l, ∀ y ∈ l, f y x = !le x y) : srtG f l = l.mergeSort le := W.sort_unique h (srtG_ok h l hf).1 (srtG_ok h l hf).2
end
abbrev ltB (x y : PV) : Bool := decide (ltP x y = some true)
theorem insP_G (x : PV) : ∀ l, insP x l = insG ltB x l
  | [] => rfl
  | y :: r => by
    unfold insP insG
    rw [insP_G x r]
    by_cases h : ltP y x = some true
    · rw [if_pos h, if_pos (decide_eq_true h)]
    · rw [if_neg h, if_neg fun z => h (of_decide_eq_true z)]
theorem sortP_G : ∀ l, sortP l = srtG ltB l
  | [] => rfl
  | x :: r => by
    show insP x (sortP r) = _
    rw [sortP_G r, insP_G]; rfl
theorem srtBs_mem : ∀ {xs : List PV}, srtBs xs = true → ∀ x ∈ xs, srtB x = true
  | [], _, x, hx => nomatch hx
  | y :: r, h, x, hx => by
    have h : (srtB y && srtBs r) = true := h
    rw [Bool.and_eq_true] at h
    rcases List.mem_cons.mp hx with e | e
    · rw [e]; exact h.1
    · exact srtBs_mem h.2 x e
theorem sortP_merge {xs : List PV} (h : srtBs xs = true) (ha : alkB xs = true) : sortP xs = xs.mergeSort dLe := by
  rw [sortP_G]
  refine srtG_merge dLe_total xs fun x hx y hy => ?_
  have h1 := srtBs_mem h y hy
  have h2 : W.alike (toD y) (toD x) = true := List.all_eq_true.mp (List.all_eq_true.mp ha y hy) x hx
  show decide (ltP y x = some true) = _
  rw [ltP_le h1 h2]
  cases dLe x y <;> rfl

section
variable {X : Cx}
theorem shps_mem {n : Nat} : ∀ {xs : List PV}, shps n xs = true → ∀ x ∈ xs, shp n x = true
  | [], _, x, hx => nomatch hx
  | y :: r, h, x, hx => by
    have e : shps n (y :: r) = (shp n y && shps n r) := by cases n <;> rfl
    rw [e, Bool.and_eq_true] at h
    rcases List.mem_cons.mp hx with q | q
    · rw [q]; exact h.1
    · exact shps_mem h.2 x q
theorem rvs_zip {K : W.Frag} {G : Gh} {H : Hp} : ∀ {xs : List PV} {ws : List V} {A : List Addr}, RVs K G H xs ws A → A = [] → ∀ p ∈ xs.zip ws, RV K G H p.1 p.2 []
  | _, _, _, .nil, _, p, hp => by simp at hp
  | _, _, _, .cons (A := A) (B := B) h t, e, p, hp => by
    obtain ⟨e1, e2⟩ := List.append_eq_nil_iff.mp e
    rw [List.zip_cons_cons] at hp
    rcases List.mem_cons.mp hp with q | q
    · rw [q]; exact e1 ▸ h
    · exact rvs_zip t e2 p q
theorem rvs_of {K : W.Frag} {G : Gh} {H : Hp} : ∀ {l : List (PV × V)}, (∀ p ∈ l, RV K G H p.1 p.2 []) → RVs K G H (l.map (·.1)) (l.map (·.2)) []
  | [], _ => .nil
  | p :: r, h => .cons (A := []) (B := []) (h p List.mem_cons_self) (rvs_of fun q hq => h q (List.mem_cons_of_mem _ hq))
theorem each_vals {out : List Value} {l : List (PV × V)} (h : W.EachIs (fun v (b : PV × V) => RelV b.2 v) out l) : Vals (l.map (·.2)) out := by
  induction h with
  | nil => exact .nil
  | cons a _ ih => exact .cons a ih
theorem each_of {R : Value → PV × V → Prop} : ∀ {xs : List PV} {ws : List V} {us : List Value}, xs.length = ws.length → Vals ws us → (∀ p ∈ xs.zip ws, ∀ v, RelV p.2 v → R v p) → W.EachIs R us (xs.zip ws)
  | [], [], _, _, .nil, _ => .nil
  | x :: xs, w :: ws, _, hl, .cons a b, h => .cons (h (x, w) List.mem_cons_self _ a) (each_of (by simpa using hl) b fun p hp => h p (List.mem_cons_of_mem _ hp))
  | [], _ :: _, _, hl, _, _ => by cases hl
  | _ :: _, [], _, hl, _, _ => by cases hl
theorem zip_fst : ∀ {xs : List PV} {ws : List V}, xs.length = ws.length → (xs.zip ws).map (·.1) = xs
  | [], [], _ => rfl
  | x :: xs, w :: ws, h => by
    rw [List.zip_cons_cons, List.map_cons, zip_fst (by simpa using h)]
  | [], _ :: _, h => by cases h
  | _ :: _, [], h => by cases h
theorem perm_one {α : Type} {l m : List α} (h : l.Perm m) (hl : m.length ≤ 1) : l = m := by
  match m, hl, h with
  | [], _, p => exact List.Perm.eq_nil p
  | [v], _, p => exact List.perm_singleton.mp p
  | _ :: _ :: _, hh, _ => exact absurd hh (by simp)
theorem sortP_one {xs : List PV} (h : xs.length ≤ 1) : sortP xs = xs := by
  match xs, h with
  | [], _ => rfl
  | [x], _ => rfl
  | _ :: _ :: _, hh => exact absurd hh (by simp)
theorem cr_sortedD (c : Cxt X) : CallR X (.builtin "sorted") (fun vs H Q => ∃ (a : Addr) (G : Gh) (xs : List PV) (ws : List V), vs = [V.ref a] ∧ SqL X.K H a ws ∧ RVs X.K G H xs ws [] ∧ sortOk xs = true ∧
    ∀ ws' p, RVs X.K G H (sortP xs) ws' [] → H p = none → Q (.ref p) (upd H p (.lst ws'))) := by
  intro pins s σ H vs us Q I r h
  obtain ⟨a, G, xs, ws, rfl, hs, rvs, hok, q⟩ := h
  obtain ⟨its, rv, hl, hz⟩ := I.list hs
  rw [Vals.ref1 r]
  have hlen := rvs.length
  have hu := c.hu
  unfold sortOk at hok
  rw [Bool.or_eq_true] at hok
  rcases hok with hok | hok
  · simp only [Bool.and_eq_true] at hok
    obtain ⟨⟨⟨h1, h2⟩, h3⟩, h4⟩ := hok
    have hzl : (xs.zip ws).map (·.1) = xs := zip_fst hlen
    have rel := rvs_zip rvs rfl
    have mem1 : ∀ p ∈ xs.zip ws, p.1 ∈ xs := fun p hp => by rw [← hzl]; exact List.mem_map.mpr ⟨p, hp, rfl⟩
    have e1 : W.EachIs (fun v (b : PV × V) => RelV b.2 v) its (xs.zip ws) := each_of hlen rv fun p hp v hv => hv
    have e2 : W.EachIs (fun v (b : PV × V) => ∃ as, Reads s.heap v (toD b.1) as) its (xs.zip ws) := each_of hlen rv fun p hp v hv => Dp.reads I (toD p.1) p.2 v ((rel p hp).dp (n := 29) (shps_mem h2 _ (mem1 p hp))) hv
    have hal : W.AllAlike ((xs.zip ws).map fun b => toD b.1) := by
      intro d hd d' hd'
      obtain ⟨p, hp, rfl⟩ := List.mem_map.mp hd
      obtain ⟨p', hp', rfl⟩ := List.mem_map.mp hd'
      exact List.all_eq_true.mp (List.all_eq_true.mp h4 _ (mem1 p hp)) _ (mem1 p' hp')
    have hk : W.Sortable ((xs.zip ws).map fun b => toD b.1) := .inl fun d hd => by
      obtain ⟨p, hp, rfl⟩ := List.mem_map.mp hd
      have := List.all_eq_true.mp h3 _ (mem1 p hp)
      generalize p.1 = x at this
      cases x <;> first | (cases this; done) | skip
      rename_i zs
      cases zs with
      | nil => cases this
      | cons z zs => exact ⟨toD z, toDs zs, rfl⟩
    refine W.sorted_data (enc := fun b : PV × V => toD b.1) hl.isList e1 e2 hal hk (by rw [List.length_zip]; omega) (fun b hb => ?_) fun out ho hout => ?_
    · have := (shp_lay 29 b.1 (shps_mem h2 _ (mem1 b hb))).2
      omega
    · obtain ⟨ep, he'⟩ := PyProof.Rows.sortedAll_at s.heap its out.toArray
      have pm := List.mergeSort_perm (xs.zip ws) (W.dataLe false fun b : PV × V => toD b.1)
      have hws : (((xs.zip ws).mergeSort (W.dataLe false fun b : PV × V => toD b.1)).map (·.2)).length ≤ sizeLine := by
        rw [List.length_map, pm.length_eq, List.length_zip]; omega
      have srt : sortP xs = ((xs.zip ws).mergeSort (W.dataLe false fun b : PV × V => toD b.1)).map (·.1) := by
        have sm := W.sort_maps (r := W.dataLe false fun b : PV × V => toD b.1) (s := dLe) (fun p : PV × V => p.1) (l := xs.zip ws) (fun _ _ _ _ => rfl)
        rw [sm, hzl, sortP_merge h1 h4]
      refine ⟨.ref _, upd H (s.heap.objs.size + 1) (.lst (((xs.zip ws).mergeSort (W.dataLe false fun b : PV × V => toD b.1)).map (·.2))), I.laid (t' := s.toks) (fun _ _ => PyProof.Rows.sortedAll_old) (Nat.le_succ _) ⟨hws, out, ep, each_vals hout, he'⟩, rfl, q _ _ ?_ (I.hok.fresh (Nat.le_succ _))⟩
      rw [srt]
      exact rvs_of fun p hp => rel p (pm.mem_iff.mp hp)
  · rw [Bool.and_eq_true, decide_eq_true_eq] at hok
    have hi : its.length ≤ 1 := by rw [← rv.length, ← hlen]; exact hok.1
    refine SrtO.sorted_ord SrtO.swo_int hl.isList (by rw [← rv.length]; exact hz) (fun h2 => absurd h2 (by omega)) fun out h1 h2 => ?_
    obtain ⟨ep, he'⟩ := PyProof.Rows.sortedAll_at s.heap its out.toArray
    have eo : out = its := perm_one h2.perm hi
    have es : sortP xs = xs := sortP_one hok.1
    refine ⟨.ref _, upd H (s.heap.objs.size + 1) (.lst ws), I.laid (t' := s.toks) (fun _ _ => PyProof.Rows.sortedAll_old) (Nat.le_succ _) ⟨hz, out, ep, by rw [eo]; exact rv, he'⟩, rfl, q _ _ ?_ (I.hok.fresh (Nat.le_succ _))⟩
    rw [es]; exact rvs
end
end Py
end

section
/-! PyG2: sorted. -/
namespace Py
open PySem L2 PyProof.Rows

section
variable {prog : Program} {w : World} {A : Around} {E : Value → Shared → Prop} {s : Shared}
theorem collect_tup {l : Addr} {vs : List Value} {Q : List Value → Shared → Prop} (ht : s.heap.IsTuple l vs.toArray)
    (h : Q vs { s with heap := (s.heap.push (seqObj "list" #[] 0)).update s.heap.objs.size (Obj.mapSeq (· ++ vs.toArray)) }) (hz : vs.length ≤ sizeLine) : wpAny (model prog w) A (collect (.ref l)) Q E s := by
  obtain ⟨ot, hot, hct, k, hdt⟩ := id ht
  unfold collect
  refine wpAny_bind (wpAny_runValue (codeAny_builtin (entry_proto_collect') ?_))
  show wpAny _ _ (do again (.builtin "list.__iadd__" ⟨[← newList [], .ref l], []⟩)) (_) (_) s
  refine wpAny_bind (wpAny_newList (wpAny_pure ⟨Code.quiet_builtin _ (by decide +kernel), codeAny_builtin (entry_list_iadd') ?_⟩))
  show wpAny _ _ (Builtin.List.listExtendWith (.ref s.heap.objs.size) (.ref l) (.ref s.heap.objs.size)) (_) (_) { s with heap := s.heap.push (seqObj "list" #[] 0) }
  unfold Builtin.List.listExtendWith
  have hot' : (s.heap.push (seqObj "list" #[] 0)).get? l = some ot := Heap.get?_push_of_some _ hot
  refine wpAny_bind (wpAny_typeOf (T := "tuple") ⟨ot, hot', hct⟩ ?_)
  have hty : (Value.type "tuple" == Value.type "tuple") = true := rfl
  rw [if_pos (by rw [hty]; simp)]
  refine wpAny_bind (listItems_at hot' hdt ?_)
  refine wpAny_bind (listItems_at (xs := #[]) (n := 0) (Heap.get?_push_size _ rfl) (rfl) ?_)
  rw [if_neg (by simp)]
  refine wpAny_bind (listUpdate_at (xs := #[]) (n := 0) (Heap.get?_push_size _ rfl) (rfl) ?_ (Nat.zero_le _) (by show (#[] ++ vs.toArray).size ≤ sizeLine + 1; simp only [Array.size_append, List.size_toArray, List.length_nil]; omega))
  refine wpAny_pure ?_
  show wpAny (model prog w) A (do
      let ob ← load s.heap.objs.size
      match ob.data with
      | .seq xs _ => pure xs.toList
      | _ => unsupported "internal:collect") Q E { s with heap := (s.heap.push (seqObj "list" #[] 0)).update s.heap.objs.size (Obj.mapSeq (· ++ vs.toArray)) }
  refine wpAny_bind (wpAny_load (get?_update_seq (Heap.get?_push_size _ rfl) (_)) ?_)
  show wpAny _ _ (pure ((#[] : Array Value) ++ vs.toArray).toList) Q E (_)
  rw [show ((#[] : Array Value) ++ vs.toArray).toList = vs by simp]
  exact wpAny_pure h

theorem sorted_tup {l : Addr} {vs : List Value} {ltv : Value → Value → Bool} {Q : Value → Shared → Prop} (O : SrtO.Swo ltv) (ht : s.heap.IsTuple l vs.toArray) (hz : vs.length ≤ sizeLine)
    (hS : 2 ≤ vs.length → ∀ (h₁ : Heap) (a : Addr), h₁.get? a = some (seqObj "list" vs.toArray 0) → (∀ b o, s.heap.get? b = some o → b ≠ a ∧ h₁.get? b = some o) → SrtO.SortableO prog w A.in1.in1 { s with heap := h₁ } a vs ltv)
    (h : ∀ out : List Value, SrtO.Srtd ltv out → SrtO.Stb ltv out vs → Q (.ref (s.heap.objs.size + 1)) { s with heap := sortedAll s.heap vs out.toArray }) :
    wpAny (model prog w) A (call (.builtin "sorted") [.ref l]) Q E s := by
  refine Calls.call_function_entry (kind_sorted) plain_sorted entry_sorted (args_sorted1 _) ?_
  unfold Builtin.«sorted»
  refine wpAny_bind (m := checkCount "sorted" 1 1 _) (wpAny_pure (?_))
  refine wpAny_bind (collect_tup ht ?_ hz)
  refine wpAny_bind (wpAny_newList (?_) hz)
  have z1 : ((s.heap.push (seqObj "list" #[] 0)).update s.heap.objs.size (Obj.mapSeq (· ++ vs.toArray))).objs.size = s.heap.objs.size + 1 := by
    rw [Heap.size_update, size_push']
  have z2 : (((s.heap.push (seqObj "list" #[] 0)).update s.heap.objs.size (Obj.mapSeq (· ++ vs.toArray))).push (seqObj "list" vs.toArray 0)).get? (s.heap.objs.size + 1) = some (seqObj "list" vs.toArray 0) := by
    rw [← z1]; exact Heap.get?_push_size _ (rfl)
  have kp : ∀ b o, s.heap.get? b = some o → b ≠ s.heap.objs.size + 1 ∧ (((s.heap.push (seqObj "list" #[] 0)).update s.heap.objs.size (Obj.mapSeq (· ++ vs.toArray))).push (seqObj "list" vs.toArray 0)).get? b = some o := fun b o q => by
    have lt : b < s.heap.objs.size := Heap.lt_size q
    refine ⟨Nat.ne_of_lt (Nat.lt_succ_of_lt lt), Heap.get?_push_of_some _ (?_)⟩
    rw [Heap.get?_update_ne _ _ _ _ (Nat.ne_of_lt lt)]
    exact Heap.get?_push_of_some _ (q)
  show wpAny (_) (_) _ _ _ { s with heap := ((s.heap.push (seqObj "list" #[] 0)).update s.heap.objs.size (Obj.mapSeq (· ++ vs.toArray))).push (seqObj "list" vs.toArray 0) }
  rw [z1]
  refine wpAny_bind (wpAny_holding (wpAny_call_entry slot_list_sort ⟨_, z2, rfl⟩ entry_list_sort (SrtO.list_sort_ord O z2 hz (fun h2 => hS h2 _ _ z2 kp) fun out hs hb => ⟨_, rfl, ?_⟩) (args_list_sort _)))
  exact wpAny_pure ⟨_, rfl, h out (hs) hb⟩
end

/-- two ascending rearrangements of one list are one -/
def sortI (ns : List Int) : List Int := ns.mergeSort
def insI (x : Int) : List Int → List Int
  | [] => [x]
  | y :: r => if y < x then y :: insI x r else x :: y :: r
def isortI : List Int → List Int
  | [] => []
  | x :: r => insI x (isortI r)
theorem insI_perm (x : Int) : ∀ l, (insI x l).Perm (x :: l)
  | [] => List.Perm.refl _
  | y :: r => by
    unfold insI
    split
    · exact ((insI_perm x r).cons y).trans (List.Perm.swap x y r)
    · exact List.Perm.refl _
theorem isortI_perm : ∀ l, (isortI l).Perm l
  | [] => List.Perm.refl _
  | x :: r => (insI_perm x _).trans ((isortI_perm r).cons x)
theorem insI_sorted (x : Int) : ∀ l, l.Pairwise (· ≤ ·) → (insI x l).Pairwise (· ≤ ·)
  | [], _ => List.pairwise_singleton _ _
  | y :: r, h => by
    have h' := List.pairwise_cons.mp h
    unfold insI
    split
    · rename_i q
      refine List.pairwise_cons.mpr ⟨fun z hz => ?_, insI_sorted x r h'.2⟩
      rcases List.mem_cons.mp ((insI_perm x r).mem_iff.mp hz) with e | e
      · omega
      · exact h'.1 z e
    · rename_i q
      refine List.pairwise_cons.mpr ⟨fun z hz => ?_, h⟩
      rcases List.mem_cons.mp hz with e | e
      · omega
      · have := h'.1 z e; omega
theorem isortI_sorted : ∀ l, (isortI l).Pairwise (· ≤ ·)
  | [] => List.Pairwise.nil
  | x :: r => insI_sorted x _ (isortI_sorted r)
theorem sorted_uniq : ∀ {l m : List Int}, l.Pairwise (· ≤ ·) → m.Pairwise (· ≤ ·) → l.Perm m → l = m
  | [], m, _, _, p => (List.nil_perm.mp p).symm ▸ rfl
  | x :: l, [], _, _, p => absurd p.length_eq (by simp)
  | x :: l, y :: m, h, h', p => by
    have a := List.pairwise_cons.mp h
    have b := List.pairwise_cons.mp h'
    have e : x = y := by
      have hx : x ∈ y :: m := p.mem_iff.mp List.mem_cons_self
      have hy : y ∈ x :: l := p.mem_iff.mpr List.mem_cons_self
      have h1 : y ≤ x := by
        rcases List.mem_cons.mp hx with e | e
        · omega
        · exact b.1 x e
      have h2 : x ≤ y := by
        rcases List.mem_cons.mp hy with e | e
        · omega
        · exact a.1 y e
      omega
    subst e
    rw [sorted_uniq a.2 b.2 (List.Perm.cons_inv p)]
theorem ltP_int (i j : Int) : ltP (.int i) (.int j) = some (decide (i < j)) := by simp [ltP, toD, ltD]
theorem insP_int (x : Int) : ∀ ns : List Int, insP (.int x) (ns.map PV.int) = (insI x ns).map PV.int
  | [] => rfl
  | y :: r => by
    simp only [List.map_cons, insP, insI, ltP_int, Option.some.injEq, decide_eq_true_eq]
    by_cases h : y < x
    · rw [if_pos h, if_pos h, insP_int x r]; rfl
    · rw [if_neg h, if_neg h]; rfl
theorem sortP_int : ∀ ns : List Int, sortP (ns.map PV.int) = (isortI ns).map PV.int
  | [] => rfl
  | x :: r => by
    simp only [List.map_cons, sortP, isortI, sortP_int r]
    exact insP_int x _

section
variable {X : Cx}
theorem cr_sortedT : CallR X (.builtin "sorted") (fun vs H Q => ∃ (a : Addr) (ns : List Int), vs = [V.ref a] ∧ SqT X.K H a (ns.map V.int) ∧
    ∀ (ms : List Int) p, ms.Perm ns → ms.Pairwise (· ≤ ·) → H p = none → Q (.ref p) (upd H p (.lst (ms.map V.int)))) := by
  intro pins s σ H vs us Q I r h
  obtain ⟨a, ns, rfl, hs, q⟩ := h
  obtain ⟨its, rv, hl, hz⟩ := I.tuple hs
  rw [Vals.ref1 r]
  have hi := rv.ints
  refine sorted_tup SrtO.swo_int hl (by rw [← rv.length]; exact hz) (fun h2 h₁ a' _ _ => SrtO.ints_sortable hi h2) fun out h1 h2 => ?_
  obtain ⟨k1, k2, k3⟩ := SrtO.ints_out hi h1 h2
  obtain ⟨ep, he'⟩ := PyProof.Rows.sortedAll_at s.heap its out.toArray
  have hlen : ((out.map SrtO.iv).map V.int).length ≤ sizeLine := by
    rw [List.length_map, k2.length_eq, ← List.length_map (f := V.int)]
    exact hz
  exact ⟨.ref _, upd H (s.heap.objs.size + 1) (.lst ((out.map SrtO.iv).map V.int)), I.laid (t' := s.toks) (fun _ _ => PyProof.Rows.sortedAll_old) (Nat.le_succ _) ⟨hlen, out, ep, vals_of_ints k1, he'⟩, rfl, q _ _ k2 k3 (I.hok.fresh (Nat.le_succ _))⟩

theorem intsV {K : W.Frag} {G : Gh} {H : Hp} : ∀ ns : List Int, RVs K G H (ns.map PV.int) (ns.map V.int) []
  | [] => .nil
  | n :: r => .cons (A := []) (B := []) (.int n) (intsV r)
def noL : PV → Bool
  | .lst _ _ => false
  | _ => true
theorem sortOk_noL {xs : List PV} (h : sortOk xs = true) : ∀ x ∈ xs, noL x = true := by
  intro x hx
  unfold sortOk at h
  rw [Bool.or_eq_true] at h
  rcases h with h | h
  · simp only [Bool.and_eq_true] at h
    have := srtBs_mem h.1.1.1 x hx
    cases x <;> first | rfl | cases this
  · rw [Bool.and_eq_true] at h
    have := List.all_eq_true.mp h.2 x hx
    cases x <;> first | rfl | cases this
theorem rvs_tp {K : W.Frag} {G : Gh} {H : Hp} : ∀ {xs : List PV} {ws : List V} {B : List Addr}, RVs K G H xs ws B → (∀ x ∈ xs, noL x = true) → B = []
  | _, _, _, .nil, _ => rfl
  | _, _, _, .cons h t, hx => by
    rw [rvs_tp t fun y hy => hx y (List.mem_cons_of_mem _ hy), List.append_nil]
    have := hx _ List.mem_cons_self
    cases h <;> first | rfl | cases this
theorem sorted_ok (c : Cxt X) : CallR X (Blt.val .sorted) (rC X.K (bltin .sorted)) := by
  intro pins s σ H vs us Q I rs ⟨W, H0, G0, G, as, A, t, n, rv, fa, hp⟩
  have fin : ∀ {xs : List PV} {ns : List Int}, intsOf xs = some ns → Post X.K H0 G0 (RV X.K) W Q (sortI1 xs t) → ∀ (ms : List Int) p, ms.Perm ns → ms.Pairwise (· ≤ ·) → H p = none → Q (.ref p) (upd H p (.lst (ms.map V.int))) := by
    intro xs ns hi hp ms p pm ps hpn
    have e : ms = isortI ns := sorted_uniq ps (isortI_sorted ns) (pm.trans (isortI_perm ns).symm)
    have hp' : Post X.K H0 G0 (RV X.K) W Q (.ok (.lst .o (sortP xs)) t) := by unfold sortI1 at hp; rw [hi] at hp; exact hp
    rw [ints_pv hi, sortP_int, ← e] at hp'
    exact fin_new hp' n (intsV ms) p hpn
  match as, hp, rv with
  | [.tup xs], hp, rv =>
    obtain ⟨v, rfl, r⟩ := rv.one
    obtain ⟨a, ws, rfl, ea, r1⟩ := r.tup_of
    cases hi : intsOf xs with
    | none => have hp : Post X.K H0 G0 (RV X.K) W Q (sortI1 xs t) := hp; unfold sortI1 at hp; rw [hi] at hp; exact noB hp
    | some ns =>
      obtain rfl := ints_rv r1 hi
      exact cr_sortedT pins s σ H _ us Q I rs ⟨a, ns, rfl, SqT.of' ea, fin hi hp⟩
  | [.lst m xs], hp, rv =>
    obtain ⟨v, rfl, r⟩ := rv.one
    obtain ⟨a, ws, B, rfl, ea, r1, _⟩ := r.lst_of
    cases hi : intsOf xs with
    | none =>
      have hp : Post X.K H0 G0 (RV X.K) W Q (sortV xs t) := hp
      unfold sortV at hp
      rw [hi] at hp
      by_cases ho : sortOk xs = true
      · rw [if_pos ho] at hp
        have hB : B = [] := rvs_tp r1 (sortOk_noL ho)
        subst hB
        exact cr_sortedD c pins s σ H _ us Q I rs ⟨a, G, xs, ws, rfl, SqL.of' ea, r1, ho, fun ws' p rw' hpn => fin_new hp n rw' p hpn⟩
      · rw [if_neg ho] at hp; exact noB hp
    | some ns =>
      obtain rfl := ints_rv r1 hi
      have hp : Post X.K H0 G0 (RV X.K) W Q (sortV xs t) := hp
      unfold sortV at hp
      exact cr_sortedI pins s σ H _ us Q I rs ⟨a, ns, rfl, SqL.of' ea, fin hi (by unfold sortI1; rw [hi] at hp ⊢; exact hp)⟩
  | [.str z], hp, _ => exact False.elim hp
  | [.non], hp, _ => exact False.elim hp
  | [.bl _], hp, _ => exact False.elim hp
  | [.int _], hp, _ => exact False.elim hp
  | [.dct _], hp, _ => exact False.elim hp
  | [.src], hp, _ => exact False.elim hp
  | [.scr], hp, _ => exact False.elim hp
  | [], hp, _ => exact False.elim hp
  | a :: b :: r, hp, _ => cases a <;> exact False.elim hp
end
end Py
end

section
/-! PyG3: dict of a list of pairs; all built-ins. -/
namespace Py
open PySem L2 PyProof.Rows
section
variable {K : W.Frag} {H0 H : Hp} {G0 G : Gh} {s : Py.St}
theorem frz_rv {v : PV} {x : V} (h : RV K G H v x []) : frz v = v := by
  cases h <;> rfl
theorem dictOf_rv : ∀ {xs : List PV} {vs : List V} {d d' : List (PV × PV)} {kvs : List (Key × V)}, RVs K G H xs vs [] → xs.all pairS = true → dictOf xs d = some d' → PD K G H (SK K G H) d kvs → (∀ p ∈ d, nob p.2 = true) →
    ∃ (ps : List Addr) (more : List (Key × V)), vs = ps.map V.ref ∧ Paired (fun p kv => SqT K H p [kV kv.1, kv.2]) ps more ∧ PD K G H (SK K G H) d' (mergeK kvs more) ∧ (∀ p ∈ d', nob p.2 = true)
  | [], [], d, d', kvs, _, _, h, r, nb => by
    simp only [dictOf, Option.some.injEq] at h
    subst h
    exact ⟨[], [], rfl, .nil, r, nb⟩
  | [], _ :: _, _, _, _, h, _, _, _, _ => by cases h
  | _ :: _, [], _, _, _, h, _, _, _, _ => by cases h
  | x :: xs, v :: vs, d, d', kvs, hr, ha, h, r, nb => by
    simp only [List.all_cons, Bool.and_eq_true] at ha
    obtain ⟨h1, h2⟩ := hr.inv
    match x, ha.1, h1, h with
    | .tup [k, w], hk, h1, h =>
      obtain ⟨p, us, rfl, ep, r1⟩ := h1.tup_of
      match us, ep, r1 with
      | [], _, r1 => cases r1
      | y :: us, ep, r1 =>
        obtain ⟨rk, r1⟩ := r1.inv
        obtain ⟨z, rfl, rw'⟩ := r1.one
        simp only [dictOf] at h
        split at h
        · rename_i hc
          rw [Bool.and_eq_true] at hc
          obtain ⟨q, rfl, _⟩ := key_of_kd1 rk hk
          rw [frz_rv rw'] at h
          have r' : PD K G H (SK K G H) (dput k w d) (putK kvs q z) := PD.put (fun x y p q => sk_uniq) (show SK K G H k q from rk) rw' r
          have nb' : ∀ p ∈ dput k w d, nob p.2 = true := by
            intro p hp
            unfold dput at hp
            split at hp
            · obtain ⟨p0, hp0, e⟩ := List.mem_map.mp hp
              split at e
              · rw [← e]; exact hc.2
              · rw [← e]; exact nb p0 hp0
            · rcases List.mem_append.mp hp with hp | hp
              · exact nb p hp
              · rw [List.mem_singleton.mp hp]; exact hc.2
          obtain ⟨ps, more, e1, e2, e3, e4⟩ := dictOf_rv h2 ha.2 h r' nb'
          exact ⟨p :: ps, (q, z) :: more, by rw [e1]; rfl, .cons (SqT.of' ep) e2, e3, e4⟩
        · cases h
    | .tup [], hk, _, _ => simp [pairS] at hk
    | .tup [_], hk, _, _ => simp [pairS] at hk
    | .tup (_ :: _ :: _ :: _), hk, _, _ => simp [pairS] at hk
    | .non, hk, _, _ => simp [pairS] at hk
    | .bl _, hk, _, _ => simp [pairS] at hk
    | .int _, hk, _, _ => simp [pairS] at hk
    | .str _, hk, _, _ => simp [pairS] at hk
    | .lst _ _, hk, _, _ => simp [pairS] at hk
    | .dct _, hk, _, _ => simp [pairS] at hk
    | .src, hk, _, _ => simp [pairS] at hk
    | .scr, hk, _, _ => simp [pairS] at hk
end
section
variable {X : Cx}
theorem dict_ok (c : Cxt X) : CallR X (Blt.val .dict) (rC X.K (bltin .dict)) := by
  intro pins s σ H vs us Q I rs ⟨W, H0, G0, G, as, A, t, n, rv, fa, hp⟩
  match as, hp, rv with
  | [.lst m xs], hp, rv =>
    obtain ⟨v, rfl, r⟩ := rv.one
    have n' := n.addT fa r.lists
    obtain ⟨a, ws, B, rfl, ea, r1, hB⟩ := r.lst_of
    have hp : Post X.K H0 G0 (RV X.K) W Q (if xs.all pairS = true then match dictOf (brws xs) [] with | some d => .ok (.dct t.ds.length) (t.dnew d) | none => .bad else .bad) := hp
    split at hp
    · rename_i hall
      cases hd : dictOf (brws xs) [] with
      | none => rw [hd] at hp; exact noB hp
      | some d =>
        rw [hd] at hp
        have hall' : (brws xs).all pairS = true := by
          rw [List.all_eq_true] at hall ⊢
          intro y hy
          rw [brws_eq] at hy
          obtain ⟨z, hz, e⟩ := List.mem_map.mp hy
          have := hall z hz
          rw [← e]
          cases z <;> simp [pairS] at this
          simpa [brw, pairS] using this
        have r2 : RVs X.K (G.addT A) H (brws xs) ws [] := (r1.keep (Keep.addT A B)).brw fun b q => .inr (hB b q)
        obtain ⟨ps, more, e1, e2, e3, e4⟩ := dictOf_rv r2 hall' hd .nil (fun _ h => nomatch h)
        subst e1
        refine call_dictP c.cal pins s σ H _ us Q I rs ⟨a, ps, more, rfl, SqL.of' ea, e2, fun p hpn => ?_⟩
        have up : ∀ b o, H b = some o → upd H p (.dK (mergeK [] more)) b = some o := fun _ _ h => upd_some hpn h
        have nd := n'.new (o := .dK (mergeK [] more)) hpn (.k upd_same (Paired.imp e3 fun _ _ w => ⟨RV.keep w.1 (Keep.addD up), w.2.keep (Keep.addD up)⟩)) e4
        exact fin0 hp nd (.dct (newD_at n'.sr))
    · exact noB hp
  | [.tup _], hp, _ => exact False.elim hp
  | [.str z], hp, _ => exact False.elim hp
  | [.non], hp, _ => exact False.elim hp
  | [.bl _], hp, _ => exact False.elim hp
  | [.int _], hp, _ => exact False.elim hp
  | [.dct _], hp, _ => exact False.elim hp
  | [.src], hp, _ => exact False.elim hp
  | [.scr], hp, _ => exact False.elim hp
  | [], hp, _ => exact False.elim hp
  | a :: b :: r, hp, _ => cases a <;> exact False.elim hp

theorem blt_ok (c : Cxt X) : ∀ b : Blt, CallR X b.val (rC X.K (bltin b))
  | .len => len_ok
  | .tuple => tuple_ok
  | .list => list_ok
  | .sum => sum_ok c
  | .max => max_ok c
  | .min => min_ok c
  | .abs => abs_ok
  | .int => int_ok
  | .sorted => sorted_ok c
  | .repr => repr_ok c
  | .any => any_ok c
  | .all => all_ok c
  | .str => str_ok
  | .dict => dict_ok c
end
end Py
end

section
/-! PyH: defs that are called; the context of a body; the check of a term against the syntax. -/
namespace Py
open PySem L2 PyProof.Rows

/-- a def's promise where nothing is being shown -/
structure FnI (P : Program) (w : World) (K : W.Frag) (mg : Str → Option Value) (base : Heap) (k : Nat) (f : Addr) (fd : FuncData) (ps : List Str) (sp : Sp) : Prop where
  len : ∀ vs H Q E, sp vs H Q E → vs.length = ps.length
  run : ∀ (A : Around) (outer : List PySem.Env) (s : Shared) (H : Hp) (args : Args) (us : List Value) (vs : List V) (Q : VK) (E : XK), Room k A → A.guards = some [] → Env0 P w K mg base A outer s H → BindsTo s fd args (ps.zip us) → Vals vs us → sp vs H Q E →
    codeAny (model P w) A (.call (.ref f) args) (CR (L2.CX P w) outer P w H s Q E) s

theorem FnI.up {P : Program} {w : World} {K : W.Frag} {mg : Str → Option Value} {base : Heap} {j k : Nat} {f : Addr} {fd : FuncData} {ps : List Str} {sp : Sp} (F : FnI P w K mg base j f fd ps sp) (h : j ≤ k) : FnI P w K mg base k f fd ps sp :=
  ⟨F.len, fun A outer s H args us vs Q E hr => F.run A outer s H args us vs Q E (hr.mono h)⟩

/-- by its body -/
theorem fnI_of {P : Program} {w : World} {K : W.Frag} {mg : Str → Option Value} {base : Heap} {k : Nat} {f : Addr} {name qual : Str} {params : Arguments} {body : List Stmt} {scope : Scope} {dV kV doc pm cdv ct oc : Value} {an od : Option Addr}
    {osl : Array (Option Value)} {N ps : List Str} {sp : Sp} (lk : K.lookup f = some ⟨oc, od, .func (PySem.W.fnOf name qual params body scope dV kV doc pm an cdv ct), osl⟩) (hcd : PySem.W.codeIn K cdv qual = true) (S : FnScope N ps scope)
    (len : ∀ vs H Q E, sp vs H Q E → vs.length = ps.length)
    (hb : ∀ (A : Around) (outer : List PySem.Env) (s : Shared) (H : Hp) (vs : List V) (Q : VK) (E : XK), Room k (A.deeper (envOfC qual scope s.heap.objs.size f cdv)) → A.guards = some [] → sp vs H Q E →
      ∃ t, PSs (cxOf (L2.CX P w) P w K mg base N qual scope f cdv A outer s H E) body t ∧ t { nx := fun _ H' => Q .non H', rt := Q } (start N vs) H) :
    FnI P w K mg base (k + 1) f (PySem.W.fnOf name qual params body scope dV kV doc pm an cdv ct) ps sp := by
  refine ⟨len, fun A outer s H args us vs Q E hr hg e0 bt r hsp => ?_⟩
  have KX : K.In s.heap := e0.mod.kin.keeps (fun b o e => (e0.bs b o e).1)
  have nl : s.heap.NoLimit := e0.mod.nolimit.keeps (fun b o e => (e0.bs b o e).1)
  have kinds : ∀ y ∈ ps.zip us, scope.names.lookup y.1 = some .local ∨ (scope.names.lookup y.1 = some .cell ∧ ((cellsFrom (s.heap.objs.size + 1) scope.names []).lookup y.1).isSome = true) := fun ⟨n, v⟩ hy => by
    rcases S.par n (List.of_mem_zip (hy)).1 with q | q
    · exact .inl q
    · exact .inr ⟨q, W.cellsFrom_some _ _ _ (.inl q)⟩
  refine codeAny_call_function (hr.depth) (KX _ _ lk) rfl S.co S.gen rfl (W.codeRec_of KX hcd) (bt _ _ _ _ ?_)
  refine wpAny_newFunctionEnv_cells (S.kind) kinds fun env he s1 x => ?_
  subst he
  refine ⟨nl.keeps x.toInCall.keep, codeAny_func ?_⟩
  obtain ⟨t, ht, hq⟩ := hb A outer s H vs Q E (hr.deeper _) hg hsp
  have hl := len _ _ _ _ hsp
  have J := inv_start (CX := L2.CX P w) (E := E) S hr.hd e0 hl r x
  refine wpAny_mono (ht.run [] s1 (start N vs) H _ J hq) (fun fl s' hs => ?_) (fun e s' hs => hs)
  cases fl with
  | ret u =>
    obtain ⟨v, σ', H', J', rv, q⟩ := hs
    exact ⟨v, H', J'.os, J'.bare, J'.base, J'.hok, rv, q⟩
  | next =>
    obtain ⟨σ', H', J', q⟩ := hs
    exact ⟨V.non, H', J'.os, J'.bare, J'.base, J'.hok, rfl, q⟩
  | brk => exact False.elim (let ⟨_, _, _, q⟩ := hs; q)
  | cont => exact False.elim (let ⟨_, _, _, q⟩ := hs; q)

section
variable {X : Cx} {k : Nat} {f : Addr} {fd : FuncData} {ps : List Str} {sp : Sp} {E : L2.St → XK} {x : Str} {p pos : Pos} {e : Expr} {es : List Expr} {t : TA}
theorem run_fnI {pins : List (Addr × Obj)} {σ : L2.St} {H : Hp} {s : Shared} {Q : VK} {us : List Value} {vs : List V} (F : FnI X.prog X.w X.K X.mg X.base k f fd ps sp) (hr : Room k X.A) (hg : X.A.guards = some []) (hb : Binds X.K fd ps []) (hx : PassesAt (L2.CX X.prog X.w) X σ (E σ))
    (I : Inv X pins σ H s) (r : Vals vs us) (h : sp vs H Q (E σ)) : wpAny (model X.prog X.w) X.A (call (.ref f) us) (EP X pins σ Q) X.xe s := by
  have hl : us.length = ps.length := (r.length).symm.trans (F.len _ _ _ _ h)
  have b := hb s us I.kIn (by rw [List.append_nil]; exact hl)
  rw [List.append_nil] at b
  refine wpAny_call (codeAny_mono (F.run X.A X.stack s H ⟨us, []⟩ us vs Q (E σ) hr hg I.env0 b r h) fun r s' hq => ?_)
  cases r with
  | error e => exact hx pins H s e s' I hq
  | ok fl =>
    cases fl with
    | ret u => exact I.after hq
    | next => exact False.elim hq
    | brk => exact False.elim hq
    | cont => exact False.elim hq
theorem pe_callI (F : FnI X.prog X.w X.K X.mg X.base k f fd ps sp) (hr : Room k X.A) (hgu : X.A.guards = some []) (hg : Gl X x) (hm : X.mg x = some (.ref f)) (hk : PySem.W.keepIn X.K (.ref f) = true) (hb : Binds X.K fd ps []) (hx : ∀ σ, PassesAt (L2.CX X.prog X.w) X σ (E σ))
    (ha : PA X (e :: es) t) (hdb : (x == ("__debug__" : Str)) = false) (he : starEach (e :: es) X.env = (false, eval e X.env) :: starEach es X.env) (hpl : (backTo pos (starEach es X.env)).any (·.1) = false) :
    PE X (.Call (.Name x p) (e :: es) [] pos) (tCallS sp E t) := by
  refine ⟨fun pins s σ H Q I h => ?_⟩
  refine wpAny_Call_Name_kw (ld_glob I hg hm (?_) hdb)
  refine W.callWith_K (h₀ := X.base) I.ok.mod.kin hk (thn (ha.run pos pins s σ H _ I h) fun us s1 ⟨vs, H1, I1, r, q⟩ => ⟨I1.kIn, ?_⟩) (he) hpl
  exact run_fnI F hr hgu hb (hx σ) I1 r q
theorem pe_callI0 (F : FnI X.prog X.w X.K X.mg X.base k f fd ps sp) (hr : Room k X.A) (hgu : X.A.guards = some []) (hg : Gl X x) (hm : X.mg x = some (.ref f)) (hk : PySem.W.keepIn X.K (.ref f) = true) (hb : Binds X.K fd ps []) (hx : ∀ σ, PassesAt (L2.CX X.prog X.w) X σ (E σ))
    (hdb : (x == ("__debug__" : Str)) = false) : PE X (.Call (.Name x p) [] [] pos) (tCallS sp E tNil) := by
  refine ⟨fun pins s σ H Q I h => ?_⟩
  refine wpAny_Call_Name_kw (ld_glob I hg hm (?_) hdb)
  exact W.callWith_K0 I.kIn hk (run_fnI (us := []) F hr hgu hb (hx σ) I .nil h)
end

/-- the program's table: each def's name, address, object, parameters; the module's numbers; what PyA says of calls -/
structure Tb where
  fns : List (Str × Addr × FuncData × List Str)
  cons : List (Str × Int)
  F : Nat → List PV → Py.St → R PV
  picks : List (Str × Addr × FuncData × List Str)
  opens : List (Str × Addr × FuncData × List Str)
  cls : Nat → Value
  fld : Nat → Option Str

/-- an exception's own state, from what PyA says of it -/
def EofW (T : Tb) (W : XW) : XK := fun cls d H' => (∃ c y H0 a fl, d = some a ∧ cls = T.cls c ∧ T.fld c = some fl ∧ H0 a = none ∧ H' = upd H0 a (.xd [(fl, y)]) ∧ W c y H0) ∨ ∃ c, d = none ∧ cls = T.cls c ∧ T.fld c = none ∧ W c .non H'
/-- what a def promises: what PyA says of it -/
def spF (K : W.Frag) (T : Tb) (f : Nat) (n : Nat) : Sp := fun vs H Q E => vs.length = n ∧ ∃ (W : XW) (H0 : Hp) (G0 G : Gh) (as : List PV) (s : Py.St), Nw K H0 G0 H G s ∧ RVs K G H as vs [] ∧ Post K H0 G0 (RV K) W Q (T.F f as s) ∧ ∀ cls d H', EofW T W cls d H' → E cls d H'
/-- a draw -/
def spP (K : W.Frag) : Sp := fun vs H Q E => vs.length = 2 ∧ ∃ (H0 : Hp) (G0 G : Gh) (s : Py.St) (a : V) (n : Int), Nw K H0 G0 H G s ∧ vs = [a, .int n] ∧ RV K G H .src a [] ∧ n ≤ 1000000 ∧
  ∀ (i : Nat) (H' : Hp), i < max 1 n.toNat → Nw K H0 G0 H' G s → Q (.int i) H'
/-- the script is opened -/
def spO (K : W.Frag) : Sp := fun vs H Q E => vs.length = 1 ∧ ∃ (H0 : Hp) (G0 G : Gh) (s : Py.St) (a : V), Nw K H0 G0 H G s ∧ vs = [a] ∧ RV K G H .scr a [] ∧ s.op = false ∧
  ∀ (G' : Gh) (H' : Hp) y, Nw K H0 G0 H' G' { s with op := true } → RV K G' H' .src y [] → Q y H'

def bltNames : List Str := ["len", "tuple", "list", "sum", "max", "min", "abs", "int", "sorted", "repr", "any", "all", "str", "dict", "range", "enumerate", "zip", "isinstance", "bool"]

structure FnAt (X : Cx) (k : Nat) (q : Str × Addr × FuncData × List Str) (sp : Sp) : Prop where
  mg : X.mg q.1 = some (.ref q.2.1)
  kp : PySem.W.keepIn X.K (.ref q.2.1) = true
  fn : FnI X.prog X.w X.K X.mg X.base k q.2.1 q.2.2.1 q.2.2.2 sp
  bd : Binds X.K q.2.2.1 q.2.2.2 []
  db : (q.1 == ("__debug__" : Str)) = false

/-- the context in which a body's expressions are read -/
structure PX (T : Tb) (k : Nat) (X : Cx) (V : L2.St → XW) : Prop where
  cx : Cxt X
  room : Room k X.A
  fn : ∀ (f : Nat) q, T.fns[f]? = some q → FnAt X k q (spF X.K T f q.2.2.2.length) ∧ ∀ as s, as.length ≠ q.2.2.2.length → T.F f as s = .bad
  pick : ∀ q ∈ T.picks, FnAt X k q (spP X.K)
  open' : ∀ q ∈ T.opens, FnAt X k q (spO X.K)
  con : ∀ q ∈ T.cons, (∃ t, X.mg q.1 = some (.int q.2 t)) ∧ (q.1 == ("__debug__" : Str)) = false
  blt : ∀ x ∈ bltNames, X.mg x = none
  tk : Takes X (fun cls d σ H => EofW T (V σ) cls d H)
theorem PX.pas {T : Tb} {k : Nat} {X : Cx} {V : L2.St → XW} (p : PX T k X V) (σ : L2.St) : PassesAt (L2.CX X.prog X.w) X σ (EofW T (V σ)) := passAt p.tk σ
end Py
end

section
/-! PyI: the check of terms against the syntax; expressions. -/
namespace Py
open PySem L2 PyProof.Rows

def visB (sc : Scope) (x : Str) : Bool := match sc.names.lookup x with | some .local => true | some .cell => true | some .free => true | _ => false
def locB (sc : Scope) (x : Str) : Bool := match sc.names.lookup x with | some .local => true | some .cell => true | _ => false
def glbB (sc : Scope) (x : Str) : Bool := match sc.names.lookup x with | some .globalImplicit => true | _ => false
theorem visB_ok {sc : Scope} {x : Str} (h : visB sc x = true) : Vis sc x := by
  unfold visB at h
  split at h <;> first | exact .inl ‹_› | exact .inr (.inl ‹_›) | exact .inr (.inr ‹_›) | cases h
theorem locB_ok {sc : Scope} {x : Str} (h : locB sc x = true) : Loc sc x := by
  unfold locB at h
  split at h <;> first | exact .inl ‹_› | exact .inr ‹_› | cases h
theorem glbB_ok {X : Cx} {x : Str} (h : glbB X.env.scope x = true) : Gl X x := by
  unfold glbB at h
  split at h
  · assumption
  · cases h

/-- the tables that the check asks -/
structure Nm where
  N : List Str
  fn : List Str
  cn : List (Str × Int)
  pk : List Str
  op : List Str

def Blt.nm : Blt → Str
  | .len => "len" | .tuple => "tuple" | .list => "list" | .sum => "sum" | .max => "max" | .min => "min" | .abs => "abs" | .int => "int"
  | .sorted => "sorted" | .repr => "repr" | .any => "any" | .all => "all" | .str => "str" | .dict => "dict"
def Mth.nm : Mth → Str
  | .count => "count" | .index => "index" | .get => "get"
def Ty.nm : Ty → Str
  | .int => "int" | .bool => "bool" | .str => "str" | .tuple => "tuple" | .list => "list" | .dict => "dict"

/-- a name's slot -/
def atB (N : List Str) (i : Nat) (x : Str) : Bool := decide (N[i]? = some x)

mutual
def chkT (N : List Str) (sc : Scope) : Tg → Expr → Bool
  | .v i, .Name x _ => atB N i x && locB sc x
  | .t l, .Tuple es _ _ => chkTs N sc l es
  | _, _ => false
def chkTs (N : List Str) (sc : Scope) : List Tg → List Expr → Bool
  | [], [] => true
  | t :: ts, e :: es => chkT N sc t e && chkTs N sc ts es
  | _, _ => false
end

mutual
def Tg.own : Tg → List Nat
  | .v i => [i]
  | .t l => Tg.owns l
def Tg.owns : List Tg → List Nat
  | [] => []
  | q :: l => q.own ++ Tg.owns l
end

/-- a comprehension's block over a scope -/
def blkB (N : List Str) (sc scope : Scope) (own : List Nat) : Bool :=
  (scope.kind == .function) && scope.names.all (fun y => (scope.names.lookup y.1 == some y.2)
    && (if y.2 == .free then (match sc.names.lookup y.1 with | some .cell => true | some .free => true | _ => false) else true)
    && (if y.2 == .local || y.2 == .cell then (own.any (fun i => atB N i y.1) || !N.contains y.1) else true))
  && own.all (fun i => decide (i < N.length))

/-- pairs go to targets of several names -/
def tgOk (it : ME) (g : Expr) : Bool := match it with
  | .enu _ => (match g with | .Tuple _ _ _ => true | _ => false)
  | .zp _ _ => (match g with | .Tuple _ _ _ => true | _ => false)
  | .ezp _ _ => (match g with | .Tuple _ _ _ => true | _ => false)
  | _ => true
def isBand : ME → Bool
  | .bin .band _ _ => true
  | _ => false
def isZero : ME → Bool
  | .int 0 => true
  | _ => false
def nameB : Expr → Bool
  | .Name _ _ => true
  | _ => false
/-- tests that the layer carries -/
def tst : ME → Bool
  | .and a b => tst a && tst b
  | .or a b => tst a && tst b
  | .nt a => tst a
  | .ite _ _ _ => false
  | _ => true

section
variable (M : Nm)
/-- no star among the items -/
def plainB : List ME → Bool
  | [] => true
  | .star _ :: _ => false
  | _ :: r => plainB r
mutual
def chk (sc : Scope) : ME → Expr → Bool
  | .non, ex => match ex with
    | .Constant .none _ _ => true
    | _ => false
  | .bl b, ex => match ex with
    | .Constant (.bool c) _ _ => b == c
    | _ => false
  | .int i, ex => match ex with
    | .Constant (.int j) _ _ => i == j
    | _ => false
  | .str x, ex => match ex with
    | .Constant (.str y) _ _ => x == y
    | _ => false
  | .var i, ex => match ex with
    | .Name x _ => atB M.N i x && visB sc x && !(x == ("__debug__" : Str)) && !(x == ("__classdict__" : Str))
    | _ => false
  | .glo i, ex => match ex with
    | .Name x _ => glbB sc x && M.cn.contains (x, i)
    | _ => false
  | .bin o a b, ex => match ex with
    | .BinOp e p f _ => (decide (p = o.op)) && chk sc a e && chk sc b f
    | _ => false
  | .neg a, ex => match ex with
    | .UnaryOp .USub e _ => chk sc a e
    | _ => false
  | .nt a, ex => match ex with
    | .UnaryOp .Not e _ => chk sc a e
    | _ => false
  | .cmp o a b, ex => match ex with
    | .Compare e [p] [f] _ => (decide (p = o.op)) && chk sc a e && chk sc b f
    | .UnaryOp .Not e _ => decide (o = .eq) && isBand a && isZero b && chk sc a e
    | _ => false
  | .chn o q a b c, ex => match ex with
    | .Compare e [p, r] [f, g] _ => (decide (p = o.op)) && (decide (r = q.op)) && chk sc a e && chk sc b f && chk sc c g
    | _ => false
  | .and a b, ex => match ex with
    | .BoolOp .And (e :: f :: r) pos => chk sc a e && (match r with | [] => chk sc b f | g :: r' => chk sc b (.BoolOp .And (f :: g :: r') pos))
    | _ => false
  | .or a b, ex => match ex with
    | .BoolOp .Or (e :: f :: r) pos => chk sc a e && (match r with | [] => chk sc b f | g :: r' => chk sc b (.BoolOp .Or (f :: g :: r') pos))
    | _ => false
  | .ite c a b, ex => match ex with
    | .IfExp g e f _ => tst c && chk sc c g && chk sc a e && chk sc b f
    | _ => false
  | .tup es, ex => match ex with
    | .Tuple fs _ _ => chks sc es fs
    | _ => false
  | .lst es, ex => match ex with
    | .List fs _ => chks sc es fs
    | _ => false
  | .idx a i, ex => match ex with
    | .Subscript e f _ => chk sc a e && chk sc i f
    | _ => false
  | .slc a l lo h hi, ex => match ex with
    | .Subscript e (.Slice f g none _) _ => chk sc a e && (match l, f with | true, some f' => chk sc lo f' | false, none => true | _, _ => false) && (match h, g with | true, some g' => chk sc hi g' | false, none => true | _, _ => false)
    | _ => false
  | .rev a, ex => match ex with
    | .Subscript e (.Slice none none (some (.UnaryOp .USub (.Constant (.int 1) _ _) _)) _) _ => chk sc a e
    | _ => false
  | .call f es, ex => match ex with
    | .Call (.Name x _) as [] _ => (decide (M.fn[f]? = some x)) && glbB sc x && chks sc es as && plainB es
    | _ => false
  | .blt b es, ex => match ex with
    | .Call (.Name x _) (a :: as) [] _ => (x == b.nm) && glbB sc x && chks sc es (a :: as) && plainB es
    | _ => false
  | .mth m a es, ex => match m, es, ex with
    | .get, [k, v], .Call (.Attribute o y apos) [e, f] [] cpos => (y == ("get" : Str)) && (apos.endLine == cpos.line) && nameB o && chk sc a o && chk sc k e && chk sc v f
    | _, _, _ => false
  | .isi a t, ex => match ex with
    | .Call (.Name x _) [e, .Name y _] [] _ => (x == ("isinstance" : Str)) && glbB sc x && (y == t.nm) && glbB sc y && chk sc a e
    | _ => false
  | .lc tg own it hc c t, ex => match ex with
    | .ListComp elt [⟨g, iter, ifs, 0⟩] scope _ => blkB M.N sc scope own && chkT M.N scope tg g && tg.own.all own.contains && tgOk it g && chki sc it iter && (match hc, ifs with | true, [f] => tst c && chk (relS scope sc) c f | false, [] => true | _, _ => false) && chk (relS scope sc) t elt
    | _ => false
  | .pick a n, ex => match ex with
    | .Call (.Name x _) [e, f] [] _ => M.pk.contains x && glbB sc x && chk sc a e && chk sc n f
    | _ => false
  | .opn a, ex => match ex with
    | .Call (.Name x _) [e] [] _ => M.op.contains x && glbB sc x && chk sc a e
    | _ => false
  | .nil, _ => false
  | .star _, _ => false
  | .dic es, ex => match es, ex with
    | [], .Dict [] [] _ => true
    | [.int a, .int b], .Dict [some (.Constant (.int c) _ _)] [.Constant (.int d) _ _] _ => a == c && b == d
    | _, _ => false
  | .rg1 _, _ => false
  | .rg2 _ _, _ => false
  | .rg3 _ _ _, _ => false
  | .enu _, _ => false
  | .zp _ _, _ => false
  | .ezp _ _, _ => false
  | .itm _, _ => false
  | .sq _, _ => false
  | .lrg _, _ => false
  | .dcm _ _ _ _ _ _ _, _ => false
def chks (sc : Scope) : List ME → List Expr → Bool
  | [], fs => fs.isEmpty
  | .star a :: es, fs => match fs with
    | .Starred e _ :: fs => chk sc a e && chks sc es fs
    | _ => false
  | m :: es, fs => match fs with
    | [] => false
    | f :: fs => chk sc m f && chks sc es fs
def chki (sc : Scope) : ME → Expr → Bool
  | .rg1 a, ex => match ex with
    | .Call (.Name x _) [e] [] _ => (x == ("range" : Str)) && glbB sc x && chk sc a e
    | _ => false
  | .rg2 a b, ex => match ex with
    | .Call (.Name x _) [e, f] [] _ => (x == ("range" : Str)) && glbB sc x && chk sc a e && chk sc b f
    | _ => false
  | .rg3 a b c, ex => match ex with
    | .Call (.Name x _) [e, f, g] [] _ => (x == ("range" : Str)) && glbB sc x && chk sc a e && chk sc b f && chk sc c g
    | _ => false
  | .enu a, ex => match ex with
    | .Call (.Name x _) [e] [] _ => (x == ("enumerate" : Str)) && glbB sc x && chk sc a e
    | _ => false
  | .zp a b, ex => match ex with
    | .Call (.Name x _) [e, f] [] _ => (x == ("zip" : Str)) && glbB sc x && chk sc a e && chk sc b f
    | _ => false
  | .ezp a b, ex => match ex with
    | .Call (.Name y _) [.Call (.Name x _) [e, f] [] _] [] _ => (y == ("enumerate" : Str)) && glbB sc y && (x == ("zip" : Str)) && glbB sc x && chk sc a e && chk sc b f
    | _ => false
  | .sq a, ex => chk sc a ex
  | .nil, _ => false
  | .non, _ => false
  | .bl _, _ => false
  | .int _, _ => false
  | .str _, _ => false
  | .var _, _ => false
  | .glo _, _ => false
  | .bin _ _ _, _ => false
  | .neg _, _ => false
  | .nt _, _ => false
  | .cmp _ _ _, _ => false
  | .chn _ _ _ _ _, _ => false
  | .and _ _, _ => false
  | .or _ _, _ => false
  | .ite _ _ _, _ => false
  | .tup _, _ => false
  | .lst _, _ => false
  | .star _, _ => false
  | .idx _ _, _ => false
  | .slc _ _ _ _ _, _ => false
  | .rev _, _ => false
  | .call _ _, _ => false
  | .blt _ _, _ => false
  | .mth _ _ _, _ => false
  | .lc _ _ _ _ _ _, _ => false
  | .dic _, _ => false
  | .isi _ _, _ => false
  | .itm _, _ => false
  | .pick _ _, _ => false
  | .opn _, _ => false
  | .lrg _, _ => false
  | .dcm _ _ _ _ _ _ _, _ => false
end
end
end Py
end

section
/-! PyJ: the readings of expressions. -/
namespace Py
open PySem L2 PyProof.Rows

section
variable (K : W.Frag) (F : Nat → List PV → Py.St → R PV) (V : L2.St → XW)
def rdE (m : ME) : TE := fun σ H Q => ∃ (G : Gh) (e : Py.Env) (s : Py.St), SR K G H s ∧ ER K G H e σ ∧ Post K H G (RV K) (V σ) Q (ev F m e s)
def rdT (m : ME) : TT := fun σ H Q => ∃ (G : Gh) (e : Py.Env) (s : Py.St), SR K G H s ∧ ER K G H e σ ∧ Post K H G (RV K) (V σ) (fun y H' => ∃ b, y = .bl b ∧ Q b H') (ev F m e s)
def rdA (es : List ME) : TA := fun σ H Q => ∃ (G : Gh) (e : Py.Env) (s : Py.St), SR K G H s ∧ ER K G H e σ ∧ Post K H G (RVs K) (V σ) Q (evs F es e s)
end

section
variable {K : W.Frag} {F : Nat → List PV → Py.St → R PV} {V : L2.St → XW} {σ : L2.St} {H0 H H1 H2 : Hp} {G0 G G1 G2 : Gh} {s s1 s2 : Py.St} {e : Py.Env}

theorem Fr.on {A : List Addr} (f : Fr H G1 A) (l : ∀ a ∈ A, ∃ xs, H1 a = some (.lst xs)) (n : Nw K H1 G1 H2 G2 s2) (d : ∀ x, H x = none → H0 x = none) : Fr H0 G2 A where
  nd := f.nd
  new := fun a h => d a (f.new a h)
  nf := fun a h q => by
    rcases n.le.nf a q with q | q
    · exact f.nf a h q
    · obtain ⟨xs, e⟩ := l a h
      rw [q] at e; cases e
  nt := fun a h q => by
    rcases n.le.nt a q with q | q
    · exact f.nt a h q
    · obtain ⟨xs, e⟩ := l a h
      rw [q] at e; cases e
  nc := fun a h q c e z => by
    rcases n.le.sr with e' | ⟨_, q', c', e', _, n2⟩
    · exact f.nc a h q c (e'.symm.trans e) z
    · rw [e'] at e
      cases e
      obtain ⟨xs, e⟩ := l a h
      rw [z, n2] at e; cases e
theorem Fr.off {A B : List Addr} (l : ∀ a ∈ A, ∃ xs, H1 a = some (.lst xs)) (f : Fr H1 G2 B) : ∀ x ∈ A, x ∉ B := fun x h h' => by
  obtain ⟨xs, e⟩ := l x h
  rw [f.new x h'] at e; cases e
theorem Nw.er {s' : Py.St} (r : SR K G H s) (n : Nw K H G H1 G1 s') (h : ER K G H e σ) : ER K G1 H1 e σ := h.keep (n.keep0 r)

/-- the first part of what is left to do -/
theorem run1 {α β : Type} {rel2 : Rl α β} {Q : β → Hp → Prop} {m : ME} {f : PV → Py.St → R α} (n : Nw K H0 G0 H G s) (er : ER K G H e σ) (h : Post K H0 G0 rel2 (V σ) Q ((ev F m e s).bind f)) :
    rdE K F V m σ H (fun y H' => ∃ a s' G' A, Nw K H G H' G' s' ∧ ER K G' H' e σ ∧ RV K G' H' a y A ∧ Fr H G' A ∧ Post K H0 G0 rel2 (V σ) Q (f a s')) :=
  ⟨G, e, s, n.sr, er, Post.mono (fun y H' ⟨a, s', G', A, n', r, fr, p⟩ => ⟨a, s', G', A, n', n'.er n.sr er, r, fr, p⟩) (Post.bind n.le n.pr h)⟩
theorem run1s {α β : Type} {rel2 : Rl α β} {Q : β → Hp → Prop} {m : List ME} {f : List PV → Py.St → R α} (n : Nw K H0 G0 H G s) (er : ER K G H e σ) (h : Post K H0 G0 rel2 (V σ) Q ((evs F m e s).bind f)) :
    rdA K F V m σ H (fun y H' => ∃ a s' G' A, Nw K H G H' G' s' ∧ ER K G' H' e σ ∧ RVs K G' H' a y A ∧ Fr H G' A ∧ Post K H0 G0 rel2 (V σ) Q (f a s')) :=
  ⟨G, e, s, n.sr, er, Post.mono (fun y H' ⟨a, s', G', A, n', r, fr, p⟩ => ⟨a, s', G', A, n', n'.er n.sr er, r, fr, p⟩) (Post.bind n.le n.pr h)⟩
/-- .. as a test -/
theorem run1t {α β : Type} {rel2 : Rl α β} {Q : β → Hp → Prop} {m : ME} {f : PV → Py.St → R α} (n : Nw K H0 G0 H G s) (er : ER K G H e σ) (h : Post K H0 G0 rel2 (V σ) Q ((ev F m e s).bind f))
    (hf : ∀ a s', (∀ b, a ≠ .bl b) → f a s' = .bad) : rdT K F V m σ H (fun b H' => ∃ s' G', Nw K H G H' G' s' ∧ ER K G' H' e σ ∧ Post K H0 G0 rel2 (V σ) Q (f (.bl b) s')) := by
  refine ⟨G, e, s, n.sr, er, Post.mono (fun y H' ⟨a, s', G', A, n', r, fr, p⟩ => ?_) (Post.bind (rel := RV K) n.le n.pr h)⟩
  cases a with
  | bl b =>
    obtain rfl := r.bl_of
    exact ⟨b, rfl, s', G', n', n'.er n.sr er, p⟩
  | _ =>
    rw [hf _ _ (by intro b z; cases z)] at p
    exact False.elim p

/-- two operands -/
theorem run2 {Q : VK} {a b : ME} {g : PV → PV → Py.St → R PV} (sr : SR K G H s) (er : ER K G H e σ) (h : Post K H G (RV K) (V σ) Q ((ev F a e s).bind fun x s1 => (ev F b e s1).bind fun y s2 => g x y s2)) :
    rdE K F V a σ H (fun x H1 => rdE K F V b σ H1 fun y H2 => r2 K g x y H2 Q) := by
  obtain ⟨G', e', s', a1, a2, a3⟩ := run1 (Nw.refl sr) er h
  refine ⟨G', e', s', a1, a2, Post.mono (fun x H1 ⟨v, s1, G1, A, n1, er1, rv, fr, p⟩ => ?_) a3⟩
  obtain ⟨G', e', s', a1, a2, a3⟩ := run1 n1 er1 p
  refine ⟨G', e', s', a1, a2, Post.mono (fun y H2 ⟨w, s2, G2, B, n2, er2, rw', fr2, p2⟩ => ?_) a3⟩
  exact ⟨V σ, H, G, G2, v, w, A, B, s2, n1.trans n2, rv.keep (n2.keep n1.sr fr.nc), rw', fr.on rv.lists n2 (fun _ h => h), fr2.back n1.pr.dom, p2⟩
theorem run2c {Q : VK} {a b : ME} {g : PV → PV → Py.St → R PV} (sr : SR K G H s) (er : ER K G H e σ) (h : Post K H G (RV K) (V σ) Q ((ev F a e s).bind fun x s1 => (ev F b e s1).bind fun y s2 => g x y s2)) :
    rdE K F V a σ H (fun x H1 => rdE K F V b σ H1 fun y H2 => r2c K g x y H2 Q) := by
  obtain ⟨G', e', s', a1, a2, a3⟩ := run1 (Nw.refl sr) er h
  refine ⟨G', e', s', a1, a2, Post.mono (fun x H1 ⟨v, s1, G1, A, n1, er1, rv, fr, p⟩ => ?_) a3⟩
  obtain ⟨G', e', s', a1, a2, a3⟩ := run1 n1 er1 p
  refine ⟨G', e', s', a1, a2, Post.mono (fun y H2 ⟨w, s2, G2, B, n2, er2, rw', fr2, p2⟩ => ?_) a3⟩
  exact ⟨V σ, H, G, G2, v, w, A, B, s2, n1.trans n2, rv.keep (n2.keep n1.sr fr.nc), rw', p2⟩
end

section
variable {X : Cx} {ex : Expr} {t t' : TE}
theorem PE.imp (h : PE X ex t) (w : ∀ σ H Q, t' σ H Q → t σ H Q) : PE X ex t' := ⟨fun pins s σ H Q I q => h.run pins s σ H Q I (w σ H Q q)⟩
theorem PT.imp {t t' : TT} (h : PT X ex t) (w : ∀ σ H Q, t' σ H Q → t σ H Q) : PT X ex t' := ⟨fun pins s σ H Q I q => h.run pins s σ H Q I (w σ H Q q)⟩
theorem PW.imp {t t' : TT} (h : PW X ex t) (w : ∀ σ H Q, t' σ H Q → t σ H Q) : PW X ex t' := ⟨fun wh pins s σ H Q I q => h.run wh pins s σ H Q I (w σ H Q q)⟩
theorem PA.imp {es : List Expr} {t t' : TA} (h : PA X es t) (w : ∀ σ H Q, t' σ H Q → t σ H Q) : PA X es t' := ⟨fun pos pins s σ H Q I q => h.run pos pins s σ H Q I (w σ H Q q)⟩
end
end Py
end

section
/-! PyK: expressions, one by one. -/
namespace Py
open PySem L2 PyProof.Rows

section
variable {X : Cx} {T : Tb} {k : Nat} {V : L2.St → XW} {ex e f g : Expr} {a b c : ME} {pos : Pos}
abbrev RE (X : Cx) (T : Tb) (V : L2.St → XW) (m : ME) : TE := rdE X.K T.F V m
abbrev RT (X : Cx) (T : Tb) (V : L2.St → XW) (m : ME) : TT := rdT X.K T.F V m
abbrev RA (X : Cx) (T : Tb) (V : L2.St → XW) (m : List ME) : TA := rdA X.K T.F V m

theorem valT (h : PE X ex (RE X T V a)) (he : ∀ whole, isTrue ex X.env whole = (do let v ← whole; standAt ex.pos; holding [v] (truthy v))) : PT X ex (RT X T V a) :=
  PT.imp (pt_val h he) fun σ H Q q => q
theorem k_non {j : Nat} : PE X (.Constant .none j pos) (RE X T V .non) := PE.imp pe_non fun σ H Q ⟨G, e, s, r, er, p⟩ => fin0 (a := .non) p (Nw.refl r) .non
theorem k_bl {x : Bool} {j : Nat} : PE X (.Constant (.bool x) j pos) (RE X T V (.bl x)) := PE.imp pe_bl fun σ H Q ⟨G, e, s, r, er, p⟩ => fin0 (a := .bl x) p (Nw.refl r) (.bl x)
theorem k_int {x : Int} {j : Nat} : PE X (.Constant (.int x) j pos) (RE X T V (.int x)) := PE.imp pe_int fun σ H Q ⟨G, e, s, r, er, p⟩ => fin0 (a := .int x) p (Nw.refl r) (.int x)
theorem k_str {x : Str} {j : Nat} : PE X (.Constant (.str x) j pos) (RE X T V (.str x)) := PE.imp pe_str fun σ H Q ⟨G, e, s, r, er, p⟩ => fin0 (a := .str x) p (Nw.refl r) (.str x)
theorem k_var {i : Nat} {x : Str} (hN : X.N[i]? = some x) (hv : Vis X.env.scope x) (h1 : (x == ("__debug__" : Str)) = false) (h2 : (x == ("__classdict__" : Str)) = false) : PE X (.Name x pos) (RE X T V (.var i)) := by
  refine PE.imp (pe_var hN hv h1 h2) fun σ H Q ⟨G, e, s, r, er, p⟩ => ?_
  have p : Post X.K H G (RV X.K) (V σ) Q (match e[i]? with | some (some v) => .ok (rdV v) s | _ => .bad) := p
  cases he : e[i]? with
  | none => rw [he] at p; exact noB p
  | some o =>
    cases o with
    | none => rw [he] at p; exact noB p
    | some v =>
      rw [he] at p
      obtain ⟨x, e1, rv⟩ := er.1 i v he
      exact ⟨x, e1, fin0 p (Nw.refl r) rv⟩
theorem k_glo {i : Int} {x : Str} {t : Tok} (hg : Gl X x) (hm : X.mg x = some (.int i t)) (h1 : (x == ("__debug__" : Str)) = false) : PE X (.Name x pos) (RE X T V (.glo i)) :=
  PE.imp (pe_glob (v := .int i) hg hm ⟨t, rfl⟩ h1) fun σ H Q ⟨G, e, s, r, er, p⟩ => fin0 (a := .int i) p (Nw.refl r) (.int i)
theorem k_bin {o : BOp} (ha : PE X e (RE X T V a)) (hb : PE X f (RE X T V b)) : PE X (.BinOp e o.op f pos) (RE X T V (.bin o a b)) :=
  PE.imp (pe_op (bin_ok o) ha hb) fun σ H Q ⟨G, e, s, r, er, p⟩ => run2 r er p
theorem k_neg (ha : PE X e (RE X T V a)) : PE X (.UnaryOp .USub e pos) (RE X T V (.neg a)) := by
  refine PE.imp (pe_un un_neg ha) fun σ H Q ⟨G, e, s, r, er, p⟩ => ?_
  obtain ⟨G', e', s', a1, a2, a3⟩ := run1 (Nw.refl r) er p
  refine ⟨G', e', s', a1, a2, Post.mono (fun x H1 ⟨v, s1, G1, A, n1, er1, rv, fr, p⟩ => ?_) a3⟩
  cases v <;> first
    | exact noB p
    | skip
  obtain rfl := rv.int_of
  exact ⟨_, rfl, fin0 p n1 (.int _)⟩
theorem k_nt (ha : PE X e (RE X T V a)) : PE X (.UnaryOp .Not e pos) (RE X T V (.nt a)) := by
  refine PE.imp (pe_not ha) fun σ H Q ⟨G, e, s, r, er, p⟩ => ?_
  obtain ⟨G', e', s', a1, a2, a3⟩ := run1 (Nw.refl r) er p
  refine ⟨G', e', s', a1, a2, Post.mono (fun x H1 ⟨v, s1, G1, A, n1, er1, rv, fr, p⟩ => ?_) a3⟩
  cases v <;> first
    | exact noB p
    | skip
  obtain rfl := rv.bl_of
  exact ⟨_, rfl, fin0 p n1 (.bl _)⟩
theorem t_nt (ha : PT X e (RT X T V a)) : PT X (.UnaryOp .Not e pos) (RT X T V (.nt a)) := by
  refine PT.imp (pt_not ha) fun σ H Q ⟨G, e, s, r, er, p⟩ => ?_
  obtain ⟨G', e', s', a1, a2, a3⟩ := run1t (Nw.refl r) er p (fun a s' h => by cases a <;> first | rfl | exact absurd rfl (h _))
  refine ⟨G', e', s', a1, a2, Post.mono (fun x H1 ⟨b, eb, s1, G1, n1, er1, p⟩ => ⟨b, eb, ?_⟩) a3⟩
  obtain ⟨b', e2, q⟩ := fin0 (y := .bl (!b)) p n1 (.bl _)
  cases e2
  exact q
theorem nomark2 {o : COp} (h : ∀ es kk p, f ≠ .Set es kk p) : behindInMarks o.op f = false := by
  cases f <;> first | rfl | exact absurd rfl (h _ _ _)
theorem k_cmp {o : COp} (cx : Cxt X) (ha : PE X e (RE X T V a)) (hb : PE X f (RE X T V b)) (hm : ∀ es kk p, f ≠ .Set es kk p) : PE X (.Compare e [o.op] [f] pos) (RE X T V (.cmp o a b)) :=
  PE.imp (pe_cmpR (cop_ok cx o) ha hb (nomark2 hm)) fun σ H Q ⟨G, e, s, r, er, p⟩ => run2c r er p
theorem t_cmp {o : COp} (cx : Cxt X) (ha : PE X e (RE X T V a)) (hb : PE X f (RE X T V b)) (hm : ∀ es kk p, f ≠ .Set es kk p) : PT X (.Compare e [o.op] [f] pos) (RT X T V (.cmp o a b)) :=
  PT.imp (pt_cmpR (cop_ok cx o) ha hb (nomark2 hm)) fun σ H Q ⟨G, e, s, r, er, p⟩ => run2c r er p

/-- the chain's reading -/
theorem chn_rd {o q : COp} {σ : L2.St} {H : Hp} {Q : VK} (h : RE X T V (.chn o q a b c) σ H Q) :
    tChain (r2c X.K fun v w s => okV ((cop o v w s).map PV.bl) s) (r2c X.K fun v w s => okV ((cop q v w s).map PV.bl) s) (RE X T V a) (RE X T V b) (RE X T V c) σ H Q := by
  obtain ⟨G, e, s, r, er, p⟩ := h
  obtain ⟨G', e', s', a1, a2, a3⟩ := run1 (Nw.refl r) er p
  refine ⟨G', e', s', a1, a2, Post.mono (fun x H1 ⟨v, s1, G1, A, n1, er1, rv, fr, p⟩ => ?_) a3⟩
  obtain ⟨G', e', s', a1, a2, a3⟩ := run1 n1 er1 p
  refine ⟨G', e', s', a1, a2, Post.mono (fun y H2 ⟨w, s2, G2, B, n2, er2, rw', fr2, p2⟩ => ?_) a3⟩
  have rv2 := rv.keep (n2.keep n1.sr fr.nc)
  have n02 := n1.trans n2
  refine ⟨V σ, H2, G2, G2, v, w, A, B, s2, Nw.refl n02.sr, rv2, rw', ?_⟩
  cases hc : cop o v w s2 with
  | none => rw [hc] at p2; exact noB p2
  | some d =>
    rw [hc] at p2
    have eo : okV (Option.map PV.bl (cop o v w s2)) s2 = .ok (.bl d) s2 := by rw [hc]; rfl
    dsimp only
    rw [eo]
    intro G3 z H3 C l3 q3 r3 rz _
    obtain rfl := rz.bl_of
    have n3 : Nw X.K H2 G2 H3 G3 s2 := ⟨l3, q3, r3⟩
    refine ⟨d, rfl, ?_⟩
    cases d with
    | false =>
      rw [if_neg (by decide)]
      exact fin0 p2 (n02.trans n3) (.bl _)
    | true =>
      rw [if_pos rfl]
      obtain ⟨G', e', s', a1, a2, a3⟩ := run1 (n02.trans n3) (n3.er n02.sr er2) p2
      refine ⟨G', e', s', a1, a2, Post.mono (fun w3 H4 ⟨u, s4, G4, D, n4, er4, ru, fr4, p4⟩ => ?_) a3⟩
      have rw3 := rw'.keep (n3.keep n02.sr (fr2.nc))
      have nc3 : ∀ a ∈ B, ∀ q c, G3.sr = some (q, c) → a ≠ c := (fr2.on (H0 := H1) rw'.lists n3 (fun _ h => h)).nc
      exact ⟨V σ, H, G, G4, w, u, B, D, s4, (n02.trans n3).trans n4, rw3.keep (n4.keep n3.sr nc3), ru, p4⟩
theorem marks2 {o q : COp} (h : ∀ es kk p, f ≠ .Set es kk p) (h' : ∀ es kk p, g ≠ .Set es kk p) : lastMarks [o.op, q.op] [f, g] = false := by
  show behindInMarks q.op g = false
  exact nomark2 h'
theorem k_chn {o q : COp} (cx : Cxt X) (ha : PE X e (RE X T V a)) (hb : PE X f (RE X T V b)) (hc : PE X g (RE X T V c)) (hm : ∀ es kk p, g ≠ .Set es kk p) : PE X (.Compare e [o.op, q.op] [f, g] pos) (RE X T V (.chn o q a b c)) :=
  PE.imp (pe_chain (cop_ok cx o) (cop_ok cx q) ha hb hc (show behindInMarks q.op g = false from nomark2 hm)) fun σ H Q h => chn_rd h
theorem t_chn {o q : COp} (cx : Cxt X) (ha : PE X e (RE X T V a)) (hb : PE X f (RE X T V b)) (hc : PE X g (RE X T V c)) (hm : ∀ es kk p, g ≠ .Set es kk p) : PT X (.Compare e [o.op, q.op] [f, g] pos) (RT X T V (.chn o q a b c)) :=
  PT.imp (pt_chain (cop_ok cx o) (cop_ok cx q) ha hb hc (show behindInMarks q.op g = false from nomark2 hm)) fun σ H Q h => chn_rd h

/-! ### and, or, if -/
theorem and_rd {σ : L2.St} {H : Hp} {Q : VK} (h : RE X T V (.and a b) σ H Q) : RE X T V a σ H fun x H1 => ∃ c, x = .bl c ∧ if c = true then RE X T V b σ H1 Q else Q (.bl false) H1 := by
  obtain ⟨G, e, s, r, er, p⟩ := h
  obtain ⟨G', e', s', a1, a2, a3⟩ := run1 (Nw.refl r) er p
  refine ⟨G', e', s', a1, a2, Post.mono (fun x H1 ⟨v, s1, G1, A, n1, er1, rv, fr, p⟩ => ?_) a3⟩
  cases v with
  | bl d =>
    obtain rfl := rv.bl_of
    refine ⟨d, rfl, ?_⟩
    cases d with
    | true =>
      rw [if_pos rfl]
      refine ⟨G1, _, s1, n1.sr, er1, ?_⟩
      exact Post.rest n1 p
    | false => rw [if_neg (by decide)]; exact fin0 p n1 (.bl _)
  | _ => exact noB p
theorem or_rd {σ : L2.St} {H : Hp} {Q : VK} (h : RE X T V (.or a b) σ H Q) : RE X T V a σ H fun x H1 => ∃ c, x = .bl c ∧ if c = true then Q (.bl true) H1 else RE X T V b σ H1 Q := by
  obtain ⟨G, e, s, r, er, p⟩ := h
  obtain ⟨G', e', s', a1, a2, a3⟩ := run1 (Nw.refl r) er p
  refine ⟨G', e', s', a1, a2, Post.mono (fun x H1 ⟨v, s1, G1, A, n1, er1, rv, fr, p⟩ => ?_) a3⟩
  cases v with
  | bl d =>
    obtain rfl := rv.bl_of
    refine ⟨d, rfl, ?_⟩
    cases d with
    | false =>
      rw [if_neg (by decide)]
      exact ⟨G1, _, s1, n1.sr, er1, Post.rest n1 p⟩
    | true => rw [if_pos rfl]; exact fin0 p n1 (.bl _)
  | _ => exact noB p
theorem k_and {r : List Expr} (ha : PE X e (RE X T V a)) (hb : PE X (.BoolOp .And (f :: r) pos) (RE X T V b)) : PE X (.BoolOp .And (e :: f :: r) pos) (RE X T V (.and a b)) :=
  PE.imp (pe_and ha hb) fun σ H Q h => and_rd h
theorem k_or {r : List Expr} (ha : PE X e (RE X T V a)) (hb : PE X (.BoolOp .Or (f :: r) pos) (RE X T V b)) : PE X (.BoolOp .Or (e :: f :: r) pos) (RE X T V (.or a b)) :=
  PE.imp (pe_or ha hb) fun σ H Q h => or_rd h
theorem w_and {r : List Expr} (ha : PT X e (RT X T V a)) (hb : PW X (.BoolOp .And (f :: r) pos) (RT X T V b)) : PW X (.BoolOp .And (e :: f :: r) pos) (RT X T V (.and a b)) := by
  refine PW.imp (pw_and ha hb) fun σ H Q h => ?_
  obtain ⟨G, e, s, r1, r2, r3⟩ := and_rd h
  refine ⟨G, e, s, r1, r2, Post.mono (fun y H1 ⟨d, e1, q⟩ => ⟨d, e1, ?_⟩) r3⟩
  cases d with
  | true => exact q
  | false =>
    obtain ⟨b', e2, q⟩ := (show ∃ b, L2.V.bl false = .bl b ∧ Q b H1 from q)
    cases e2
    exact q
theorem w_or {r : List Expr} (ha : PT X e (RT X T V a)) (hb : PW X (.BoolOp .Or (f :: r) pos) (RT X T V b)) : PW X (.BoolOp .Or (e :: f :: r) pos) (RT X T V (.or a b)) := by
  refine PW.imp (pw_or ha hb) fun σ H Q h => ?_
  obtain ⟨G, e, s, r1, r2, r3⟩ := or_rd h
  refine ⟨G, e, s, r1, r2, Post.mono (fun y H1 ⟨d, e1, q⟩ => ⟨d, e1, ?_⟩) r3⟩
  cases d with
  | false => exact q
  | true =>
    obtain ⟨b', e2, q⟩ := (show ∃ b, L2.V.bl true = .bl b ∧ Q b H1 from q)
    cases e2
    exact q
theorem k_ite (hc : PT X g (RT X T V c)) (ha : PE X e (RE X T V a)) (hb : PE X f (RE X T V b)) : PE X (.IfExp g e f pos) (RE X T V (.ite c a b)) := by
  refine PE.imp (pe_ifExp hc ha hb) fun σ H Q ⟨G, e, s, r, er, p⟩ => ?_
  obtain ⟨G', e', s', a1, a2, a3⟩ := run1t (Nw.refl r) er p (fun a s' h => by cases a <;> first | rfl | (rename_i z; exact absurd rfl (h z)))
  refine ⟨G', e', s', a1, a2, Post.mono (fun x H1 ⟨d, eb, s1, G1, n1, er1, p⟩ => ⟨d, eb, ?_⟩) a3⟩
  cases d with
  | true => exact ⟨G1, _, s1, n1.sr, er1, Post.rest n1 p⟩
  | false => exact ⟨G1, _, s1, n1.sr, er1, Post.rest n1 p⟩
end
end Py
end

section
/-! PyL: argument lists, displays, items, calls. -/
namespace Py
open PySem L2 PyProof.Rows

section
variable {X : Cx} {T : Tb} {k : Nat} {V : L2.St → XW} {ex e f g : Expr} {es : List Expr} {a b c : ME} {as : List ME} {pos : Pos}

/-- an expression without a star -/
def noStar (e : Expr) : Prop := ∀ x p, e ≠ .Starred x p
theorem star_of (h : noStar e) (env : PySem.Env) : starEach (e :: es) env = (false, eval e env) :: starEach es env := by
  cases e <;> first | rfl | exact absurd rfl (h _ _)

theorem ka_nil : PA X [] (RA X T V []) := PA.imp pa_nil fun σ H Q ⟨G, e, s, r, er, p⟩ => Post.at (a := ([] : List PV)) (y := ([] : List L2.V)) p (Nw.refl r) RVs.nil Fr.nil
theorem evs_cons {F : Nat → List PV → Py.St → R PV} {m : ME} {ms : List ME} {e : Py.Env} {s : Py.St} (h : ∀ a, m ≠ .star a) : evs F (m :: ms) e s = (ev F m e s).bind fun x s1 => (evs F ms e s1).bind fun zs s2 => .ok (x :: zs) s2 := by
  cases m <;> first | rfl | exact absurd rfl (h _)
theorem ka_cons (hm : ∀ x, a ≠ .star x) (hn : noStar e) (ha : PE X e (RE X T V a)) (hr : PA X es (RA X T V as)) : PA X (e :: es) (RA X T V (a :: as)) := by
  refine PA.imp (pa_cons ha hr (star_of hn _)) fun σ H Q ⟨G, e, s, r, er, p⟩ => ?_
  rw [evs_cons hm] at p
  obtain ⟨G', e', s', a1, a2, a3⟩ := run1 (Nw.refl r) er p
  refine ⟨G', e', s', a1, a2, Post.mono (fun x H1 ⟨v, s1, G1, A, n1, er1, rv, fr, p⟩ => ?_) a3⟩
  obtain ⟨G', e', s', a1, a2, a3⟩ := run1s n1 er1 p
  refine ⟨G', e', s', a1, a2, Post.mono (fun xs H2 ⟨vs, s2, G2, B, n2, er2, rvs, fr2, p2⟩ => ?_) a3⟩
  exact p2.at (n1.trans n2) (.cons (rv.keep (n2.keep n1.sr fr.nc)) rvs) ((fr.on rv.lists n2 (fun _ h => h)).append (fr2.back n1.pr.dom) (Fr.off rv.lists fr2))
theorem star_tup {prog : Program} {w : World} {A : Around} {E : Value → Shared → Prop} {s : Shared} {a : Addr} {its : List Value} {Q : List Value → Shared → Prop} (ht : s.heap.IsTuple a its.toArray) (hz : its.length ≤ sizeLine)
    (h : ∀ h', (∀ b o, s.heap.get? b = some o → h'.get? b = some o) → Q its { s with heap := h' }) : W.StarOf (model prog w) A E (.ref a) Q s := by
  obtain ⟨o, ho, hc, n, hd⟩ := id ht
  unfold W.StarOf notIterableAtAll
  exact wpAny_bind (wpAny_specialOf ht.typeIs PySem.F.slot_tuple_iter.lookup (wpAny_pure ⟨rfl, wpAny_collect_seq a (.inr rfl) ho hc hd (fun h' hk => h h' hk) (by simpa using hz)⟩))
theorem star_lst {prog : Program} {w : World} {A : Around} {E : Value → Shared → Prop} {s : Shared} {a : Addr} {its : List Value} {Q : List Value → Shared → Prop} (ht : s.heap.IsList a its.toArray) (hz : its.length ≤ sizeLine)
    (h : ∀ h', (∀ b o, s.heap.get? b = some o → h'.get? b = some o) → Q its { s with heap := h' }) : W.StarOf (model prog w) A E (.ref a) Q s := by
  obtain ⟨o, ho, hc, n, hd⟩ := id ht
  unfold W.StarOf notIterableAtAll
  exact wpAny_bind (wpAny_specialOf ht.typeIs PySem.F.slot_list_iter.lookup (wpAny_pure ⟨rfl, wpAny_collect_seq a (.inl rfl) ho hc hd (fun h' hk => h h' hk) (by simpa using hz)⟩))
theorem RVs.app' {K : W.Frag} {G : Gh} {H : Hp} : ∀ {xs ys : List PV} {vs ws : List L2.V} {B : List Addr}, RVs K G H xs vs [] → RVs K G H ys ws B → RVs K G H (xs ++ ys) (vs ++ ws) B
  | [], _, [], _, _, _, r => r
  | [], _, _ :: _, _, _, h, _ => by cases h
  | x :: xs, ys, [], ws, _, h, _ => by cases h
  | x :: xs, ys, v :: vs, ws, B, h, r => .cons (A := []) h.inv.1 (RVs.app' h.inv.2 r)

/-- *e in a display: the items of a list or a tuple -/
theorem ka_star {sp : Pos} (ha : PE X e (RE X T V a)) (hr : PA X es (RA X T V as)) : PA X (.Starred e sp :: es) (RA X T V (.star a :: as)) := by
  refine ⟨fun pos pins s σ H Q I ⟨G, en, st, r, er, p⟩ => ?_⟩
  have p : Post X.K H G (RVs X.K) (V σ) Q ((ev T.F a en st).bind fun x s1 => match itemsOf x with | some ys => (evs T.F as en s1).bind fun zs s2 => .ok (ys ++ zs) s2 | none => .bad) := p
  refine W.items_star (thn (ha.run pins s σ H _ I (run1 (Nw.refl r) er p)) fun u s1 ⟨x, H1, I1, rx, v, t1, G1, A, n1, er1, rv, fr, p1⟩ => ?_)
  have go : ∀ {its : List Value} {ys : List PV} {zs : List L2.V} {G1' : Gh} {s2 : Shared}, Nw X.K H G H1 G1' t1 → ER X.K G1' H1 en σ → RVs X.K G1' H1 ys zs [] → Vals zs its → Inv X pins σ H1 s2 → itemsOf v = some ys →
      wpAny (model X.prog X.w) X.A (spliced (backTo pos (starEach es X.env))) (fun vs s3 => AP X pins σ Q (its ++ vs) s3) X.xe s2 := by
    intro its ys zs G1' s2 n1' er1' rys rz I2 hi
    rw [hi] at p1
    exact thn (hr.run pos pins s2 σ H1 _ I2 (run1s n1' er1' p1)) fun vs s3 ⟨ws, H2, I3, rws, v2, t2, G2, B, n2, er2, rv2, fr2, p2⟩ =>
      ⟨zs ++ ws, H2, I3, rz.append rws, p2.at (n1'.trans n2) (by
        have r1 := rys.keep (n2.keep0 n1'.sr)
        exact RVs.app' r1 rv2) (fr2.back n1'.pr.dom)⟩
  cases v with
  | tup ys =>
    obtain ⟨b, zs, rfl, eb, r1⟩ := rv.tup_of
    cases rx
    obtain ⟨its, rvl, ht, hz⟩ := I1.tuple (SqT.of' eb)
    have hl : its.length ≤ sizeLine := by rw [← rvl.length]; exact hz
    exact star_tup ht hl fun h' hk => go n1 er1 r1 rvl (I1.kept (t' := s1.toks) hk) rfl
  | lst m ys =>
    have n1' := n1.addT fr rv.lists
    obtain ⟨b, zs, rfl, eb, r1⟩ := (rv.keep (Keep.addT A A)).items fun a q => .inr q
    cases rx
    obtain ⟨its, rvl, ht, hz⟩ := I1.list (SqL.of' eb)
    have hl : its.length ≤ sizeLine := by rw [← rvl.length]; exact hz
    exact star_lst ht.isList hl fun h' hk => go n1' (er1.keep (Keep.addT A [])) r1 rvl (I1.kept (t' := s1.toks) hk) rfl
  | _ => exact False.elim p1

theorem k_tup {fs : List Expr} {kk : Nat} (h : PA X fs (RA X T V as)) : PE X (.Tuple fs kk pos) (RE X T V (.tup as)) := by
  refine PE.imp (pe_tup h) fun σ H Q ⟨G, e, s, r, er, p⟩ => ?_
  obtain ⟨G', e', s', a1, a2, a3⟩ := run1s (Nw.refl r) er p
  refine ⟨G', e', s', a1, a2, Post.mono (fun xs H1 ⟨vs, s1, G1, A, n1, er1, rv, fr, p⟩ => ?_) a3⟩
  by_cases hz : vs.length ≤ sizeLine
  · have p : Post X.K H G (RV X.K) (V σ) Q (if vs.length ≤ sizeLine then .ok (.tup (brws vs)) s1 else .bad) := p
    rw [if_pos hz] at p
    exact ⟨by rw [← rv.length]; exact hz, fun q hq => fin_tup p (n1.addT fr rv.lists) rv.brwT q hq⟩
  · have p : Post X.K H G (RV X.K) (V σ) Q (if vs.length ≤ sizeLine then .ok (.tup (brws vs)) s1 else .bad) := p
    rw [if_neg hz] at p
    exact False.elim p
theorem Fr.cons1 {K : W.Frag} {H0 H : Hp} {G0 G : Gh} {s : Py.St} {q : Addr} {A : List Addr} (n : Nw K H0 G0 H G s) (hq : H q = none) (f : Fr H0 G A) (l : ∀ a ∈ A, ∃ xs, H a = some (.lst xs)) : Fr H0 G (q :: A) := by
  have f1 := n.fr1 hq
  exact f1.append f fun x hx hx' => by
    rw [List.mem_singleton.mp hx] at hx'
    obtain ⟨xs, e⟩ := l _ hx'
    rw [hq] at e; cases e
theorem k_lst {fs : List Expr} (h : PA X fs (RA X T V as)) : PE X (.List fs pos) (RE X T V (.lst as)) := by
  refine PE.imp (pe_lst h) fun σ H Q ⟨G, e, s, r, er, p⟩ => ?_
  obtain ⟨G', e', s', a1, a2, a3⟩ := run1s (Nw.refl r) er p
  refine ⟨G', e', s', a1, a2, Post.mono (fun xs H1 ⟨vs, s1, G1, A, n1, er1, rv, fr, p⟩ => ?_) a3⟩
  by_cases hz : vs.length ≤ sizeLine
  · have p : Post X.K H G (RV X.K) (V σ) Q (if vs.length ≤ sizeLine then .ok (.lst .o vs) s1 else .bad) := p
    rw [if_pos hz] at p
    exact ⟨by rw [← rv.length]; exact hz, fun q hq => p.at (n1.lay hq) (.lo upd_same (rv.keep (Keep.lay hq))) (Fr.cons1 n1 hq fr rv.lists)⟩
  · have p : Post X.K H G (RV X.K) (V σ) Q (if vs.length ≤ sizeLine then .ok (.lst .o vs) s1 else .bad) := p
    rw [if_neg hz] at p
    exact False.elim p

/-- an index that is no slice -/
def noSlice (e : Expr) : Prop := ∀ a b c p, e ≠ .Slice a b c p
theorem plain_ix (h : noSlice f) : PlainIx f := by
  intro o i
  cases f <;> first | rfl | exact absurd rfl (h _ _ _ _)
theorem k_idx (cx : Cxt X) (ha : PE X e (RE X T V a)) (hb : PE X f (RE X T V b)) (hs : noSlice f) : PE X (.Subscript e f pos) (RE X T V (.idx a b)) :=
  PE.imp (pe_ix (ix_ok cx) ha hb (plain_ix hs)) fun σ H Q ⟨G, e, s, r, er, p⟩ => run2 r er p

/-- a part of a slice -/
theorem po_on {o : Option Expr} {l : Bool} {m : ME} (h : match l, o with | true, some f' => PE X f' (RE X T V m) | false, none => True | _, _ => False) :
    PO X o (fun σ H R => ∃ (G : Gh) (e : Py.Env) (s : Py.St), SR X.K G H s ∧ ER X.K G H e σ ∧ Post X.K H G (fun _ _ (x y : Option Int) A => x = y ∧ A = []) (V σ) R (if l then (ev T.F m e s).bind partI else .ok none s)) := by
  match l, o, h with
  | true, some f', h =>
    have := po_some h
    refine ⟨fun pins s σ H R I q => this.run pins s σ H R I ?_⟩
    obtain ⟨G, e, t, r, er, p⟩ := q
    rw [if_pos rfl] at p
    obtain ⟨G', e', s', a1, a2, a3⟩ := run1 (Nw.refl r) er p
    refine ⟨G', e', s', a1, a2, Post.mono (fun x H1 ⟨v, s1, G1, A, n1, er1, rv, fr, p⟩ => ?_) a3⟩
    cases v <;> first
      | exact False.elim p
      | skip
    obtain rfl := rv.int_of
    exact ⟨_, rfl, Post.at (a := some _) (A := []) p n1 ⟨rfl, rfl⟩ Fr.nil⟩
  | false, none, _ =>
    refine ⟨fun pins s σ H R I q => po_none.run pins s σ H R I ?_⟩
    obtain ⟨G, e, t, r, er, p⟩ := q
    rw [if_neg (by decide)] at p
    exact Post.at (a := none) (A := []) p (Nw.refl r) ⟨rfl, rfl⟩ Fr.nil
theorem k_slc {l h : Bool} {o u : Option Expr} {p2 : Pos} (ha : PE X e (RE X T V a)) (hl : match l, o with | true, some f' => PE X f' (RE X T V b) | false, none => True | _, _ => False)
    (hh : match h, u with | true, some f' => PE X f' (RE X T V c) | false, none => True | _, _ => False) : PE X (.Subscript e (.Slice o u none p2) pos) (RE X T V (.slc a l b h c)) := by
  refine PE.imp (pe_slice slc_ok ha (po_on hl) (po_on hh)) fun σ H Q ⟨G, e, s, r, er, p⟩ => ?_
  obtain ⟨G', e', s', a1, a2, a3⟩ := run1 (Nw.refl r) er p
  refine ⟨G', e', s', a1, a2, Post.mono (fun x H1 ⟨v, s1, G1, A, n1, er1, rv, fr, p⟩ => ?_) a3⟩
  refine ⟨G1, _, s1, n1.sr, er1, Post.mono (fun y H2 ⟨i, s2, G2, B, n2, ⟨ei, eB⟩, fr2, p2⟩ => ?_) (Post.bind n1.le n1.pr p)⟩
  subst ei eB
  have n02 := n1.trans n2
  refine ⟨G2, _, s2, n02.sr, n2.er n1.sr er1, Post.mono (fun z H3 ⟨j, s3, G3, C, n3, ⟨ej, eC⟩, fr3, p3⟩ => ?_) (Post.bind n02.le n02.pr p2)⟩
  subst ej eC
  have rv2 := rv.keep (n2.keep n1.sr fr.nc)
  have fr2' : Fr H G2 A := fr.on rv.lists n2 (fun _ h => h)
  have rv3 := rv2.keep (n3.keep n2.sr fr2'.nc)
  have fr3' : Fr H G3 A := fr2'.on rv2.lists n3 (fun _ h => h)
  exact ⟨V σ, H, G, G3, v, A, s3, n02.trans n3, rv3, fr3', p3⟩

/-! ### [::-1] -/
theorem k_rev {j : Nat} {p1 p2 p3 : Pos} (he : PE X e (RE X T V a)) : PE X (.Subscript e (.Slice none none (some (.UnaryOp .USub (.Constant (.int 1) j p1) p2)) p3) pos) (RE X T V (.rev a)) := by
  refine ⟨fun pins s σ H Q I ⟨G, en, t, r, er, p⟩ => ?_⟩
  refine Subscript_ (thn (he.run pins s σ H _ I (run1 (Nw.refl r) er p)) fun v s1 ⟨x, H1, I1, r1, w, t1, G1, A, n1, er1, rv, fr, q⟩ => ?_)
  have hst : PO X (some (.UnaryOp .USub (.Constant (.int 1) j p1) p2)) (tPart (tUn (rU fun i => .int (-i)) (tC (.int 1)))) := po_some (pe_un un_neg pe_int)
  refine wpAny_Slice (thn (po_none.run pins s1 σ H1 (fun o H2 => o = none ∧ H2 = H1) I1 ⟨rfl, rfl⟩) fun vl s2 ⟨l, H2, I2, pl, el, e2⟩ => ?_)
  subst el e2
  refine thn (po_none.run pins s2 σ _ (fun o H3 => o = none ∧ H3 = H2) I2 ⟨rfl, rfl⟩) fun vu s3 ⟨u, H3, I3, pu, eu, e3⟩ => ?_
  subst eu e3
  refine thn (hst.run pins s3 σ _ (fun o H4 => o = some (-1) ∧ H4 = H3) I3 ⟨1, rfl, -1, rfl, rfl, rfl⟩) fun vs s4 ⟨o, H4, I4, ps, eo, e4⟩ => ?_
  subst eo e4
  have I5 : Inv X pins σ H4 { s4 with heap := s4.heap.push { cls := .type "slice", data := .fields #[vl, vu, vs] } } := I4.kept (t' := s4.toks) (fun b ob q => Heap.get?_push_of_some _ q)
  cases w with
  | tup ys =>
    obtain ⟨b, zs, rfl, eb, r2⟩ := rv.tup_of
    cases r1
    obtain ⟨its, rvl, ht, hz⟩ := I5.tuple (SqT.of' eb)
    have hl := rvl.length
    refine tail_any (ops := [.ref b, .ref s4.heap.objs.size]) ht.typeIs PyProof.Rows.slot_tuple_getitem.lookup ?_ (by with_unfolding_all rfl)
    refine back_tuple ht (Heap.IsSliceOf.new _ vl vu vs) pl pu ps ?_ (by rw [List.size_toArray]; omega)
    refine ⟨.ref _, _, I5.laid (t' := s4.toks) (o := .tup zs.reverse) (fun b ob q => Heap.get?_push_of_some _ q) (Nat.le_refl _) ?_, rfl, fin_tup q n1 r2.rev _ (I5.hok.fresh (Nat.le_refl _))⟩
    exact ⟨by rw [List.length_reverse]; exact hz, _, rvl.reverse, IsTup.new _ _⟩
  | lst m ys =>
    have n1' := n1.addT fr rv.lists
    obtain ⟨b, zs, B, rfl, eb, r2, hB⟩ := rv.lst_of
    cases r1
    obtain ⟨its, rvl, ht, hz⟩ := I5.list (SqL.of' eb)
    have hl := rvl.length
    have r3 : RVs X.K (G1.addT A) H4 (brws ys) zs [] := (r2.keep (Keep.addT A B)).brw fun b q => .inr (hB b q)
    have q' : Post X.K H G (RV X.K) (V σ) Q (.ok (.lst .o (brws ys.reverse)) t1) := q
    have e : brws ys.reverse = (brws ys).reverse := by rw [brws_eq, brws_eq, List.map_reverse]
    rw [e] at q'
    refine tail_any (ops := [.ref b, .ref s4.heap.objs.size]) ht.isList.typeIs (PySem.slot_list_getitem.lookup) ?_ (by with_unfolding_all rfl)
    refine wpAny_getItem_list_slice ht.isList (Heap.IsSliceOf.new _ vl vu vs) pl pu ps (by decide) ?_ (by rw [List.size_toArray]; omega)
    rw [W.krv_pick]
    refine ⟨.ref _, _, I5.laid (t' := s4.toks) (o := .lst zs.reverse) (fun b ob q => Heap.get?_push_of_some _ q) (Nat.le_refl _) ?_, rfl, fin_new q' n1' r3.rev _ (I5.hok.fresh (Nat.le_refl _))⟩
    exact ⟨by rw [List.length_reverse]; exact hz, _, 0, rvl.reverse, Heap.get?_push_size _ rfl⟩
  | _ => exact False.elim q

/-! ### calls -/
theorem spare {σ : L2.St} {H : Hp} {Q : VK} {g : List PV → Py.St → R PV} {G : Gh} {e : Py.Env} {s : Py.St} (r : SR X.K G H s) (er : ER X.K G H e σ) (p : Post X.K H G (RV X.K) (V σ) Q ((evs T.F as e s).bind g)) :
    RA X T V as σ H fun vs H1 => rC X.K g vs H1 Q := by
  obtain ⟨G', e', s', a1, a2, a3⟩ := run1s (Nw.refl r) er p
  exact ⟨G', e', s', a1, a2, Post.mono (fun xs H1 ⟨vs, s1, G1, A, n1, er1, rv, fr, p⟩ => ⟨V σ, H, G, G1, vs, A, s1, n1, rv, fr, p⟩) a3⟩
theorem plain_any (env : PySem.Env) : ∀ {es : List Expr}, (∀ e ∈ es, noStar e) → (backTo pos (starEach es env)).any (·.1) = false
  | [], _ => rfl
  | e :: es, h => by
    rw [star_of (h e List.mem_cons_self)]
    have := plain_any env fun x q => h x (List.mem_cons_of_mem _ q)
    simpa [backTo] using this

theorem k_call {q : Str × Addr × FuncData × List Str} {x : Str} {p : Pos} {i : Nat} {fs : List Expr} (px : PX T k X V) (hq : T.fns[i]? = some q) (hx : q.1 = x) (hg : Gl X x) (h : PA X fs (RA X T V as)) (hn : ∀ e ∈ fs, noStar e) (h0 : fs = [] → as = []) :
    PE X (.Call (.Name x p) fs [] pos) (RE X T V (.call i as)) := by
  subst hx
  obtain ⟨F, ar⟩ := px.fn i q hq
  have rd : ∀ σ H Q, RE X T V (.call i as) σ H Q → tCallS (spF X.K T i q.2.2.2.length) (fun σ => EofW T (V σ)) (RA X T V as) σ H Q := fun σ H Q ⟨G, e, s, r, er, p⟩ => by
    obtain ⟨G', e', s', a1, a2, a3⟩ := run1s (Nw.refl r) er p
    refine ⟨G', e', s', a1, a2, Post.mono (fun xs H1 ⟨vs, s1, G1, A, n1, er1, rv, fr, p⟩ => ?_) a3⟩
    by_cases hl : (brws vs).length = q.2.2.2.length
    · exact ⟨by rw [← hl, brws_length]; exact rv.length.symm, V σ, H, G, G1.addT A, brws vs, s1, n1.addT fr rv.lists, rv.brwT, p, fun _ _ _ z => z⟩
    · rw [ar _ _ hl] at p
      exact False.elim p
  cases fs with
  | nil =>
    refine PE.imp (pe_callI0 F.fn px.room px.cx.gd hg F.mg F.kp F.bd px.pas F.db) fun σ H Q h' => ?_
    obtain rfl := h0 rfl
    obtain ⟨G, e, s, r, er, p⟩ := rd σ H Q h'
    exact Post.at (a := ([] : List PV)) (y := ([] : List L2.V)) p (Nw.refl r) RVs.nil Fr.nil
  | cons e es => exact PE.imp (pe_callI F.fn px.room px.cx.gd hg F.mg F.kp F.bd px.pas h F.db (star_of (hn e List.mem_cons_self) _) (plain_any _ fun x hx => hn x (List.mem_cons_of_mem _ hx))) rd

theorem boot_blt (b : Blt) : bootBuiltins b.nm = some b.val := by cases b <;> decide +kernel
theorem k_blt {b : Blt} {p : Pos} {fs : List Expr} (px : PX T k X V) (hg : Gl X b.nm) (h : PA X (e :: fs) (RA X T V as)) (hn : ∀ x ∈ e :: fs, noStar x) : PE X (.Call (.Name b.nm p) (e :: fs) [] pos) (RE X T V (.blt b as)) := by
  have hm : X.mg b.nm = none := px.blt _ (by cases b <;> decide)
  have hv := boot_blt b
  have hnm : b.nm ≠ "__name__" := by cases b <;> decide
  have hdb : (b.nm == ("__debug__" : Str)) = false := by cases b <;> decide
  have ht : ∀ σ H Q, RE X T V (.blt b as) σ H Q → tCB (rC X.K (bltin b)) (RA X T V as) σ H Q := fun σ H Q ⟨G, e, s, r, er, p⟩ => spare r er p
  have st := star_of (es := fs) (hn e List.mem_cons_self) X.env
  have pl : (backTo pos (starEach fs X.env)).any (·.1) = false := plain_any _ fun x hx => hn x (List.mem_cons_of_mem _ hx)
  have ok := blt_ok px.cx b
  cases b <;> first
    | exact PE.imp (pe_callB (id := _) ok hg hm hv h hnm hdb st pl) ht
    | exact PE.imp (pe_callTy ok hg hm hv h hnm hdb st pl) ht

theorem k_pick {q : Str × Addr × FuncData × List Str} {x : Str} {p : Pos} (px : PX T k X V) (hq : q ∈ T.picks) (hx : q.1 = x) (hg : Gl X x) (ha : PE X e (RE X T V a)) (hb : PE X f (RE X T V b)) (n1 : noStar e) (n2 : noStar f) :
    PE X (.Call (.Name x p) [e, f] [] pos) (RE X T V (.pick a b)) := by
  subst hx
  have F := px.pick q hq
  refine PE.imp (pe_callI F.fn px.room px.cx.gd hg F.mg F.kp F.bd px.pas (pa_cons ha (pa_cons hb pa_nil (star_of n2 _)) (star_of n1 _)) F.db (star_of n1 _) (plain_any _ fun x hx => by rw [List.mem_singleton.mp hx]; exact n2)) fun σ H Q ⟨G, e, s, r, er, p⟩ => ?_
  obtain ⟨G', e', s', a1, a2, a3⟩ := run1 (Nw.refl r) er p
  refine ⟨G', e', s', a1, a2, Post.mono (fun x H1 ⟨v, s1, G1, A, n1, er1, rv, fr, p⟩ => ?_) a3⟩
  obtain ⟨G', e', s', a1, a2, a3⟩ := run1 n1 er1 p
  refine ⟨G', e', s', a1, a2, Post.mono (fun y H2 ⟨w, s2, G2, B, n2, er2, rw', fr2, p2⟩ => ?_) a3⟩
  cases v <;> first
    | exact False.elim p2
    | skip
  cases w <;> first
    | exact False.elim p2
    | skip
  rename_i j
  obtain rfl := rw'.int_of
  have rv2 := rv.keep (n2.keep n1.sr fr.nc)
  have hA : A = [] := by cases rv; rfl
  subst hA
  have p2 : Post X.K H G (RV X.K) (V σ) Q (if j ≤ 1000000 then .ask (max 1 j.toNat) fun i => .ok (.int i) s2 else .bad) := p2
  by_cases hj : j ≤ 1000000
  case neg =>
    rw [if_neg hj] at p2
    exact False.elim p2
  rw [if_pos hj] at p2
  refine ⟨rfl, H, G, G2, s2, x, j, n1.trans n2, rfl, rv2, hj, fun i H' hi n' => ?_⟩
  have p2' : Post X.K H G (RV X.K) (V σ) Q (.ask (max 1 j.toNat) fun i => .ok (.int i) s2) := p2
  exact fin0 (p2' i hi) n' (.int _)
theorem k_opn {q : Str × Addr × FuncData × List Str} {x : Str} {p : Pos} (px : PX T k X V) (hq : q ∈ T.opens) (hx : q.1 = x) (hg : Gl X x) (ha : PE X e (RE X T V a)) (n1 : noStar e) : PE X (.Call (.Name x p) [e] [] pos) (RE X T V (.opn a)) := by
  subst hx
  have F := px.open' q hq
  refine PE.imp (pe_callI F.fn px.room px.cx.gd hg F.mg F.kp F.bd px.pas (pa_cons ha pa_nil (star_of n1 _)) F.db (star_of n1 _) rfl) fun σ H Q ⟨G, e, s, r, er, p⟩ => ?_
  obtain ⟨G', e', s', a1, a2, a3⟩ := run1 (Nw.refl r) er p
  refine ⟨G', e', s', a1, a2, Post.mono (fun x H1 ⟨v, s1, G1, A, n1, er1, rv, fr, p⟩ => ?_) a3⟩
  cases v <;> first
    | exact False.elim p
    | skip
  have hA : A = [] := by cases rv; rfl
  subst hA
  by_cases ho : s1.op = true
  · have p : Post X.K H G (RV X.K) (V σ) Q (if s1.op = true then .bad else .ok .src { s1 with op := true }) := p
    rw [if_pos ho] at p
    exact False.elim p
  · have p : Post X.K H G (RV X.K) (V σ) Q (if s1.op = true then .bad else .ok .src { s1 with op := true }) := p
    rw [if_neg ho] at p
    exact ⟨rfl, H, G, G1, s1, x, n1, rfl, rv, by simpa using ho, fun G' H' y n' r' => fin0 p n' r'⟩

/-! ### isinstance -/
def Ty.vv : Ty → L2.V := fun t => match t with
  | .int => .ty "int" | .bool => .ty "bool" | .str => .ty "str" | .tuple => .ty "tuple" | .list => .ty "list" | .dict => .ty "dict"
def Ty.s : Ty → String := fun t => match t with
  | .int => "int" | .bool => "bool" | .str => "str" | .tuple => "tuple" | .list => "list" | .dict => "dict"
theorem boot_ty (t : Ty) : bootBuiltins t.nm = some (.type t.s) := by cases t <;> decide +kernel
/-- a value's type -/
def tyS : PV → Option String
  | .non => some "NoneType" | .bl _ => some "bool" | .int _ => some "int" | .str _ => some "str" | .tup _ => some "tuple" | .lst _ _ => some "list" | .dct _ => some "dict" | _ => none
theorem kit_all : ∀ x ∈ ["NoneType", "bool", "int", "str", "tuple", "list", "dict"], ∀ t ∈ [Ty.int, .bool, .str, .tuple, .list, .dict], kitB x t.s = some (match x with
    | "bool" => t = .bool ∨ t = .int | "int" => t = .int | "str" => t = .str | "tuple" => t = .tuple | "list" => t = .list | "dict" => t = .dict | _ => false : Bool) := by decide +kernel
theorem isTy_kit {K : W.Frag} {v : PV} {t : Ty} {b : Bool} (h : isTy v t = some b) : ∃ x, tyS v = some x ∧ PySem.W.kitOne K (.type x) (.type t.s) = some b := by
  have ht : t ∈ [Ty.int, .bool, .str, .tuple, .list, .dict] := by cases t <;> simp
  cases v <;> simp only [isTy, Option.some.injEq] at h <;> try cases h
  all_goals (refine ⟨_, rfl, kit_ty ?_⟩; refine (kit_all _ (by simp) t ht).trans ?_)
  all_goals (cases t <;> simp)
theorem dct_ty {K : W.Frag} {G : Gh} {H : Hp} {s : Py.St} {n : Nat} {a : Addr} {d : List (PV × PV)} (r : SR K G H s) (hn : G.ds[n]? = some a) (hd : s.ds[n]? = some d) (hm : isMk d = false) : TyOf K H (.ref a) (.type "dict") := by
  rcases (r.dat n d a hd hn).isDcU hm with ⟨_, e⟩ | ⟨_, e⟩
  · exact .dK e
  · exact .dT e
theorem isTyS_in {v : PV} {t : Ty} {s : Py.St} {b : Bool} (h : isTyS v t s = some b) : isTy v t = some b ∧ ∀ n, v = .dct n → ∃ d, s.ds[n]? = some d ∧ isMk d = false := by
  cases v <;> first
    | exact ⟨h, fun n z => nomatch z⟩
    | skip
  rename_i m
  have h : (match s.dat m with | some d => if isMk d then none else isTy (.dct m) t | none => none) = some b := h
  cases hd : s.dat m with
  | none => rw [hd] at h; cases h
  | some d =>
    rw [hd] at h
    cases hm : isMk d with
    | true => simp only [hm, if_true] at h; cases h
    | false =>
      simp only [hm, Bool.false_eq_true, if_false] at h
      exact ⟨h, fun n z => by cases z; exact ⟨d, hd, hm⟩⟩
theorem k_isi {t : Ty} {p p2 : Pos} (px : PX T k X V) (hg : Gl X "isinstance") (hg2 : Gl X t.nm) (ha : PE X e (RE X T V a)) (n1 : noStar e) (ht : X.mg t.nm = none) : PE X (.Call (.Name "isinstance" p) [e, .Name t.nm p2] [] pos) (RE X T V (.isi a t)) := by
  have hc : PE X (.Name t.nm p2) (tC (Ty.vv t)) := pe_bltn hg2 ht (boot_ty t) (by cases t <;> rfl) (by cases t <;> decide) (by cases t <;> decide)
  refine PE.imp (pe_callB call_isi hg (px.blt _ (by decide)) (by decide +kernel) (pa_cons ha (pa_cons hc pa_nil) (star_of n1 _)) (by decide) (by decide) (star_of n1 _) rfl) fun σ H Q ⟨G, e, s, r, er, p⟩ => ?_
  obtain ⟨G', e', s', a1, a2, a3⟩ := run1 (Nw.refl r) er p
  refine ⟨G', e', s', a1, a2, Post.mono (fun x H1 ⟨v, s1, G1, A, n1, er1, rv, fr, p⟩ => ?_) a3⟩
  obtain ⟨b, hb0, p⟩ := okM p
  obtain ⟨hb, hdd⟩ := isTyS_in hb0
  obtain ⟨ts, h1, h2⟩ := isTy_kit (K := X.K) hb
  refine ⟨x, Ty.vv t, .type ts, .type t.s, b, rfl, by cases t <;> exact .ty _, .base ?_, h2, fin0 p n1 (.bl _)⟩
  cases rv <;> simp only [tyS, Option.some.injEq] at h1 <;> try cases h1
  · exact .non
  · exact .bl _
  · exact .int _
  · exact .str _
  · exact .tup ‹_›
  · exact .lst ‹_›
  · exact .lst ‹_›
  · exact .lst ‹_›
  · exact .lst ‹_›
  · obtain ⟨d, hd, hm⟩ := hdd _ rfl
    exact dct_ty n1.sr (by assumption) hd hm
end
end Py
end

section
/-! PyM: what is walked: lists, tuples, texts, enumerate and zip over them. -/
namespace Py
open PySem L2 PyProof.Rows

/-- the kinds of sources -/
inductive Kn | l | t | s
inductive Sc (H : Hp) : Kn → V → List V → Prop
  | l {a : Addr} {xs : List V} : H a = some (.lst xs) → Sc H .l (.ref a) xs
  | t {a : Addr} {xs : List V} : H a = some (.tup xs) → Sc H .t (.ref a) xs
  | s {z : Str} : Sc H .s (.str z) (z.cps.toList.map fun c => .str ⟨#[c]⟩)
theorem Sc.uniq {H : Hp} {k : Kn} {x : V} {xs ys : List V} (h : Sc H k x xs) (h' : Sc H k x ys) : xs = ys := by
  cases h with
  | l e => cases h' with | l e' => rw [e] at e'; cases e'; rfl
  | t e => cases h' with | t e' => rw [e] at e'; cases e'; rfl
  | s => cases h'; rfl
/-- the source's iterator at turn i -/
def TnS (it : Addr) : Kn → Value → Nat → Heap → Prop
  | .l, .ref a, i, h => h.IsListIter it a i
  | .t, .ref a, i, h => h.IsTupleIter it a i
  | .s, .str z t, i, h => h.IsStrIter it (strIterType z) z t i
  | _, _, _, _ => False
theorem TnS.at {it : Addr} {k : Kn} {u : Value} {i : Nat} {h h' : Heap} (t : TnS it k u i h) (f : ∀ o, h.get? it = some o → h'.get? it = some o) : TnS it k u i h' := by
  cases k <;> cases u <;> first
    | exact False.elim t
    | skip
  · exact Heap.IsListIter.at t f
  · exact Heap.IsTupleIter.at t f
  · obtain ⟨o, e, r⟩ := t
    exact ⟨o, f o e, r⟩
theorem TnS.obj {it : Addr} {k : Kn} {u : Value} {i : Nat} {h : Heap} (t : TnS it k u i h) : ∃ o, h.get? it = some o ∧ ∀ v, o.data ≠ .cell v := by
  cases k <;> cases u <;> first
    | exact False.elim t
    | skip
  all_goals (
    obtain ⟨o, e, _, d⟩ := t
    exact ⟨o, e, fun v z => by rw [d] at z; cases z⟩)

section
variable {X : Cx} {pins : List (Addr × Obj)} {σ : L2.St} {H : Hp} {s : Shared}
/-- what the source's iterator draws, where one stands -/
theorem draw_of {k : Kn} {x : V} {u : Value} {xs : List V} {it : Addr} {i : Nat} (I : Inv X pins σ H s) (hc : X.calm = true) (sc : Sc H k x xs) (r : RelV x u) (tn : TnS it k u i s.heap) (hit : H it = none) :
    ∃ (fp : List Addr) (P : Nat → Value → Prop) (St : Nat → Heap → Prop), Draws X.prog X.w X.A.in1 it fp xs.length P St ∧ St i s.heap ∧ (∀ j v, P j v → ∃ y, xs[j]? = some y ∧ RelV y v) ∧ (∀ j h, St j h → TnS it k u j h) ∧ it ∈ fp ∧ ∀ b ∈ fp, b = it ∨ ∃ o, H b = some o := by
  have hh : X.A.in1.handled = none := I.ok.hd hc
  cases sc with
  | l e =>
    rename_i a
    cases r
    obtain ⟨its, rv, p, _⟩ := I.list (.inl (.inl e))
    have hl := rv.length
    have ne : a ≠ it := fun z => by rw [z, hit] at e; cases e
    have D := Draws.list (prog := X.prog) (w := X.w) hh it a ne its.toArray
    rw [List.size_toArray, ← hl] at D
    refine ⟨_, _, _, D, ⟨tn, p.isList⟩, fun j v hv => ?_, fun j h st => st.1, by simp, fun b hb => ?_⟩
    · have hj : its[j]? = some v := by simpa using hv
      have hlt : j < xs.length := by rw [hl]; exact (List.getElem?_eq_some_iff.mp hj).1
      obtain ⟨u, hu, ru⟩ := rv.get (List.getElem?_eq_getElem hlt)
      rw [hj] at hu
      cases hu
      exact ⟨_, List.getElem?_eq_getElem hlt, ru⟩
    · have q : b = it ∨ b = a := by simpa using hb
      exact q.imp id fun z => ⟨_, by rw [z]; exact e⟩
  | t e =>
    rename_i a
    cases r
    obtain ⟨its, rv, p, _⟩ := I.tuple (.inl (.inl e))
    have hl := rv.length
    have ne : a ≠ it := fun z => by rw [z, hit] at e; cases e
    have D := Draws.tuple (prog := X.prog) (w := X.w) hh it a ne its.toArray
    rw [List.size_toArray, ← hl] at D
    refine ⟨_, _, _, D, ⟨tn, p⟩, fun j v hv => ?_, fun j h st => st.1, by simp, fun b hb => ?_⟩
    · have hj : its[j]? = some v := by simpa using hv
      have hlt : j < xs.length := by rw [hl]; exact (List.getElem?_eq_some_iff.mp hj).1
      obtain ⟨u, hu, ru⟩ := rv.get (List.getElem?_eq_getElem hlt)
      rw [hj] at hu
      cases hu
      exact ⟨_, List.getElem?_eq_getElem hlt, ru⟩
    · have q : b = it ∨ b = a := by simpa using hb
      exact q.imp id fun z => ⟨_, by rw [z]; exact e⟩
  | s =>
    rename_i z
    obtain ⟨t, rfl⟩ := r
    have D := Draws.text (prog := X.prog) (w := X.w) hh it z t
    have hz : (z.cps.toList.map fun c => V.str ⟨#[c]⟩).length = z.cps.size := by simp
    rw [← hz] at D
    refine ⟨_, _, _, D, tn, fun j v hv => ?_, fun j h st => st, by simp, fun b hb => .inl (by simpa using hb)⟩
    obtain ⟨c, u, hcx, rfl⟩ := hv
    exact ⟨.str ⟨#[c]⟩, by simp [hcx], ⟨u, rfl⟩⟩
/-- iter(source) -/
theorem begins_of {k : Kn} {x : V} {u : Value} {xs : List V} (I : Inv X pins σ H s) (sc : Sc H k x xs) (r : RelV x u) :
    ∃ (o : Obj) (HH : Heap → Prop), Begins u o HH ∧ HH s.heap ∧ ∀ (it : Addr) (h : Heap), h.get? it = some o → TnS it k u 0 h := by
  cases sc with
  | l e =>
    cases r
    obtain ⟨its, rv, p, _⟩ := I.list (.inl (.inl e))
    exact ⟨_, _, begins_list _ its.toArray, p.isList, fun it h e => ⟨_, e, rfl, rfl⟩⟩
  | t e =>
    cases r
    obtain ⟨its, rv, p, _⟩ := I.tuple (.inl (.inl e))
    exact ⟨_, _, begins_tuple _ its.toArray, p, fun it h e => ⟨_, e, rfl, rfl⟩⟩
  | s =>
    obtain ⟨t, rfl⟩ := r
    exact ⟨_, _, begins_text _ t, trivial, fun it h e => ⟨_, e, rfl, rfl⟩⟩
end

/-! ### enumerate -/
def ItE (k : Kn) (x : V) : It :=
  ⟨fun i H => ∃ (xs : List V) (v : V), Sc H k x xs ∧ xs[i]? = some v, fun i H y H' => ∃ T v, y = .ref T ∧ H T = none ∧ H' = L2.upd H T (.tup [.int (i : Nat), v]) ∧ ∀ xs, Sc H k x xs → xs[i]? = some v, fun i H => ∃ xs : List V, Sc H k x xs ∧ xs.length = i⟩
theorem turn_enumE {P : Program} {w : World} {K : PySem.W.Frag} {elts : List Expr} {kk : Nat} {tpos : Pos} (k : Kn) (x : V) (u : Value) (r : RelV x u) (e it : Addr) :
    Turn P w K (.Tuple elts kk tpos) (ItE k x) [e, it] e (fun i h => (∃ old, IsEnum h e it ((i : Nat) : Int) old) ∧ TnS it k u i h ∧ e ≠ it) where
  mem := by simp
  obj := fun i h st b hb => by
    obtain ⟨⟨old, he⟩, ht, _⟩ := st
    have e' : b = e ∨ b = it := by simpa using hb
    rcases e' with z | z
    · rw [z]; exact ⟨_, he, fun v q => nomatch q⟩
    · rw [z]; exact ht.obj
  keep := fun i h h' st kp => let ⟨⟨old, he⟩, hi, hne⟩ := st; ⟨⟨old, kp e (by simp) _ he⟩, hi.at fun o q => kp it (by simp) o q, hne⟩
  item := by
    intro X hP hw hK hc i pins s σ H E I hf st hg
    subst hP hw hK
    obtain ⟨⟨old, he⟩, hit, hne⟩ := st
    obtain ⟨xs, y, sc, hy⟩ := hg
    obtain ⟨fp, Pv, Sv, D, st0, hP, hS, hmem, hfp⟩ := draw_of I hc sc r hit (hf it (by simp)).1
    have hi : i < xs.length := (List.getElem?_eq_some_iff.mp hy).1
    have hel : e < s.heap.objs.size := Heap.lt_size he
    have hil : it < s.heap.objs.size := by obtain ⟨_, q, _⟩ := hit.obj; exact Heap.lt_size q
    have hef : e ∉ fp := fun z => (hfp e z).elim hne fun ⟨o, q⟩ => by rw [(hf e (by simp)).1] at q; cases q
    refine wpAny_pyNext_enum_itemC D he st0 hi hne hef fun v h' tk hv ho st1 hT hsz hk => ?_
    obtain ⟨y', hy', ru⟩ := hP i v hv
    rw [hy] at hy'
    cases hy'
    refine ⟨_, rfl, wpAny_letOwnedTupleGo_enum (s := { s with heap := h', toks := tk + 1 }) ho fun h'' he' sb => ?_⟩
    have hT2 : h''.get? s.heap.objs.size = some { cls := .type "tuple", data := .seq #[.int i tk, v] } := (sb.2 _ (Nat.ne_of_gt hel)).trans hT
    have new : ObjOk X.prog X.w (L2.upd H s.heap.objs.size (.tup [.int (i : Nat), y])) h'' s.heap.objs.size (.tup [.int (i : Nat), y]) :=
      ⟨by show 2 ≤ sizeLine; decide, [.int i tk, v], .cons ⟨_, rfl⟩ (.cons ru .nil), ⟨_, hT2, rfl, _, rfl⟩⟩
    have I1 : Inv X pins σ (L2.upd H s.heap.objs.size (.tup [.int (i : Nat), y])) { s with heap := h'', toks := tk + 1 } :=
      I.turnedNew (ch := [e, it]) (fun b ob hb q => (sb.2 b (fun z => hb (by simp [z]))).trans (hk b ob (fun z => hb (by simp [z])) (fun z => hb (by simp [z])) q)) hf (Nat.le_refl _) new
    refine ⟨.ref s.heap.objs.size, _, I1, rfl, ⟨_, y, rfl, I.hok.fresh (Nat.le_refl _), rfl, fun ys hys => by rw [hys.uniq sc]; exact hy⟩, ⟨⟨v, ?_⟩, (hS _ _ st1).at fun o q => (sb.2 it (Ne.symm hne)).trans q, hne⟩, fun b hb => ?_⟩
    · have e1 : ((i + 1 : Nat) : Int) = (i : Int) + 1 := by omega
      rw [e1]; exact he'
    · have hb' : b < s.heap.objs.size := by
        have e' : b = e ∨ b = it := by simpa using hb
        rcases e' with z | z
        · rw [z]; exact hel
        · rw [z]; exact hil
      rw [upd_ne (Nat.ne_of_lt hb')]
      exact (hf b hb).1
  done := by
    intro X hP hw hK hc i pins s σ H E I hf st hg
    subst hP hw hK
    obtain ⟨⟨old, he⟩, hit, hne⟩ := st
    obtain ⟨xs, sc, rfl⟩ := hg
    obtain ⟨fp, Pv, Sv, D, st0, hP, hS, hmem, hfp⟩ := draw_of I hc sc r hit (hf it (by simp)).1
    obtain ⟨f0, f1, f2, f3, f4, f5⟩ := hf it (by simp)
    exact wpAny_pyNext_enum_endD D he st0 fun h' eb => ⟨rfl, I.turned (t' := s.toks) (fun b o hb q => eb b o hb q) f0 f1 f3 f4 f5⟩
  self := fun A i s Q E st h => let ⟨⟨_, he⟩, _⟩ := st; wpAny_pyIter_enum he h

set_option maxHeartbeats 1000000 in
theorem meets_enumerate_one {v : Value} {o : Obj} {H : Heap → Prop} (B : Begins v o H) :
    Meets (Builtin.«enumerate.__new__» ⟨[.type "enumerate", v], []⟩) (fun _ R s => H s.heap ∧
      R (.ok (.ret (.ref (s.heap.push o).objs.size))) { s with heap := (s.heap.push o).push { cls := .type "enumerate", data := .fields #[.none, .bool false, .ref s.heap.objs.size, rawInt 0, .none, .none] } }) :=
  .of_wp fun prog w A R s h => by
    obtain ⟨hp, g, d, tk, os⟩ := s
    obtain ⟨h1, h⟩ := h
    have hsub := sub_enumerate
    have q1 : ∀ {A' : Around} {E : Value → Shared → Prop} {Q : Value → Shared → Prop}, Q (.ref hp.objs.size) ⟨hp.push o, g, d, tk, os⟩ → wpAny (model prog w) A' (pyIter v) Q E ⟨hp, g, d, tk, os⟩ :=
      fun q => B.iter prog w _ _ ⟨hp, g, d, tk, os⟩ _ h1 q
    wp_walk using q1
    refine wpAny_stack_any fun st => (wpAny_pure ?_)
    split
    · rename_i c _ _ _ _ _
      cases (c == Value.type "enumerate")
      · wp_walk using q1
        exact ⟨_, rfl, h⟩
      · wp_walk using q1
        exact ⟨_, rfl, h⟩
    · wp_walk using q1
      exact ⟨_, rfl, h⟩
theorem enum_one {prog : Program} {w : World} {A : Around} {E : Value → Shared → Prop} {s : Shared} {v : Value} {o : Obj} {H : Heap → Prop} {Q : Value → Shared → Prop} (B : Begins v o H) (h1 : H s.heap)
    (h : ∀ h', IsEnum h' (s.heap.objs.size + 1) s.heap.objs.size 0 .none → h'.get? s.heap.objs.size = some o → h'.objs.size = s.heap.objs.size + 2 →
      (∀ b o, s.heap.get? b = some o → h'.get? b = some o) → Q (.ref (s.heap.objs.size + 1)) { s with heap := h' }) :
    wpAny (model prog w) A (call (.type "enumerate") [v]) Q E s := by
  refine callType_new F.called_enumerate (by decide) (F.typeCall_enumerate_1 _) (F.newCall_enumerate_1 _) (fun obj => F.args_object_init_2 obj _) F.entry_enumerate_new
    (meets_enumerate_one B) ⟨h1, ?_⟩
  have hz : (s.heap.push o).objs.size = s.heap.objs.size + 1 := Heap.size_push ..
  show _ ∧ _
  rw [hz]
  have he : IsEnum ((s.heap.push o).push { cls := .type "enumerate", data := .fields #[.none, .bool false, .ref s.heap.objs.size, rawInt 0, .none, .none] }) (s.heap.objs.size + 1) s.heap.objs.size 0 .none := by
    have := Heap.get?_push_size (s.heap.push o) (o := { cls := .type "enumerate", data := .fields #[.none, .bool false, .ref s.heap.objs.size, rawInt 0, .none, .none] }) rfl
    rw [hz] at this; exact this
  exact ⟨⟨_, he, rfl⟩, h _ he (Heap.get?_push_of_some _ (Heap.get?_push_size _ B.free)) (by rw [Heap.size_push, hz]) fun b o x => Heap.get?_push_of_some _ (Heap.get?_push_of_some _ x)⟩

def iEnumE (ta : TA) : TI := fun σ H R => ta σ H fun vs H1 => ∃ k x xs, vs = [x] ∧ Sc H1 k x xs ∧ R (ItE k x) H1
theorem pi_enumE {X : Cx} {e : Expr} {ta : TA} {p pos tpos : Pos} {elts : List Expr} {kk : Nat} (hg : Gl X "enumerate") (hm : X.mg "enumerate" = none) (ha : PA X [e] ta) (hs : starEach [e] X.env = [(false, eval e X.env)]) :
    PI X (.Tuple elts kk tpos) (.Call (.Name "enumerate" p) [e] [] pos) (iEnumE ta) := by
  refine ⟨fun pins s σ H R I h => ?_⟩
  refine Call_ (ld_blt I hg hm boot_enumerate (PyProof.Rows.callWith_type1 (thn (ha.run pos pins s σ H _ I h) fun us s1 ⟨vs, H1, I1, r1, q1⟩ => ?_) hs rfl))
  obtain ⟨k, x, xs, ex, sc, q⟩ := q1
  subst ex
  cases r1 with
  | cons r rr =>
    cases rr
    obtain ⟨o, HH, B, h1, ht⟩ := begins_of I1 sc r
    refine enum_one B h1 fun h' he hit hsz hk => wpAny_pyIter_enum he ?_
    have I2 : Inv X pins σ H1 { s1 with heap := h' } := I1.kept (t' := s1.toks) hk
    refine ⟨s1.heap.objs.size + 1, [s1.heap.objs.size + 1, s1.heap.objs.size], _, _, H1, rfl, I2, turn_enumE k x _ r (s1.heap.objs.size + 1) s1.heap.objs.size, ⟨⟨.none, he⟩, ht _ _ hit, Nat.succ_ne_self _⟩, fun b hb => ?_, q⟩
    have e' : b = s1.heap.objs.size + 1 ∨ b = s1.heap.objs.size := by simpa using hb
    have hle : s1.heap.objs.size ≤ b := by
      rcases e' with z | z
      · rw [z]; exact Nat.le_add_right _ _
      · rw [z]; exact Nat.le_refl _
    exact I1.fpOk hle (I1.hok.fresh hle)

/-! ### zip of two -/
def ItZ (k l : Kn) (x y : V) : It :=
  ⟨fun i H => ∃ (xs ys : List V) (v w : V), Sc H k x xs ∧ Sc H l y ys ∧ xs[i]? = some v ∧ ys[i]? = some w,
    fun i H z H' => ∃ T v w, z = .ref T ∧ H T = none ∧ H' = L2.upd H T (.tup [v, w]) ∧ (∀ xs, Sc H k x xs → xs[i]? = some v) ∧ ∀ ys, Sc H l y ys → ys[i]? = some w,
    fun i H => ∃ xs ys : List V, Sc H k x xs ∧ Sc H l y ys ∧ i = min xs.length ys.length⟩
theorem turn_zipZ {P : Program} {w : World} {K : PySem.W.Frag} {elts : List Expr} {kk : Nat} {tpos : Pos} {k l : Kn} {x y : V} {u v : Value} (rx : RelV x u) (ry : RelV y v) {z TI TO i1 i2 : Addr} (D0 : ∀ fp1 fp2 : List Addr, (∀ b ∈ fp1, b = i1 ∨ b ∉ [z, TI, TO, i1, i2]) → (∀ b ∈ fp2, b = i2 ∨ b ∉ [z, TI, TO, i1, i2]) → i1 ∈ fp1 → i2 ∈ fp2 → ZipSep2 z TI TO i1 i2 fp1 fp2) :
    Turn P w K (.Tuple elts kk tpos) (ItZ k l x y) [z, TI, TO, i1, i2] z (fun i h => IsZip h z TI TO .none ∧ IsTupOf2 h TI (.ref i1) (.ref i2) ∧ (∃ a b, IsTupOf2 h TO a b) ∧ TnS i1 k u i h ∧ TnS i2 l v i h) where
  mem := by simp
  obj := fun i h st c hc => by
    obtain ⟨hz, hTI, ⟨a, b, hTO⟩, h1, h2⟩ := st
    have e' : c = z ∨ c = TI ∨ c = TO ∨ c = i1 ∨ c = i2 := by simpa using hc
    rcases e' with q | q | q | q | q
    · rw [q]; exact ⟨_, hz, fun v q => nomatch q⟩
    · rw [q]; exact ⟨_, hTI, fun v q => nomatch q⟩
    · rw [q]; exact ⟨_, hTO, fun v q => nomatch q⟩
    · rw [q]; exact h1.obj
    · rw [q]; exact h2.obj
  keep := fun i h h' st kp => by
    obtain ⟨hz, hTI, ⟨a, b, hTO⟩, h1, h2⟩ := st
    exact ⟨kp z (by simp) _ hz, kp TI (by simp) _ hTI, ⟨a, b, kp TO (by simp) _ hTO⟩, h1.at fun o q => kp i1 (by simp) o q, h2.at fun o q => kp i2 (by simp) o q⟩
  item := by
    intro X hP hw hK hc i pins s σ H E I hf st hg
    subst hP hw hK
    obtain ⟨hz, hTI, ⟨x0, y0, hTO⟩, h1, h2⟩ := st
    obtain ⟨xs, ys, a, b, sx, sy, hx, hy⟩ := hg
    obtain ⟨fp1, P1, S1, D1, st1, hP1, hS1, hm1, hfp1⟩ := draw_of I hc sx rx h1 (hf i1 (by simp)).1
    obtain ⟨fp2, P2, S2, D2, st2, hP2, hS2, hm2, hfp2⟩ := draw_of I hc sy ry h2 (hf i2 (by simp)).1
    have S := D0 fp1 fp2 (fun b hb => (hfp1 b hb).imp id fun ⟨o, q⟩ z => by rw [(hf b z).1] at q; cases q) (fun b hb => (hfp2 b hb).imp id fun ⟨o, q⟩ z => by rw [(hf b z).1] at q; cases q) hm1 hm2
    have hi1 : i < xs.length := (List.getElem?_eq_some_iff.mp hx).1
    have hi2 : i < ys.length := (List.getElem?_eq_some_iff.mp hy).1
    have hzl : z < s.heap.objs.size := Heap.lt_size hz
    refine wpAny_pyNext_zipD2_item S D1 D2 hz hTI hTO st1 st2 hi1 hi2 fun p q h' tk hp hq z' TO' st1' st2' hT hsz hk => ?_
    obtain ⟨a', ha', ra⟩ := hP1 i p hp
    rw [hx] at ha'
    cases ha'
    obtain ⟨b', hb', rb⟩ := hP2 i q hq
    rw [hy] at hb'
    cases hb'
    refine ⟨_, rfl, wpAny_letOwnedTupleGo_zip (s := { s with heap := h', toks := tk }) z' fun h'' z'' sb => ?_⟩
    have hT2 : h''.get? s.heap.objs.size = some { cls := .type "tuple", data := .seq #[p, q] } := (sb.2 _ (Nat.ne_of_gt hzl)).trans hT
    have new : ObjOk X.prog X.w (L2.upd H s.heap.objs.size (.tup [a, b])) h'' s.heap.objs.size (.tup [a, b]) :=
      ⟨by show 2 ≤ sizeLine; decide, [p, q], .cons ra (.cons rb .nil), ⟨_, hT2, rfl, _, rfl⟩⟩
    have I1 : Inv X pins σ (L2.upd H s.heap.objs.size (.tup [a, b])) { s with heap := h'', toks := tk } :=
      I.turnedNew (ch := [z, TI, TO, i1, i2]) (fun c o hb q => (sb.2 c (fun q' => hb (by simp [q']))).trans (hk c o (fun q' => hb (by simp [q'])) (fun q' => hb (by simp [q'])) (fun q' => hb (by simp [q'])) (fun q' => hb (by simp [q'])) q)) hf (Nat.le_refl _) new
    refine ⟨.ref s.heap.objs.size, _, I1, rfl, ⟨_, a, b, rfl, I.hok.fresh (Nat.le_refl _), rfl, fun l hl => by rw [hl.uniq sx]; exact hx, fun l hl => by rw [hl.uniq sy]; exact hy⟩, ⟨z'', ?_, ⟨p, q, ?_⟩, ?_, ?_⟩, fun c hcm => ?_⟩
    · exact (sb.2 _ S.TIz).trans (hk _ _ S.TIz S.TITO S.TIi1 S.TIi2 hTI)
    · exact (sb.2 _ S.TOz).trans TO'
    · exact (hS1 _ _ st1').at fun o q => (sb.2 _ (Ne.symm S.zi1)).trans q
    · exact (hS2 _ _ st2').at fun o q => (sb.2 _ (Ne.symm S.zi2)).trans q
    · have hlt : c < s.heap.objs.size := by
        have e' : c = z ∨ c = TI ∨ c = TO ∨ c = i1 ∨ c = i2 := by simpa using hcm
        rcases e' with q | q | q | q | q
        · rw [q]; exact hzl
        · rw [q]; exact Heap.lt_size hTI
        · rw [q]; exact Heap.lt_size hTO
        · rw [q]; obtain ⟨_, e1, _⟩ := h1.obj; exact Heap.lt_size e1
        · rw [q]; obtain ⟨_, e2, _⟩ := h2.obj; exact Heap.lt_size e2
      rw [upd_ne (Nat.ne_of_lt hlt)]
      exact (hf c hcm).1
  done := by
    intro X hP hw hK hc i pins s σ H E I hf st hg
    subst hP hw hK
    obtain ⟨hz, hTI, ⟨x0, y0, hTO⟩, h1, h2⟩ := st
    obtain ⟨xs, ys, sx, sy, hend⟩ := hg
    obtain ⟨fp1, P1, S1, D1, st1, hP1, hS1, hm1, hfp1⟩ := draw_of I hc sx rx h1 (hf i1 (by simp)).1
    obtain ⟨fp2, P2, S2, D2, st2, hP2, hS2, hm2, hfp2⟩ := draw_of I hc sy ry h2 (hf i2 (by simp)).1
    have S := D0 fp1 fp2 (fun b hb => (hfp1 b hb).imp id fun ⟨o, q⟩ z => by rw [(hf b z).1] at q; cases q) (fun b hb => (hfp2 b hb).imp id fun ⟨o, q⟩ z => by rw [(hf b z).1] at q; cases q) hm1 hm2
    exact wpAny_pyNext_zipD2_end S D1 D2 hz hTI hTO st1 st2 (by omega) (by omega) (by omega) fun h' tk hk => ⟨rfl, I.turnedL (t' := tk) (ch := [z, TI, TO, i1, i2]) (fun c o hb q =>
      hk c o (fun q' => hb (by simp [q'])) (fun q' => hb (by simp [q'])) (fun q' => hb (by simp [q'])) (fun q' => hb (by simp [q'])) q) hf⟩
  self := fun A i s Q E st h => wpAny_pyIter_zip st.1 h
theorem sep2_of (N : Nat) (fp1 fp2 : List Addr) (h1 : ∀ b ∈ fp1, b = N ∨ b ∉ [N + 4, N + 2, N + 3, N, N + 1]) (h2 : ∀ b ∈ fp2, b = N + 1 ∨ b ∉ [N + 4, N + 2, N + 3, N, N + 1]) (m1 : N ∈ fp1) (m2 : N + 1 ∈ fp2) : ZipSep2 (N + 4) (N + 2) (N + 3) N (N + 1) fp1 fp2 := by
  have f1 : ∀ j : Nat, j ∈ [1, 2, 3, 4] → N + j ∉ fp1 := fun j hj z => by
    rcases h1 _ z with q | q
    · have q : (N + j : Nat) = N := q
      have : j = 1 ∨ j = 2 ∨ j = 3 ∨ j = 4 := by simpa using hj
      omega
    · have : j = 1 ∨ j = 2 ∨ j = 3 ∨ j = 4 := by simpa using hj
      rcases this with rfl | rfl | rfl | rfl <;> exact q (by simp)
  have f2 : ∀ j : Nat, j ∈ [0, 2, 3, 4] → N + j ∉ fp2 := fun j hj z => by
    rcases h2 _ z with q | q
    · have q : (N + j : Nat) = N + 1 := q
      have : j = 0 ∨ j = 2 ∨ j = 3 ∨ j = 4 := by simpa using hj
      omega
    · have : j = 0 ∨ j = 2 ∨ j = 3 ∨ j = 4 := by simpa using hj
      rcases this with rfl | rfl | rfl | rfl <;> exact q (by simp)
  exact { TIz := show (N + 2 : Nat) ≠ N + 4 by omega, TOz := show (N + 3 : Nat) ≠ N + 4 by omega, TITO := show (N + 2 : Nat) ≠ N + 3 by omega, TIi1 := show (N + 2 : Nat) ≠ N by omega, mem1 := m1, zf1 := f1 4 (by simp), Tf1 := f1 3 (by simp),
          TIi2 := show (N + 2 : Nat) ≠ N + 1 by omega, mem2 := m2, zf2 := f2 4 (by simp), Tf2 := f2 3 (by simp), sep1_2 := f2 0 (by simp), sep2_1 := f1 1 (by simp) }

def iZipZ (ta : TA) : TI := fun σ H R => ta σ H fun vs H1 => ∃ k l x y xs ys, vs = [x, y] ∧ Sc H1 k x xs ∧ Sc H1 l y ys ∧ R (ItZ k l x y) H1
theorem pi_zipZ {X : Cx} {e e2 : Expr} {ta : TA} {p pos tpos : Pos} {elts : List Expr} {kk : Nat} (hg : Gl X "zip") (hm : X.mg "zip" = none) (ha : PA X [e, e2] ta)
    (hs : starEach [e, e2] X.env = (false, eval e X.env) :: starEach [e2] X.env) (hpl : (backTo pos (starEach [e2] X.env)).any (·.1) = false) :
    PI X (.Tuple elts kk tpos) (.Call (.Name "zip" p) [e, e2] [] pos) (iZipZ ta) := by
  refine ⟨fun pins s σ H R I h => ?_⟩
  refine Call_ (ld_blt I hg hm PyProof.Rows.boot_zip (PyProof.Rows.callWith_type1 (thn (ha.run pos pins s σ H _ I h) fun us s1 ⟨vs, H1, I1, r1, q1⟩ => ?_) hs hpl))
  obtain ⟨k, l, x, y, xs, ys, ex, sx, sy, q⟩ := q1
  subst ex
  cases r1 with
  | cons r rr =>
    cases rr with
    | cons r' rr =>
      cases rr
      obtain ⟨o1, HH1, B1, b1, t1⟩ := begins_of I1 sx r
      obtain ⟨o2, HH2, B2, b2, t2⟩ := begins_of I1 sy r'
      refine zip_begins2 B1 B2 b1 b2 fun h' hz hTI hTO h1 h2 hsz hk => wpAny_pyIter_zip hz ?_
      have I2 : Inv X pins σ H1 { s1 with heap := h' } := I1.kept (t' := s1.toks) hk
      refine ⟨s1.heap.objs.size + 4, [s1.heap.objs.size + 4, s1.heap.objs.size + 2, s1.heap.objs.size + 3, s1.heap.objs.size, s1.heap.objs.size + 1], _, _, H1, rfl, I2, turn_zipZ r r' (sep2_of s1.heap.objs.size), ⟨hz, hTI, ⟨_, _, hTO⟩, t1 _ _ h1, t2 _ _ h2⟩, fun c hcm => ?_, q⟩
      have e' : c = s1.heap.objs.size + 4 ∨ c = s1.heap.objs.size + 2 ∨ c = s1.heap.objs.size + 3 ∨ c = s1.heap.objs.size ∨ c = s1.heap.objs.size + 1 := by simpa using hcm
      have hle : s1.heap.objs.size ≤ c := by
        rcases e' with z | z | z | z | z
        · rw [z]; exact Nat.le_add_right _ _
        · rw [z]; exact Nat.le_add_right _ _
        · rw [z]; exact Nat.le_add_right _ _
        · rw [z]; exact Nat.le_refl _
        · rw [z]; exact Nat.le_add_right _ _
      exact I1.fpOk hle (I1.hok.fresh hle)

/-! ### a sequence by itself -/
inductive ItQ (K : W.Frag) : Kn → V → It → Prop
  | l (a : Addr) : ItQ K .l (.ref a) (Itl K a)
  | t (a : Addr) : ItQ K .t (.ref a) (Itt K a)
  | s (z : Str) : ItQ K .s (.str z) (Its z)
def iSq (K : W.Frag) (te : TE) : TI := fun σ H R => te σ H fun x H1 => ∃ k xs J, Sc H1 k x xs ∧ ItQ K k x J ∧ R J H1
theorem pi_sq {X : Cx} {tg l : Expr} {tl : TE} (hl : PE X l tl) : PI X tg l (iSq X.K tl) := by
  refine ⟨fun pins s σ H R I h => ?_⟩
  refine thn (hl.run pins s σ H _ I h) fun v s1 ⟨x, H1, I1, r1, k, xs, J, sc, jq, q⟩ => ?_
  cases jq with
  | l a =>
    cases r1
    cases sc with | l e => ?_
    obtain ⟨its, rv, p, hz⟩ := I1.list (.inl (.inl e))
    exact wpAny_pyIter_list p.isList (pi_one (tk := s1.toks) I1 _ (turn_list a _) ⟨_, Heap.get?_push_size _ rfl, rfl, rfl⟩ q)
  | t a =>
    cases r1
    cases sc with | t e => ?_
    obtain ⟨its, rv, p, hz⟩ := I1.tuple (.inl (.inl e))
    exact wpAny_pyIter_tuple (show s1.heap.IsTuple a its.toArray from p) (pi_one (tk := s1.toks) I1 _ (turn_tuple a _) ⟨_, Heap.get?_push_size _ rfl, rfl, rfl⟩ q)
  | s z =>
    obtain ⟨t, rfl⟩ := r1
    cases ha : z.cps.all (· < 128)
    · exact wpAny_pyIter_wide ha (pi_one (tk := s1.toks) I1 _ (turn_str _ z t "str_iterator" (.inr rfl)) ⟨_, Heap.get?_push_size _ rfl, rfl, rfl⟩ q)
    · exact wpAny_pyIter_ascii ha (pi_one (tk := s1.toks) I1 _ (turn_str _ z t "str_ascii_iterator" (.inl rfl)) ⟨_, Heap.get?_push_size _ rfl, rfl, rfl⟩ q)
end Py
end

section
/-! PyEz: enumerate over a zip of two. -/
namespace Py
open PySem L2 PyProof.Rows

abbrev IsZipG (h : Heap) (z TI TO : Addr) (f0 : Value) (fl : Bool) : Prop :=
  h.get? z = some { cls := .type "zip", dict := none, data := .fields #[f0, .bool fl, .bool false, .ref TI, .ref TO], slots := #[] }
def FOk (f0 : Value) : Prop := f0 = .none ∨ ∃ T : Int, f0 = rawInt T
section
variable {prog : Program} {w : World} {A : Around} {E : Value → Shared → Prop} {s : Shared}
theorem wpAny_lia {M : Model} {a : Addr} {Q : Option Obj → Shared → Prop} (h : Q (s.heap.get? a) s) : wpAny M A (loadIfAlive a) Q E s := fun Γ p hΓ => by
  unfold loadIfAlive
  rw [Sem.wp_loadIfAlive]
  exact wpAny_pure (M := M) (A := A) (E := E) h Γ p hΓ
theorem own_free {z TI TO : Addr} {f0 : Value} {fl : Bool} {Q : Bool → Shared → Prop} (hz : IsZipG s.heap z TI TO f0 fl) (hf : FOk f0) (h1 : Q true s) (h2 : ∀ h', IsZipG h' z TI TO f0 true → Heap.SameBut z s.heap h' → Q false { s with heap := h' }) :
    wpAny (model prog w) A (Builtin.SmallTypes.ownedTupleIsFree (.ref z)) Q E s := by
  unfold Builtin.SmallTypes.ownedTupleIsFree
  rcases hf with rfl | ⟨T, rfl⟩
  · exact wpAny_bind (wpAny_field hz rfl (x := .none) rfl (wpAny_pure h1))
  · refine wpAny_bind (wpAny_field hz rfl (x := rawInt T) rfl ?_)
    show wpAny _ _ (do
      if (← loadIfAlive T.toNat).isNone then return true
      if (← field (.ref z) 1) != .bool true then setField (.ref z) 1 (.bool true)
      return false) _ _ _
    refine wpAny_bind (wpAny_lia ?_)
    cases s.heap.get? T.toNat with
    | none => exact wpAny_pure h1
    | some o =>
      show wpAny _ _ (do
        if (← field (.ref z) 1) != .bool true then setField (.ref z) 1 (.bool true)
        return false) _ _ _
      refine wpAny_bind (wpAny_field hz rfl (x := .bool fl) rfl ?_)
      cases fl with
      | true => exact wpAny_pure (h2 s.heap hz (Heap.SameBut.refl _ _))
      | false => exact wpAny_bind (wpAny_setField_rec hz (by simp) fun h' hz' hs' => wpAny_pure (h2 h' hz' hs'))
end
section
variable {prog : Program} {w : World} {A : Around} {E : Value → Shared → Prop} {s : Shared} {z TI TO i1 i2 : Addr} {fp1 fp2 : List Addr} {n1 n2 i : Nat} {P1 P2 : Nat → Value → Prop} {St1 St2 : Nat → Heap → Prop} {a1 a2 f0 : Value} {fl : Bool}
theorem zipG_next_item {Q : Value → Shared → Prop} (S : ZipSep2 z TI TO i1 i2 fp1 fp2) (D1 : Draws prog w A i1 fp1 n1 P1 St1) (D2 : Draws prog w A i2 fp2 n2 P2 St2)
    (hz : IsZipG s.heap z TI TO f0 fl) (hf : FOk f0) (hTI : IsTupOf2 s.heap TI (.ref i1) (.ref i2)) (hTO : IsTupOf2 s.heap TO a1 a2) (st1 : St1 i s.heap) (st2 : St2 i s.heap) (hlt1 : i < n1) (hlt2 : i < n2)
    (hQ : ∀ x1 x2 h' tk f0' fl' b1 b2, P1 i x1 → P2 i x2 → FOk f0' → IsZipG h' z TI TO f0' fl' → IsTupOf2 h' TO b1 b2 → St1 (i + 1) h' → St2 (i + 1) h' → IsTupOf2 h' s.heap.objs.size x1 x2 → h'.objs.size = s.heap.objs.size + 1 →
      (∀ c o, c ≠ z → c ≠ TO → c ≠ i1 → c ≠ i2 → s.heap.get? c = some o → h'.get? c = some o) → Q (.ref s.heap.objs.size) { s with heap := h', toks := tk }) :
    wpAny (model prog w) A (Builtin.«zip.__next__» ⟨[.ref z], []⟩) (fun fin s' => ∃ v, fin = .done (.ret v) ∧ Q v s') E s := by
  obtain ⟨hp, g, d, tk0, os⟩ := s
  show wpAny _ _ (field (.ref z) 2 >>= _) _ _ _
  refine wpAny_bind (wpAny_field hz rfl (x := .bool false) rfl ?_)
  show wpAny _ _ (field (.ref z) 3 >>= _) _ _ _
  refine wpAny_bind (wpAny_field hz rfl (x := .ref TI) rfl ?_)
  refine wpAny_bind (wpAny_seqItems hTI rfl ?_)
  show wpAny _ _ (Builtin.SmallTypes.ownedTupleIsFree (.ref z) >>= _) _ _ _
  refine wpAny_bind (own_free hz hf ?_ fun g0 hz0 hs0 => ?_)
  · simp only [if_true]
    refine wpAny_bind (wpAny_rule ?_)
    refine wpAny_bind (wpAny_field hz rfl (x := .ref TO) rfl ?_)
    refine wpAny_bind (wpAny_setField_rec hz (by simp) fun g0 hz0 hs0 => ?_)
    replace hz0 : IsZipG g0 z TI TO .ellipsis fl := hz0
    replace hs0 : Heap.SameBut z hp g0 := hs0
    refine wpAny_bind ?_
    simp only [List.zipIdx_cons, List.zipIdx_nil, List.forIn_cons, List.forIn_nil]
    refine wpAny_bind (wpAny_bind (wpAny_onRaise ?_))
    show wpAny _ _ (Builtin.SmallTypes.nextOf (.ref i1) >>= _) _ _ ⟨g0, g, d, tk0, os⟩
    refine wpAny_bind (D1.item i _ _ _ hlt1 (D1.over st1 hs0 S.zf1) fun x1 p1 tk1 hx1 sn1 hp1 => wpAny_pure ?_)
    replace hp1 : Heap.SameBut i1 g0 p1 := hp1
    have hU1 : IsTupOf2 p1 TO a1 a2 := hp1.extBut _ _ S.Ti1 (hs0.extBut _ _ S.TOz hTO)
    refine wpAny_bind (wpAny_seqItems (s := ⟨p1, g, d, tk1, os⟩) hU1 rfl ?_)
    refine wpAny_bind (updateSeq_IsTupOf2 (s := ⟨p1, g, d, tk1, os⟩) hU1 fun g1 hT1 hs1 => ?_)
    replace hT1 : IsTupOf2 g1 TO x1 a2 := hT1
    replace hs1 : Heap.SameBut TO p1 g1 := hs1
    refine wpAny_bind (wpAny_letGo (wpAny_pure ?_))
    refine wpAny_bind (wpAny_bind (wpAny_onRaise ?_))
    show wpAny _ _ (Builtin.SmallTypes.nextOf (.ref i2) >>= _) _ _ ⟨g1, g, d, tk1, os⟩
    refine wpAny_bind (D2.item i _ _ _ hlt2 (D2.over (D2.over (D2.over st2 hs0 S.zf2) hp1 S.sep1_2) hs1 S.Tf2) fun x2 p2 tk2 hx2 sn2 hp2 => wpAny_pure ?_)
    replace hp2 : Heap.SameBut i2 g1 p2 := hp2
    have hU2 : IsTupOf2 p2 TO x1 a2 := hp2.extBut _ _ S.Ti2 hT1
    refine wpAny_bind (wpAny_seqItems (s := ⟨p2, g, d, tk2, os⟩) hU2 rfl ?_)
    refine wpAny_bind (updateSeq_IsTupOf2 (s := ⟨p2, g, d, tk2, os⟩) hU2 fun g2 hT2 hs2 => ?_)
    replace hT2 : IsTupOf2 g2 TO x1 x2 := hT2
    replace hs2 : Heap.SameBut TO p2 g2 := hs2
    refine wpAny_bind (wpAny_letGo (wpAny_pure (wpAny_pure ?_)))
    refine wpAny_bind (wpAny_seqItems (s := ⟨g2, g, d, tk2, os⟩) hT2 rfl ?_)
    refine wpAny_bind (wpAny_newTuple ?_)
    have hsz : g2.objs.size = hp.objs.size := by rw [hs2.1, hp2.1, hs1.1, hp1.1, hs0.1]
    have hzz : IsZipG g2 z TI TO .ellipsis fl := (hs2.extBut _ _ S.TOz.symm (hp2.extBut _ _ S.zi2 (hs1.extBut _ _ S.TOz.symm (hp1.extBut _ _ S.zi1 hz0))))
    have hkk : ∀ c o, c ≠ z → c ≠ TO → c ≠ i1 → c ≠ i2 → hp.get? c = some o → g2.get? c = some o := fun c o cz cT c1 c2 e =>
      (hs2.extBut _ _ cT (hp2.extBut _ _ c2 (hs1.extBut _ _ cT (hp1.extBut _ _ c1 (hs0.extBut _ _ cz e)))))
    have hj1 : St1 (i + 1) g2 := (D1.over (D1.over (D1.over sn1 hs1 S.Tf1) hp2 S.sep2_1) hs2 S.Tf1)
    have hj2 : St2 (i + 1) g2 := (D2.over sn2 hs2 S.Tf2)
    have hzlt : z < g2.objs.size := Heap.lt_size hzz
    show wpAny _ _ (Builtin.SmallTypes.ownedTupleHandOut (.ref z) (.ref g2.objs.size) >>= _) _ _ ⟨g2.push { cls := .type "tuple", data := .seq #[x1, x2] }, g, d, tk2, os⟩
    refine wpAny_bind ?_
    unfold Builtin.SmallTypes.ownedTupleHandOut
    have hz₆ : IsZipG (g2.push { cls := .type "tuple", data := .seq #[x1, x2] }) z TI TO .ellipsis fl := Heap.get?_push_of_some _ hzz
    refine wpAny_bind (wpAny_setField_rec hz₆ (by simp) fun h₇ hz₇ hs₇ => ?_)
    replace hz₇ : IsZipG h₇ z TI TO (rawInt g2.objs.size) fl := hz₇
    refine wpAny_setField_rec hz₇ (by simp) fun h₈ hz₈ hs₈ => ?_
    replace hz₈ : IsZipG h₈ z TI TO (rawInt g2.objs.size) false := hz₈
    replace hs₇ : Heap.SameBut z (g2.push { cls := .type "tuple", data := .seq #[x1, x2] }) h₇ := hs₇
    replace hs₈ : Heap.SameBut z h₇ h₈ := hs₈
    have up : ∀ c o, c ≠ z → g2.get? c = some o → h₈.get? c = some o := fun c o c1 e => hs₈.extBut _ _ c1 (hs₇.extBut _ _ c1 (Heap.get?_push_of_some _ e))
    have hT₈ : IsTupOf2 h₈ g2.objs.size x1 x2 := hs₈.extBut _ _ (Nat.ne_of_gt hzlt) (hs₇.extBut _ _ (Nat.ne_of_gt hzlt) (Heap.get?_push_size _ rfl))
    have hz8 : h₈.objs.size = g2.objs.size + 1 := by rw [hs₈.1, hs₇.1, Heap.size_push]
    rw [hsz] at hz₈ hT₈ hz8
    refine wpAny_pure ⟨_, rfl, ?_⟩
    show Q (.ref g2.objs.size) ⟨h₈, g, d, tk2, os⟩
    rw [hsz]
    exact hQ x1 x2 h₈ tk2 _ _ _ _ hx1 hx2 (.inr ⟨_, rfl⟩) hz₈ (up _ _ S.TOz hT2) (D1.frame _ _ _ hj1 fun b hb o e => up b o (fun q => S.zf1 (q ▸ hb)) e) (D2.frame _ _ _ hj2 fun b hb o e => up b o (fun q => S.zf2 (q ▸ hb)) e) hT₈ hz8 fun c o cz cT c1 c2 e => up c o cz (hkk c o cz cT c1 c2 e)
  · replace hs0 : Heap.SameBut z hp g0 := hs0
    simp only [Bool.false_eq_true, if_false, List.forIn_toArray, List.forIn_cons, List.forIn_nil]
    refine wpAny_bind (wpAny_bind (wpAny_bind (wpAny_holding ?_)))
    show wpAny _ _ (Builtin.SmallTypes.nextOf (.ref i1) >>= _) _ _ ⟨g0, g, d, tk0, os⟩
    refine wpAny_bind (D1.item i _ _ _ hlt1 (D1.over st1 hs0 S.zf1) fun x1 p1 tk1 hx1 sn1 hp1 => wpAny_pure (wpAny_pure ?_))
    replace hp1 : Heap.SameBut i1 g0 p1 := hp1
    refine wpAny_bind (wpAny_bind (wpAny_holding ?_))
    show wpAny _ _ (Builtin.SmallTypes.nextOf (.ref i2) >>= _) _ _ ⟨p1, g, d, tk1, os⟩
    refine wpAny_bind (D2.item i _ _ _ hlt2 (D2.over (D2.over st2 hs0 S.zf2) hp1 S.sep1_2) fun x2 p2 tk2 hx2 sn2 hp2 => wpAny_pure (wpAny_pure (wpAny_pure ?_)))
    replace hp2 : Heap.SameBut i2 p1 p2 := hp2
    refine wpAny_bind (wpAny_newTuple ?_ (by simp [sizeLine]))
    have hsz : p2.objs.size = hp.objs.size := by rw [hp2.1, hp1.1, hs0.1]
    have up : ∀ c o, p2.get? c = some o → (p2.push { cls := .type "tuple", data := .seq #[x1, x2] }).get? c = some o := fun c o e => Heap.get?_push_of_some _ e
    have hkk : ∀ c o, c ≠ z → c ≠ i1 → c ≠ i2 → hp.get? c = some o → p2.get? c = some o := fun c o cz c1 c2 e => hp2.extBut _ _ c2 (hp1.extBut _ _ c1 (hs0.extBut _ _ cz e))
    have hzz : IsZipG p2 z TI TO f0 true := hp2.extBut _ _ S.zi2 (hp1.extBut _ _ S.zi1 hz0)
    have hj1 : St1 (i + 1) p2 := D1.over sn1 hp2 S.sep2_1
    have hT : IsTupOf2 (p2.push { cls := .type "tuple", data := .seq #[x1, x2] }) p2.objs.size x1 x2 := Heap.get?_push_size _ rfl
    have hpz : (p2.push { cls := .type "tuple", data := .seq #[x1, x2] }).objs.size = p2.objs.size + 1 := by rw [Heap.size_push]
    rw [hsz] at hT hpz
    refine wpAny_pure ⟨_, rfl, ?_⟩
    show Q (.ref p2.objs.size) ⟨p2.push { cls := .type "tuple", data := .seq #[x1, x2] }, g, d, tk2, os⟩
    rw [hsz]
    exact hQ x1 x2 _ tk2 _ _ _ _ hx1 hx2 hf (up _ _ hzz) (up _ _ (hkk _ _ S.TOz S.Ti1 S.Ti2 hTO)) (D1.frame _ _ _ hj1 fun b hb o e => up b o e) (D2.frame _ _ _ sn2 fun b hb o e => up b o e) hT hpz fun c o cz cT c1 c2 e => up c o (hkk c o cz c1 c2 e)
theorem zipG_next_end {Q : PySem.Fin → Shared → Prop} (S : ZipSep2 z TI TO i1 i2 fp1 fp2) (D1 : Draws prog w A i1 fp1 n1 P1 St1) (D2 : Draws prog w A i2 fp2 n2 P2 St2)
    (hz : IsZipG s.heap z TI TO f0 fl) (hf : FOk f0) (hTI : IsTupOf2 s.heap TI (.ref i1) (.ref i2)) (hTO : IsTupOf2 s.heap TO a1 a2) (st1 : St1 i s.heap) (st2 : St2 i s.heap) (hle1 : i ≤ n1) (hle2 : i ≤ n2) (hend : i = n1 ∨ i = n2)
    (hE : ∀ h' tk e, (∀ c o, c ≠ z → c ≠ TO → c ≠ i1 → c ≠ i2 → s.heap.get? c = some o → h'.get? c = some o) → (∃ o, h'.get? e = some o ∧ o.cls = .type "StopIteration") → E (.ref e) { s with heap := h', toks := tk }) :
    wpAny (model prog w) A (Builtin.«zip.__next__» ⟨[.ref z], []⟩) Q E s := by
  obtain ⟨hp, g, d, tk0, os⟩ := s
  show wpAny _ _ (field (.ref z) 2 >>= _) _ _ _
  refine wpAny_bind (wpAny_field hz rfl (x := .bool false) rfl ?_)
  show wpAny _ _ (field (.ref z) 3 >>= _) _ _ _
  refine wpAny_bind (wpAny_field hz rfl (x := .ref TI) rfl ?_)
  refine wpAny_bind (wpAny_seqItems hTI rfl ?_)
  show wpAny _ _ (Builtin.SmallTypes.ownedTupleIsFree (.ref z) >>= _) _ _ _
  refine wpAny_bind (own_free hz hf ?_ fun g0 hz0 hs0 => ?_)
  · simp only [if_true]
    refine wpAny_bind (wpAny_rule ?_)
    refine wpAny_bind (wpAny_field hz rfl (x := .ref TO) rfl ?_)
    refine wpAny_bind (wpAny_setField_rec hz (by simp) fun g0 hz0 hs0 => ?_)
    replace hz0 : IsZipG g0 z TI TO .ellipsis fl := hz0
    replace hs0 : Heap.SameBut z hp g0 := hs0
    refine wpAny_bind ?_
    simp only [List.zipIdx_cons, List.zipIdx_nil, List.forIn_cons, List.forIn_nil]
    refine wpAny_bind (wpAny_bind (wpAny_onRaise ?_))
    show wpAny _ _ (Builtin.SmallTypes.nextOf (.ref i1) >>= _) _ _ ⟨g0, g, d, tk0, os⟩
    by_cases hlt1 : i < n1
    · refine wpAny_bind (D1.item i _ _ _ hlt1 (D1.over st1 hs0 S.zf1) fun x1 p1 tk1 hx1 sn1 hp1 => wpAny_pure ?_)
      replace hp1 : Heap.SameBut i1 g0 p1 := hp1
      have hU1 : IsTupOf2 p1 TO a1 a2 := hp1.extBut _ _ S.Ti1 (hs0.extBut _ _ S.TOz hTO)
      refine wpAny_bind (wpAny_seqItems (s := ⟨p1, g, d, tk1, os⟩) hU1 rfl ?_)
      refine wpAny_bind (updateSeq_IsTupOf2 (s := ⟨p1, g, d, tk1, os⟩) hU1 fun g1 hT1 hs1 => ?_)
      replace hT1 : IsTupOf2 g1 TO x1 a2 := hT1
      replace hs1 : Heap.SameBut TO p1 g1 := hs1
      refine wpAny_bind (wpAny_letGo (wpAny_pure ?_))
      have hi2 : i = n2 := by omega
      refine wpAny_bind (wpAny_bind (wpAny_onRaise ?_))
      show wpAny _ _ (Builtin.SmallTypes.nextOf (.ref i2) >>= _) _ _ ⟨g1, g, d, tk1, os⟩
      refine wpAny_bind (D2.done ⟨g1, g, d, tk1, os⟩ _ _ (by rw [← hi2]; exact (D2.over (D2.over (D2.over st2 hs0 S.zf2) hp1 S.sep1_2) hs1 S.Tf2)) fun q e hq he => ?_)
      replace hq : Heap.ExtBut i2 g1 q := hq
      obtain ⟨oe, hoe, hce⟩ := he
      replace hoe : q.get? e = some oe := hoe
      have hzq : IsZipG q z TI TO .ellipsis fl := hq _ _ S.zi2 (hs1.extBut _ _ S.TOz.symm (hp1.extBut _ _ S.zi1 hz0))
      have hez : e ≠ z := fun x => by subst x; rw [hzq] at hoe; cases hoe; simp at hce
      refine wpAny_setField_rec (s := ⟨q, g, d, tk1, os⟩) hzq (by simp) fun q' _ hq' => ?_
      replace hq' : Heap.SameBut z q q' := hq'
      exact hE q' tk1 e (fun c o cz cT c1 c2 x => hq'.extBut _ _ cz (hq _ _ c2 (hs1.extBut _ _ cT (hp1.extBut _ _ c1 (hs0.extBut _ _ cz x))))) ⟨oe, hq'.extBut _ _ hez hoe, hce⟩
    · have hi1 : i = n1 := by omega
      refine wpAny_bind (D1.done ⟨g0, g, d, tk0, os⟩ _ _ (by rw [← hi1]; exact (D1.over st1 hs0 S.zf1)) fun q e hq he => ?_)
      replace hq : Heap.ExtBut i1 g0 q := hq
      obtain ⟨oe, hoe, hce⟩ := he
      replace hoe : q.get? e = some oe := hoe
      have hzq : IsZipG q z TI TO .ellipsis fl := hq _ _ S.zi1 hz0
      have hez : e ≠ z := fun x => by subst x; rw [hzq] at hoe; cases hoe; simp at hce
      refine wpAny_setField_rec (s := ⟨q, g, d, tk0, os⟩) hzq (by simp) fun q' _ hq' => ?_
      replace hq' : Heap.SameBut z q q' := hq'
      exact hE q' tk0 e (fun c o cz cT c1 c2 x => hq'.extBut _ _ cz (hq _ _ c1 (hs0.extBut _ _ cz x))) ⟨oe, hq'.extBut _ _ hez hoe, hce⟩
  · replace hs0 : Heap.SameBut z hp g0 := hs0
    simp only [Bool.false_eq_true, if_false, List.forIn_toArray, List.forIn_cons, List.forIn_nil]
    refine wpAny_bind (wpAny_bind (wpAny_bind (wpAny_holding ?_)))
    show wpAny _ _ (Builtin.SmallTypes.nextOf (.ref i1) >>= _) _ _ ⟨g0, g, d, tk0, os⟩
    by_cases hlt1 : i < n1
    · refine wpAny_bind (D1.item i _ _ _ hlt1 (D1.over st1 hs0 S.zf1) fun x1 p1 tk1 hx1 sn1 hp1 => wpAny_pure (wpAny_pure ?_))
      replace hp1 : Heap.SameBut i1 g0 p1 := hp1
      have hi2 : i = n2 := by omega
      refine wpAny_bind (wpAny_bind (wpAny_holding ?_))
      show wpAny _ _ (Builtin.SmallTypes.nextOf (.ref i2) >>= _) _ _ ⟨p1, g, d, tk1, os⟩
      refine wpAny_bind (D2.done ⟨p1, g, d, tk1, os⟩ _ _ (by rw [← hi2]; exact (D2.over (D2.over st2 hs0 S.zf2) hp1 S.sep1_2)) fun q e hq he => ?_)
      replace hq : Heap.ExtBut i2 p1 q := hq
      exact hE q tk1 e (fun c o cz cT c1 c2 x => hq _ _ c2 (hp1.extBut _ _ c1 (hs0.extBut _ _ cz x))) he
    · have hi1 : i = n1 := by omega
      refine wpAny_bind (D1.done ⟨g0, g, d, tk0, os⟩ _ _ (by rw [← hi1]; exact (D1.over st1 hs0 S.zf1)) fun q e hq he => ?_)
      replace hq : Heap.ExtBut i1 g0 q := hq
      exact hE q tk0 e (fun c o cz cT c1 c2 x => hq _ _ c1 (hs0.extBut _ _ cz x)) he

/-- next(z), asked from within -/
theorem nextOf_zip_item {Q : Value → Shared → Prop} (S : ZipSep2 z TI TO i1 i2 fp1 fp2) (D1 : Draws prog w A.in1 i1 fp1 n1 P1 St1) (D2 : Draws prog w A.in1 i2 fp2 n2 P2 St2)
    (hz : IsZipG s.heap z TI TO f0 fl) (hf : FOk f0) (hTI : IsTupOf2 s.heap TI (.ref i1) (.ref i2)) (hTO : IsTupOf2 s.heap TO a1 a2) (st1 : St1 i s.heap) (st2 : St2 i s.heap) (hlt1 : i < n1) (hlt2 : i < n2)
    (hQ : ∀ x1 x2 h' tk f0' fl' b1 b2, P1 i x1 → P2 i x2 → FOk f0' → IsZipG h' z TI TO f0' fl' → IsTupOf2 h' TO b1 b2 → St1 (i + 1) h' → St2 (i + 1) h' → IsTupOf2 h' s.heap.objs.size x1 x2 → h'.objs.size = s.heap.objs.size + 1 →
      (∀ c o, c ≠ z → c ≠ TO → c ≠ i1 → c ≠ i2 → s.heap.get? c = some o → h'.get? c = some o) → Q (.ref s.heap.objs.size) { s with heap := h', toks := tk }) :
    wpAny (model prog w) A (Builtin.SmallTypes.nextOf (.ref z)) Q E s := by
  have hT : s.TypeIs (.ref z) "zip" := ⟨_, hz, rfl⟩
  unfold Builtin.SmallTypes.nextOf
  exact wpAny_bind (wpAny_callSpecial?_slot (name := Str.ofString "__next__") hT F.slot_zip_next
    (wpAny_call_entry F.slot_zip_next hT F.entry_zip_next
      (zipG_next_item S D1 D2 hz hf hTI hTO st1 st2 hlt1 hlt2 fun x1 x2 h' tk f0' fl' b1 b2 c1 c2 c3 c4 c5 c6 c7 c8 c9 c10 => wpAny_pure (hQ x1 x2 h' tk f0' fl' b1 b2 c1 c2 c3 c4 c5 c6 c7 c8 c9 c10)) (F.args_zip_next_1 _)))
theorem nextOf_zip_end {Q : Value → Shared → Prop} (S : ZipSep2 z TI TO i1 i2 fp1 fp2) (D1 : Draws prog w A.in1 i1 fp1 n1 P1 St1) (D2 : Draws prog w A.in1 i2 fp2 n2 P2 St2)
    (hz : IsZipG s.heap z TI TO f0 fl) (hf : FOk f0) (hTI : IsTupOf2 s.heap TI (.ref i1) (.ref i2)) (hTO : IsTupOf2 s.heap TO a1 a2) (st1 : St1 i s.heap) (st2 : St2 i s.heap) (hle1 : i ≤ n1) (hle2 : i ≤ n2) (hend : i = n1 ∨ i = n2)
    (hE : ∀ h' tk e, (∀ c o, c ≠ z → c ≠ TO → c ≠ i1 → c ≠ i2 → s.heap.get? c = some o → h'.get? c = some o) → (∃ o, h'.get? e = some o ∧ o.cls = .type "StopIteration") → E (.ref e) { s with heap := h', toks := tk }) :
    wpAny (model prog w) A (Builtin.SmallTypes.nextOf (.ref z)) Q E s := by
  have hT : s.TypeIs (.ref z) "zip" := ⟨_, hz, rfl⟩
  unfold Builtin.SmallTypes.nextOf
  exact wpAny_bind (wpAny_callSpecial?_slot (name := Str.ofString "__next__") hT F.slot_zip_next
    (wpAny_call_entry F.slot_zip_next hT F.entry_zip_next (zipG_next_end S D1 D2 hz hf hTI hTO st1 st2 hle1 hle2 hend hE) (F.args_zip_next_1 _)))
end

section
variable {X : Cx} {pins : List (Addr × Obj)} {σ : L2.St} {H : Hp} {s : Shared}
/-- what the source's iterator draws, where one stands -/
theorem draw_at {k : Kn} {x : V} {u : Value} {xs : List V} {it : Addr} {i : Nat} (I : Inv X pins σ H s) {AA : Around} (hh : AA.handled = none) (sc : Sc H k x xs) (r : RelV x u) (tn : TnS it k u i s.heap) (hit : H it = none) :
    ∃ (fp : List Addr) (P : Nat → Value → Prop) (St : Nat → Heap → Prop), Draws X.prog X.w AA it fp xs.length P St ∧ St i s.heap ∧ (∀ j v, P j v → ∃ y, xs[j]? = some y ∧ RelV y v) ∧ (∀ j h, St j h → TnS it k u j h) ∧ it ∈ fp ∧ ∀ b ∈ fp, b = it ∨ ∃ o, H b = some o := by
  cases sc with
  | l e =>
    rename_i a
    cases r
    obtain ⟨its, rv, p, _⟩ := I.list (.inl (.inl e))
    have hl := rv.length
    have ne : a ≠ it := fun z => by rw [z, hit] at e; cases e
    have D := Draws.list (prog := X.prog) (w := X.w) hh it a ne its.toArray
    rw [List.size_toArray, ← hl] at D
    refine ⟨_, _, _, D, ⟨tn, p.isList⟩, fun j v hv => ?_, fun j h st => st.1, by simp, fun b hb => ?_⟩
    · have hj : its[j]? = some v := by simpa using hv
      have hlt : j < xs.length := by rw [hl]; exact (List.getElem?_eq_some_iff.mp hj).1
      obtain ⟨u, hu, ru⟩ := rv.get (List.getElem?_eq_getElem hlt)
      rw [hj] at hu
      cases hu
      exact ⟨_, List.getElem?_eq_getElem hlt, ru⟩
    · have q : b = it ∨ b = a := by simpa using hb
      exact q.imp id fun z => ⟨_, by rw [z]; exact e⟩
  | t e =>
    rename_i a
    cases r
    obtain ⟨its, rv, p, _⟩ := I.tuple (.inl (.inl e))
    have hl := rv.length
    have ne : a ≠ it := fun z => by rw [z, hit] at e; cases e
    have D := Draws.tuple (prog := X.prog) (w := X.w) hh it a ne its.toArray
    rw [List.size_toArray, ← hl] at D
    refine ⟨_, _, _, D, ⟨tn, p⟩, fun j v hv => ?_, fun j h st => st.1, by simp, fun b hb => ?_⟩
    · have hj : its[j]? = some v := by simpa using hv
      have hlt : j < xs.length := by rw [hl]; exact (List.getElem?_eq_some_iff.mp hj).1
      obtain ⟨u, hu, ru⟩ := rv.get (List.getElem?_eq_getElem hlt)
      rw [hj] at hu
      cases hu
      exact ⟨_, List.getElem?_eq_getElem hlt, ru⟩
    · have q : b = it ∨ b = a := by simpa using hb
      exact q.imp id fun z => ⟨_, by rw [z]; exact e⟩
  | s =>
    rename_i z
    obtain ⟨t, rfl⟩ := r
    have D := Draws.text (prog := X.prog) (w := X.w) hh it z t
    have hz : (z.cps.toList.map fun c => V.str ⟨#[c]⟩).length = z.cps.size := by simp
    rw [← hz] at D
    refine ⟨_, _, _, D, tn, fun j v hv => ?_, fun j h st => st, by simp, fun b hb => .inl (by simpa using hb)⟩
    obtain ⟨c, u, hcx, rfl⟩ := hv
    exact ⟨.str ⟨#[c]⟩, by simp [hcx], ⟨u, rfl⟩⟩
end

section
variable {prog : Program} {w : World} {A : Around} {E : Value → Shared → Prop} {s : Shared} {e z TI TO i1 i2 : Addr} {fp1 fp2 : List Addr} {n1 n2 i : Nat} {P1 P2 : Nat → Value → Prop} {St1 St2 : Nat → Heap → Prop} {a1 a2 f0 : Value} {fl : Bool} {c : Int} {old : Value}
theorem enumZ_next_item {Q : Value → Shared → Prop} (S : ZipSep2 z TI TO i1 i2 fp1 fp2) (D1 : Draws prog w A.in1 i1 fp1 n1 P1 St1) (D2 : Draws prog w A.in1 i2 fp2 n2 P2 St2)
    (he : IsEnum s.heap e z c old) (hz : IsZipG s.heap z TI TO f0 fl) (hf : FOk f0) (hTI : IsTupOf2 s.heap TI (.ref i1) (.ref i2)) (hTO : IsTupOf2 s.heap TO a1 a2) (st1 : St1 i s.heap) (st2 : St2 i s.heap) (hlt1 : i < n1) (hlt2 : i < n2)
    (nz : e ≠ z) (nT : e ≠ TO) (ni1 : e ≠ i1) (ni2 : e ≠ i2) (ef1 : e ∉ fp1) (ef2 : e ∉ fp2)
    (hQ : ∀ x1 x2 h' tk f0' fl' b1 b2, P1 i x1 → P2 i x2 → FOk f0' → IsZipG h' z TI TO f0' fl' → IsTupOf2 h' TO b1 b2 → St1 (i + 1) h' → St2 (i + 1) h' → IsTupOf2 h' s.heap.objs.size x1 x2 →
      IsEnumOut h' e z (c + 1) (.ref s.heap.objs.size) (s.heap.objs.size + 1) → h'.get? (s.heap.objs.size + 1) = some { cls := .type "tuple", data := .seq #[.int c tk, .ref s.heap.objs.size] } → h'.objs.size = s.heap.objs.size + 2 →
      (∀ c o, c ≠ e → c ≠ z → c ≠ TO → c ≠ i1 → c ≠ i2 → s.heap.get? c = some o → h'.get? c = some o) → Q (.ref (s.heap.objs.size + 1)) { s with heap := h', toks := tk + 1 }) :
    wpAny (model prog w) A (Builtin.«enumerate.__next__» ⟨[.ref e], []⟩) (fun fin s' => ∃ v, fin = .done (.ret v) ∧ Q v s') E s := by
  obtain ⟨hp, g, d, tk₀, os⟩ := s
  show wpAny _ _ (field (.ref e) 2 >>= _) _ _ _
  refine wpAny_bind (wpAny_field he rfl (x := .ref z) rfl ?_)
  refine wpAny_bind (nextOf_zip_item S D1 D2 hz hf hTI hTO st1 st2 hlt1 hlt2 fun x1 x2 h₁ tk f0' fl' b1 b2 hp1 hp2 hf' hz₁ hTO₁ st1₁ st2₁ hT₁ hs₁ hk₁ => ?_)
  replace hk₁ : ∀ c o, c ≠ z → c ≠ TO → c ≠ i1 → c ≠ i2 → hp.get? c = some o → h₁.get? c = some o := hk₁
  replace hs₁ : h₁.objs.size = hp.objs.size + 1 := hs₁
  have he₁ : IsEnum h₁ e z c old := hk₁ _ _ nz nT ni1 ni2 he
  show wpAny _ _ (field (.ref e) 3 >>= _) _ _ ⟨h₁, g, d, tk, os⟩
  refine wpAny_bind (wpAny_field he₁ rfl (x := rawInt c) rfl ?_)
  show wpAny _ _ (field (.ref e) 4 >>= _) _ _ ⟨h₁, g, d, tk, os⟩
  refine wpAny_bind (wpAny_field he₁ rfl (x := .none) rfl ?_)
  show wpAny _ _ (mkInt c >>= _) _ _ ⟨h₁, g, d, tk, os⟩
  refine wpAny_bind (wpAny_mkInt ?_)
  show wpAny _ _ (setField (.ref e) 3 (rawInt (c + 1)) >>= _) _ _ ⟨h₁, g, d, tk + 1, os⟩
  refine wpAny_bind (wpAny_setField_rec he₁ (by simp) fun h₂ he₂ hs₂ => ?_)
  replace hs₂ : Heap.SameBut e h₁ h₂ := hs₂
  replace he₂ : IsEnum h₂ e z (c + 1) old := he₂
  show wpAny _ _ (setField (.ref e) 4 .none >>= _) _ _ ⟨h₂, g, d, tk + 1, os⟩
  refine wpAny_bind (wpAny_setField_rec he₂ (by simp) fun h₃ he₃ hs₃ => ?_)
  replace hs₃ : Heap.SameBut e h₂ h₃ := hs₃
  replace he₃ : IsEnum h₃ e z (c + 1) old := he₃
  show wpAny _ _ (newTuple [.int c tk, .ref hp.objs.size] >>= _) _ _ ⟨h₃, g, d, tk + 1, os⟩
  refine wpAny_bind (wpAny_newTuple ?_)
  have he₄ : IsEnum (h₃.push { cls := .type "tuple", data := .seq #[.int c tk, .ref hp.objs.size] }) e z (c + 1) old := Heap.get?_push_of_some _ he₃
  generalize hh₄ : h₃.push { cls := .type "tuple", data := .seq #[.int c tk, .ref hp.objs.size] } = h₄ at he₄
  have hsz : h₃.objs.size = hp.objs.size + 1 := by rw [hs₃.1, hs₂.1, hs₁]
  have hel : e < hp.objs.size := Heap.lt_size he
  have ht₄ : h₄.get? (hp.objs.size + 1) = some { cls := .type "tuple", data := .seq #[.int c tk, .ref hp.objs.size] } := by rw [← hh₄, ← hsz]; exact Heap.get?_push_size _ rfl
  have hz₄ : h₄.objs.size = hp.objs.size + 2 := by rw [← hh₄, Heap.size_push, hsz]
  have up₄ : ∀ b o, b ≠ e → h₁.get? b = some o → h₄.get? b = some o := fun b o hbe y => by
    rw [← hh₄]; exact Heap.get?_push_of_some _ (hs₃.extBut b o hbe (hs₂.extBut b o hbe y))
  show wpAny _ _ (Builtin.SmallTypes.ownedTupleIsFree (.ref e) >>= _) _ _ ⟨h₄, g, d, tk + 1, os⟩
  rw [hsz]
  clear hh₄ he₃ hs₃ he₂ hs₂ hsz h₃ h₂
  refine wpAny_bind ?_
  · unfold Builtin.SmallTypes.ownedTupleIsFree
    refine wpAny_bind (wpAny_field he₄ rfl (x := .none) rfl (wpAny_pure ?_))
    simp only [if_true]
    refine wpAny_bind (wpAny_rule ?_)
    refine wpAny_bind (wpAny_field he₄ rfl (x := old) rfl ?_)
    refine wpAny_bind (wpAny_setField_rec he₄ (by simp) fun h₅ he₅ hs₅ => ?_)
    replace hs₅ : Heap.SameBut e h₄ h₅ := hs₅
    replace he₅ : IsEnum h₅ e z (c + 1) (.ref hp.objs.size) := he₅
    show wpAny _ _ (Builtin.SmallTypes.ownedTupleHandOut (.ref e) (.ref (hp.objs.size + 1)) >>= _) _ _ ⟨h₅, g, d, tk + 1, os⟩
    refine wpAny_bind ?_
    · unfold Builtin.SmallTypes.ownedTupleHandOut
      refine wpAny_bind (wpAny_setField_rec he₅ (by simp) fun h₆ he₆ hs₆ => ?_)
      replace hs₆ : Heap.SameBut e h₅ h₆ := hs₆
      replace he₆ : IsEnumOut h₆ e z (c + 1) (.ref hp.objs.size) (hp.objs.size + 1) := he₆
      refine wpAny_setField_rec he₆ (by simp) fun h₇ he₇ hs₇ => ?_
      replace hs₇ : Heap.SameBut e h₆ h₇ := hs₇
      replace he₇ : IsEnumOut h₇ e z (c + 1) (.ref hp.objs.size) (hp.objs.size + 1) := he₇
      have up : ∀ b o, b ≠ e → h₁.get? b = some o → h₇.get? b = some o := fun b o hbe y => hs₇.extBut b o hbe (hs₆.extBut b o hbe (hs₅.extBut b o hbe (up₄ b o hbe y)))
      have n1 : (hp.objs.size + 1 : Nat) ≠ e := Nat.ne_of_gt (Nat.lt_of_lt_of_le hel (Nat.le_succ _))
      refine wpAny_bind (wpAny_letGo (wpAny_pure ⟨_, rfl, hQ x1 x2 h₇ tk f0' fl' b1 b2 hp1 hp2 hf' (up _ _ (Ne.symm nz) hz₁) (up _ _ (Ne.symm nT) hTO₁) ?_ ?_ (up _ _ (Nat.ne_of_gt hel) hT₁) he₇ ?_ ?_ ?_⟩))
      · exact D1.frame _ _ _ st1₁ fun b hb o y => up b o (fun q => ef1 (q ▸ hb)) y
      · exact D2.frame _ _ _ st2₁ fun b hb o y => up b o (fun q => ef2 (q ▸ hb)) y
      · exact hs₇.extBut _ _ n1 (hs₆.extBut _ _ n1 (hs₅.extBut _ _ n1 ht₄))
      · rw [hs₇.1, hs₆.1, hs₅.1, hz₄]
      · exact fun b o hbe c1 c2 c3 c4 hb => up b o hbe (hk₁ b o c1 c2 c3 c4 hb)
theorem enumZ_pyNext_item {Q : Option Value → Shared → Prop} (S : ZipSep2 z TI TO i1 i2 fp1 fp2) (D1 : Draws prog w A.in1.in1 i1 fp1 n1 P1 St1) (D2 : Draws prog w A.in1.in1 i2 fp2 n2 P2 St2)
    (he : IsEnum s.heap e z c old) (hz : IsZipG s.heap z TI TO f0 fl) (hf : FOk f0) (hTI : IsTupOf2 s.heap TI (.ref i1) (.ref i2)) (hTO : IsTupOf2 s.heap TO a1 a2) (st1 : St1 i s.heap) (st2 : St2 i s.heap) (hlt1 : i < n1) (hlt2 : i < n2)
    (nz : e ≠ z) (nT : e ≠ TO) (ni1 : e ≠ i1) (ni2 : e ≠ i2) (ef1 : e ∉ fp1) (ef2 : e ∉ fp2)
    (hQ : ∀ x1 x2 h' tk f0' fl' b1 b2, P1 i x1 → P2 i x2 → FOk f0' → IsZipG h' z TI TO f0' fl' → IsTupOf2 h' TO b1 b2 → St1 (i + 1) h' → St2 (i + 1) h' → IsTupOf2 h' s.heap.objs.size x1 x2 →
      IsEnumOut h' e z (c + 1) (.ref s.heap.objs.size) (s.heap.objs.size + 1) → h'.get? (s.heap.objs.size + 1) = some { cls := .type "tuple", data := .seq #[.int c tk, .ref s.heap.objs.size] } → h'.objs.size = s.heap.objs.size + 2 →
      (∀ c o, c ≠ e → c ≠ z → c ≠ TO → c ≠ i1 → c ≠ i2 → s.heap.get? c = some o → h'.get? c = some o) → Q (some (.ref (s.heap.objs.size + 1))) { s with heap := h', toks := tk + 1 }) :
    wpAny (model prog w) A (pyNext (.ref e)) Q E s := by
  have hT : s.TypeIs (.ref e) "enumerate" := ⟨_, he, rfl⟩
  unfold pyNext
  exact wpAny_bind (wpAny_attempt (wpAny_callSpecial?_slot (name := Str.ofString "__next__") hT F.slot_enumerate_next
    (wpAny_call_entry F.slot_enumerate_next hT F.entry_enumerate_next
      (enumZ_next_item S D1 D2 he hz hf hTI hTO st1 st2 hlt1 hlt2 nz nT ni1 ni2 ef1 ef2 fun x1 x2 h' tk f0' fl' b1 b2 c1 c2 c3 c4 c5 c6 c7 c8 c9 c10 c11 c12 => wpAny_pure (hQ x1 x2 h' tk f0' fl' b1 b2 c1 c2 c3 c4 c5 c6 c7 c8 c9 c10 c11 c12)) (F.args_enumerate_next_1 _))))
theorem enumZ_pyNext_end {Q : Option Value → Shared → Prop} (S : ZipSep2 z TI TO i1 i2 fp1 fp2) (D1 : Draws prog w A.in1.in1 i1 fp1 n1 P1 St1) (D2 : Draws prog w A.in1.in1 i2 fp2 n2 P2 St2)
    (he : IsEnum s.heap e z c old) (hz : IsZipG s.heap z TI TO f0 fl) (hf : FOk f0) (hTI : IsTupOf2 s.heap TI (.ref i1) (.ref i2)) (hTO : IsTupOf2 s.heap TO a1 a2) (st1 : St1 i s.heap) (st2 : St2 i s.heap) (hle1 : i ≤ n1) (hle2 : i ≤ n2) (hend : i = n1 ∨ i = n2)
    (hQ : ∀ h' tk, (∀ c o, c ≠ z → c ≠ TO → c ≠ i1 → c ≠ i2 → s.heap.get? c = some o → h'.get? c = some o) → Q none { s with heap := h', toks := tk }) : wpAny (model prog w) A (pyNext (.ref e)) Q E s := by
  have hT : s.TypeIs (.ref e) "enumerate" := ⟨_, he, rfl⟩
  unfold pyNext
  refine wpAny_bind (wpAny_attempt (wpAny_callSpecial?_slot (name := Str.ofString "__next__") hT F.slot_enumerate_next
    (wpAny_call_entry F.slot_enumerate_next hT F.entry_enumerate_next ?_ (F.args_enumerate_next_1 _))))
  show wpAny _ _ (field (.ref e) 2 >>= _) _ _ _
  refine wpAny_bind (wpAny_field he rfl (x := .ref z) rfl ?_)
  refine wpAny_bind (nextOf_zip_end S D1 D2 hz hf hTI hTO st1 st2 hle1 hle2 hend fun h' tk x hk hx => ?_)
  obtain ⟨o, ho, hc⟩ := hx
  refine wpAny_bind (wpAny_isInstance (T := "StopIteration") (b := true) ⟨o, ho, hc⟩ isSubtype_stop ?_)
  exact wpAny_pure (hQ _ _ hk)
end

theorem upd_in {H : Hp} {T : Addr} {o : HO} {b : Addr} (h : H b = none) (hb : b ≠ T) : L2.upd H T o b = none := by rw [upd_ne hb]; exact h
def ItEZ (k l : Kn) (x y : V) : It :=
  ⟨fun i H => ∃ (xs ys : List V) (v w : V), Sc H k x xs ∧ Sc H l y ys ∧ xs[i]? = some v ∧ ys[i]? = some w,
    fun i H z H' => ∃ T U v w, z = .ref U ∧ H T = none ∧ L2.upd H T (.tup [v, w]) U = none ∧ H' = L2.upd (L2.upd H T (.tup [v, w])) U (.tup [.int (i : Nat), .ref T]) ∧ (∀ xs, Sc H k x xs → xs[i]? = some v) ∧ ∀ ys, Sc H l y ys → ys[i]? = some w,
    fun i H => ∃ xs ys : List V, Sc H k x xs ∧ Sc H l y ys ∧ i = min xs.length ys.length⟩
theorem turn_enumZ {P : Program} {w : World} {K : PySem.W.Frag} {elts : List Expr} {kk : Nat} {tpos : Pos} {k l : Kn} {x y : V} {u v : Value} (rx : RelV x u) (ry : RelV y v) {e z TI TO i1 i2 : Addr} (D0 : ∀ fp1 fp2 : List Addr, (∀ b ∈ fp1, b = i1 ∨ b ∉ [z, TI, TO, i1, i2]) → (∀ b ∈ fp2, b = i2 ∨ b ∉ [z, TI, TO, i1, i2]) → i1 ∈ fp1 → i2 ∈ fp2 → ZipSep2 z TI TO i1 i2 fp1 fp2)
    (nz : e ≠ z) (nTI : e ≠ TI) (nT : e ≠ TO) (ni1 : e ≠ i1) (ni2 : e ≠ i2) :
    Turn P w K (.Tuple elts kk tpos) (ItEZ k l x y) [e, z, TI, TO, i1, i2] e (fun i h => (∃ old, IsEnum h e z ((i : Nat) : Int) old) ∧ (∃ f0 fl, FOk f0 ∧ IsZipG h z TI TO f0 fl) ∧ IsTupOf2 h TI (.ref i1) (.ref i2) ∧ (∃ a b, IsTupOf2 h TO a b) ∧ TnS i1 k u i h ∧ TnS i2 l v i h) where
  mem := by simp
  obj := fun i h st c hc => by
    obtain ⟨⟨old, he⟩, ⟨f0, fl, hf, hz⟩, hTI, ⟨a, b, hTO⟩, h1, h2⟩ := st
    have e' : c = e ∨ c = z ∨ c = TI ∨ c = TO ∨ c = i1 ∨ c = i2 := by simpa using hc
    rcases e' with q | q | q | q | q | q
    · rw [q]; exact ⟨_, he, fun v q => nomatch q⟩
    · rw [q]; exact ⟨_, hz, fun v q => nomatch q⟩
    · rw [q]; exact ⟨_, hTI, fun v q => nomatch q⟩
    · rw [q]; exact ⟨_, hTO, fun v q => nomatch q⟩
    · rw [q]; exact h1.obj
    · rw [q]; exact h2.obj
  keep := fun i h h' st kp => by
    obtain ⟨⟨old, he⟩, ⟨f0, fl, hf, hz⟩, hTI, ⟨a, b, hTO⟩, h1, h2⟩ := st
    exact ⟨⟨old, kp e (by simp) _ he⟩, ⟨f0, fl, hf, kp z (by simp) _ hz⟩, kp TI (by simp) _ hTI, ⟨a, b, kp TO (by simp) _ hTO⟩, h1.at fun o q => kp i1 (by simp) o q, h2.at fun o q => kp i2 (by simp) o q⟩
  item := by
    intro X hP hw hK hc i pins s σ H E I hf st hg
    subst hP hw hK
    obtain ⟨⟨old, he⟩, ⟨f0, fl, hF, hz⟩, hTI, ⟨x0, y0, hTO⟩, h1, h2⟩ := st
    obtain ⟨xs, ys, a, b, sx, sy, hx, hy⟩ := hg
    have hh : X.A.in1.in1.handled = none := I.ok.hd hc
    obtain ⟨fp1, P1, S1, D1, st1, hP1, hS1, hm1, hfp1⟩ := draw_at I hh sx rx h1 (hf i1 (by simp)).1
    obtain ⟨fp2, P2, S2, D2, st2, hP2, hS2, hm2, hfp2⟩ := draw_at I hh sy ry h2 (hf i2 (by simp)).1
    have nin : ∀ b, b ∈ [z, TI, TO, i1, i2] → b ∈ [e, z, TI, TO, i1, i2] := fun b hb => List.mem_cons_of_mem _ hb
    have S := D0 fp1 fp2 (fun b hb => (hfp1 b hb).imp id fun ⟨o, q⟩ z => by rw [(hf b (nin b z)).1] at q; cases q) (fun b hb => (hfp2 b hb).imp id fun ⟨o, q⟩ z => by rw [(hf b (nin b z)).1] at q; cases q) hm1 hm2
    have ef1 : e ∉ fp1 := fun q => (hfp1 e q).elim ni1 fun ⟨o, q⟩ => by rw [(hf e (by simp)).1] at q; cases q
    have ef2 : e ∉ fp2 := fun q => (hfp2 e q).elim ni2 fun ⟨o, q⟩ => by rw [(hf e (by simp)).1] at q; cases q
    have hi1 : i < xs.length := (List.getElem?_eq_some_iff.mp hx).1
    have hi2 : i < ys.length := (List.getElem?_eq_some_iff.mp hy).1
    have hlt : ∀ c ∈ [e, z, TI, TO, i1, i2], c < s.heap.objs.size := fun c hcm => by
      have e' : c = e ∨ c = z ∨ c = TI ∨ c = TO ∨ c = i1 ∨ c = i2 := by simpa using hcm
      rcases e' with q | q | q | q | q | q
      · rw [q]; exact Heap.lt_size he
      · rw [q]; exact Heap.lt_size hz
      · rw [q]; exact Heap.lt_size hTI
      · rw [q]; exact Heap.lt_size hTO
      · rw [q]; obtain ⟨_, e1, _⟩ := h1.obj; exact Heap.lt_size e1
      · rw [q]; obtain ⟨_, e2, _⟩ := h2.obj; exact Heap.lt_size e2
    refine enumZ_pyNext_item S D1 D2 he hz hF hTI hTO st1 st2 hi1 hi2 nz nT ni1 ni2 ef1 ef2 fun p q h' tk f0' fl' b1 b2 hp hq hF' z' TO' st1' st2' hT ho hU hsz hk => ?_
    obtain ⟨a', ha', ra⟩ := hP1 i p hp
    rw [hx] at ha'
    cases ha'
    obtain ⟨b', hb', rb⟩ := hP2 i q hq
    rw [hy] at hb'
    cases hb'
    refine ⟨_, rfl, wpAny_letOwnedTupleGo_enum (s := { s with heap := h', toks := tk + 1 }) ho fun h'' he' sb => ?_⟩
    have hel : e < s.heap.objs.size := hlt e (by simp)
    have hel1 : e < s.heap.objs.size + 1 := Nat.lt_of_lt_of_le hel (Nat.le_succ _)
    have hT2 : h''.get? s.heap.objs.size = some { cls := .type "tuple", data := .seq #[p, q] } := (sb.2 _ (Nat.ne_of_gt hel)).trans hT
    have hU2 : h''.get? (s.heap.objs.size + 1) = some { cls := .type "tuple", data := .seq #[.int i tk, .ref s.heap.objs.size] } := (sb.2 _ (Nat.ne_of_gt hel1)).trans hU
    have hps : (s.heap.push { cls := .type "tuple", data := .seq #[p, q] }).objs.size = s.heap.objs.size + 1 := by rw [Heap.size_push]
    have hTp : (s.heap.push { cls := .type "tuple", data := .seq #[p, q] }).get? s.heap.objs.size = some { cls := .type "tuple", data := .seq #[p, q] } := Heap.get?_push_size _ rfl
    have new1 : ObjOk X.prog X.w (L2.upd H s.heap.objs.size (.tup [a, b])) (s.heap.push { cls := .type "tuple", data := .seq #[p, q] }) s.heap.objs.size (.tup [a, b]) :=
      ⟨by show 2 ≤ sizeLine; decide, [p, q], .cons ra (.cons rb .nil), ⟨_, hTp, rfl, _, rfl⟩⟩
    have I0 : Inv X pins σ (L2.upd H s.heap.objs.size (.tup [a, b])) { s with heap := s.heap.push { cls := .type "tuple", data := .seq #[p, q] } } :=
      I.laid (t' := s.toks) (fun _ _ e => Heap.get?_push_of_some _ e) (Nat.le_refl _) new1
    have new2 : ObjOk X.prog X.w (L2.upd (L2.upd H s.heap.objs.size (.tup [a, b])) (s.heap.objs.size + 1) (.tup [.int (i : Nat), .ref s.heap.objs.size])) h'' (s.heap.objs.size + 1) (.tup [.int (i : Nat), .ref s.heap.objs.size]) :=
      ⟨by show 2 ≤ sizeLine; decide, [.int i tk, .ref s.heap.objs.size], .cons ⟨_, rfl⟩ (.cons rfl .nil), ⟨_, hU2, rfl, _, rfl⟩⟩
    have hf0 : ∀ c ∈ [e, z, TI, TO, i1, i2], FpOk X pins (L2.upd H s.heap.objs.size (.tup [a, b])) c := fun c hb => by
      obtain ⟨f0, f1⟩ := hf c hb
      exact ⟨upd_in f0 (Nat.ne_of_lt (hlt c hb)), f1⟩
    have I1 : Inv X pins σ (L2.upd (L2.upd H s.heap.objs.size (.tup [a, b])) (s.heap.objs.size + 1) (.tup [.int (i : Nat), .ref s.heap.objs.size])) { s with heap := h'', toks := tk + 1 } :=
      I0.turnedNew (t' := tk + 1) (ch := [e, z, TI, TO, i1, i2]) (h' := h'') (fun c o hb r => by
        have ce : c ≠ e := fun q' => hb (by simp [q'])
        replace r : (s.heap.push { cls := .type "tuple", data := .seq #[p, q] }).get? c = some o := r
        by_cases hcn : c = s.heap.objs.size
        · rw [hcn] at r ⊢
          rw [hTp] at r
          cases r
          exact hT2
        · exact (sb.2 c ce).trans (hk c o ce (fun q' => hb (by simp [q'])) (fun q' => hb (by simp [q'])) (fun q' => hb (by simp [q'])) (fun q' => hb (by simp [q'])) ((Heap.get?_push_cases r).resolve_left fun z => hcn z.1))) hf0 (Nat.le_of_eq hps) new2
    have hf1 : (L2.upd H s.heap.objs.size (.tup [a, b])) (s.heap.objs.size + 1) = none := upd_in (I.hok.fresh (Nat.le_succ _)) (Nat.succ_ne_self _)
    refine ⟨.ref (s.heap.objs.size + 1), _, I1, rfl, ⟨_, _, a, b, rfl, I.hok.fresh (Nat.le_refl _), hf1, rfl, fun l hl => by rw [hl.uniq sx]; exact hx, fun l hl => by rw [hl.uniq sy]; exact hy⟩, ⟨⟨.ref s.heap.objs.size, ?_⟩, ⟨f0', fl', hF', ?_⟩, ?_, ⟨b1, b2, ?_⟩, ?_, ?_⟩, fun c hcm => ?_⟩
    · have e1 : ((i + 1 : Nat) : Int) = (i : Int) + 1 := by omega
      rw [e1]; exact he'
    · exact (sb.2 _ (Ne.symm nz)).trans z'
    · exact (sb.2 _ (Ne.symm nTI)).trans (hk _ _ (Ne.symm nTI) S.TIz S.TITO S.TIi1 S.TIi2 hTI)
    · exact (sb.2 _ (Ne.symm nT)).trans TO'
    · exact (hS1 _ _ st1').at fun o q => (sb.2 _ (Ne.symm ni1)).trans q
    · exact (hS2 _ _ st2').at fun o q => (sb.2 _ (Ne.symm ni2)).trans q
    · exact upd_in (hf0 c hcm).1 (Nat.ne_of_lt (Nat.lt_of_lt_of_le (hlt c hcm) (Nat.le_succ _)))
  done := by
    intro X hP hw hK hc i pins s σ H E I hf st hg
    subst hP hw hK
    obtain ⟨⟨old, he⟩, ⟨f0, fl, hF, hz⟩, hTI, ⟨x0, y0, hTO⟩, h1, h2⟩ := st
    obtain ⟨xs, ys, sx, sy, hend⟩ := hg
    have hh : X.A.in1.in1.handled = none := I.ok.hd hc
    obtain ⟨fp1, P1, S1, D1, st1, hP1, hS1, hm1, hfp1⟩ := draw_at I hh sx rx h1 (hf i1 (by simp)).1
    obtain ⟨fp2, P2, S2, D2, st2, hP2, hS2, hm2, hfp2⟩ := draw_at I hh sy ry h2 (hf i2 (by simp)).1
    have nin : ∀ b, b ∈ [z, TI, TO, i1, i2] → b ∈ [e, z, TI, TO, i1, i2] := fun b hb => List.mem_cons_of_mem _ hb
    have S := D0 fp1 fp2 (fun b hb => (hfp1 b hb).imp id fun ⟨o, q⟩ z => by rw [(hf b (nin b z)).1] at q; cases q) (fun b hb => (hfp2 b hb).imp id fun ⟨o, q⟩ z => by rw [(hf b (nin b z)).1] at q; cases q) hm1 hm2
    exact enumZ_pyNext_end S D1 D2 he hz hF hTI hTO st1 st2 (by omega) (by omega) (by omega) fun h' tk hk => ⟨rfl, I.turnedL (t' := tk) (ch := [e, z, TI, TO, i1, i2]) (fun c o hb q =>
      hk c o (fun q' => hb (by simp [q'])) (fun q' => hb (by simp [q'])) (fun q' => hb (by simp [q'])) (fun q' => hb (by simp [q'])) q) hf⟩
  self := fun A i s Q E st h => let ⟨⟨_, he⟩, _⟩ := st; wpAny_pyIter_enum he h

set_option maxHeartbeats 1000000 in
theorem meets_enumerate_zip {z TI TO : Addr} {f0 : Value} :
    Meets (Builtin.«enumerate.__new__» ⟨[.type "enumerate", .ref z], []⟩) (fun _ R s => IsZip s.heap z TI TO f0 ∧
      R (.ok (.ret (.ref s.heap.objs.size))) { s with heap := s.heap.push { cls := .type "enumerate", data := .fields #[.none, .bool false, .ref z, rawInt 0, .none, .none] } }) :=
  .of_wp fun prog w A R s h => by
    obtain ⟨hp, g, d, tk, os⟩ := s
    obtain ⟨h1, h⟩ := h
    have hsub := sub_enumerate
    have q1 : ∀ {A' : Around} {E : Value → Shared → Prop} {Q : Value → Shared → Prop}, Q (.ref z) ⟨hp, g, d, tk, os⟩ → wpAny (model prog w) A' (pyIter (.ref z)) Q E ⟨hp, g, d, tk, os⟩ :=
      fun q => wpAny_pyIter_zip h1 q
    wp_walk using q1
    refine wpAny_stack_any fun st => (wpAny_pure ?_)
    split
    · rename_i c _ _ _ _ _
      cases (c == Value.type "enumerate")
      · wp_walk using q1
        exact ⟨_, rfl, h⟩
      · wp_walk using q1
        exact ⟨_, rfl, h⟩
    · wp_walk using q1
      exact ⟨_, rfl, h⟩
theorem enum_zip {prog : Program} {w : World} {A : Around} {E : Value → Shared → Prop} {s : Shared} {z TI TO : Addr} {f0 : Value} {Q : Value → Shared → Prop} (hz : IsZip s.heap z TI TO f0)
    (h : ∀ h', IsEnum h' s.heap.objs.size z 0 .none → h'.objs.size = s.heap.objs.size + 1 →
      (∀ b o, s.heap.get? b = some o → h'.get? b = some o) → Q (.ref s.heap.objs.size) { s with heap := h' }) :
    wpAny (model prog w) A (call (.type "enumerate") [.ref z]) Q E s := by
  refine callType_new F.called_enumerate (by decide) (F.typeCall_enumerate_1 _) (F.newCall_enumerate_1 _) (fun obj => F.args_object_init_2 obj _) F.entry_enumerate_new
    meets_enumerate_zip ⟨hz, ?_⟩
  have he : IsEnum (s.heap.push { cls := .type "enumerate", data := .fields #[.none, .bool false, .ref z, rawInt 0, .none, .none] }) s.heap.objs.size z 0 .none := Heap.get?_push_size _ rfl
  exact ⟨⟨_, he, rfl⟩, h _ he (by rw [Heap.size_push]) fun b o x => Heap.get?_push_of_some _ x⟩

def iEnumZ (ta : TA) : TI := fun σ H R => ta σ H fun vs H1 => ∃ k l x y xs ys, vs = [x, y] ∧ Sc H1 k x xs ∧ Sc H1 l y ys ∧ R (ItEZ k l x y) H1
theorem pi_enumZ {X : Cx} {e e2 : Expr} {ta : TA} {p p2 pos pos2 tpos : Pos} {elts : List Expr} {kk : Nat} (hge : Gl X "enumerate") (hme : X.mg "enumerate" = none) (hg : Gl X "zip") (hm : X.mg "zip" = none) (ha : PA X [e, e2] ta)
    (hs : starEach [e, e2] X.env = (false, eval e X.env) :: starEach [e2] X.env) (hpl : ∀ pos, (backTo pos (starEach [e2] X.env)).any (·.1) = false) :
    PI X (.Tuple elts kk tpos) (.Call (.Name "enumerate" p) [.Call (.Name "zip" p2) [e, e2] [] pos2] [] pos) (iEnumZ ta) := by
  refine ⟨fun pins s σ H R I h => ?_⟩
  refine Call_ (ld_blt I hge hme boot_enumerate (PyProof.Rows.callWith_type1 (Calls.spliced_cons ?_) rfl rfl))
  refine Call_ (ld_blt I hg hm PyProof.Rows.boot_zip (PyProof.Rows.callWith_type1 (thn (ha.run pos2 pins s σ H _ I h) fun us s1 ⟨vs, H1, I1, r1, q1⟩ => ?_) hs (hpl _)))
  obtain ⟨k, l, x, y, xs, ys, ex, sx, sy, q⟩ := q1
  subst ex
  cases r1 with
  | cons r rr =>
    cases rr with
    | cons r' rr =>
      cases rr
      obtain ⟨o1, HH1, B1, b1, t1⟩ := begins_of I1 sx r
      obtain ⟨o2, HH2, B2, b2, t2⟩ := begins_of I1 sy r'
      refine zip_begins2 B1 B2 b1 b2 fun h' hz hTI hTO h1 h2 hsz hk => Calls.spliced_nil ?_
      have I2 : Inv X pins σ H1 { s1 with heap := h' } := I1.kept (t' := s1.toks) hk
      refine enum_zip (s := { s1 with heap := h' }) hz fun h'' he hsz2 hk2 => wpAny_pyIter_enum he ?_
      replace hk2 : ∀ b o, h'.get? b = some o → h''.get? b = some o := hk2
      replace he : IsEnum h'' h'.objs.size (s1.heap.objs.size + 4) 0 .none := he
      have I3 : Inv X pins σ H1 { s1 with heap := h'' } := I2.kept (t' := s1.toks) hk2
      rw [hsz] at he
      have hd : ∀ j : Nat, j < 5 → (s1.heap.objs.size + 5 : Nat) ≠ s1.heap.objs.size + j := fun j hj z => by omega
      show PIE X pins σ _ R (.ref h'.objs.size) { s1 with heap := h'' }
      rw [hsz]
      refine ⟨s1.heap.objs.size + 5, [s1.heap.objs.size + 5, s1.heap.objs.size + 4, s1.heap.objs.size + 2, s1.heap.objs.size + 3, s1.heap.objs.size, s1.heap.objs.size + 1], _, _, H1, rfl, I3, turn_enumZ r r' (sep2_of s1.heap.objs.size) (hd 4 (by omega)) (hd 2 (by omega)) (hd 3 (by omega)) (hd 0 (by omega)) (hd 1 (by omega)),
        ⟨⟨.none, he⟩, ⟨.none, _, .inl rfl, hk2 _ _ hz⟩, hk2 _ _ hTI, ⟨_, _, hk2 _ _ hTO⟩, t1 _ _ (hk2 _ _ h1), t2 _ _ (hk2 _ _ h2)⟩, fun c hcm => ?_, q⟩
      have e' : c = s1.heap.objs.size + 5 ∨ c = s1.heap.objs.size + 4 ∨ c = s1.heap.objs.size + 2 ∨ c = s1.heap.objs.size + 3 ∨ c = s1.heap.objs.size ∨ c = s1.heap.objs.size + 1 := by simpa using hcm
      have hle : s1.heap.objs.size ≤ c := by
        rcases e' with z | z | z | z | z | z
        · rw [z]; exact Nat.le_add_right _ _
        · rw [z]; exact Nat.le_add_right _ _
        · rw [z]; exact Nat.le_add_right _ _
        · rw [z]; exact Nat.le_add_right _ _
        · rw [z]; exact Nat.le_refl _
        · rw [z]; exact Nat.le_add_right _ _
      exact I1.fpOk hle (I1.hok.fresh hle)
end Py
end

section
/-! PyN: what an iterable walks; targets. -/
namespace Py
open PySem L2 PyProof.Rows

section
variable {K : W.Frag} {G G1 G2 : Gh} {H H1 H2 : Hp}
theorem Keep.trans {A : List Addr} (a : Keep K G G1 H H1 A) (b : Keep K G1 G2 H1 H2 A) : Keep K G G2 H H2 A where
  tup := fun x xs h => b.tup x xs (a.tup x xs h)
  fz := fun x h => b.fz x (a.fz x h)
  tz := fun x h => b.tz x (a.tz x h)
  lst := fun x xs h q => b.lst x xs (a.lst x xs h q) (q.imp (a.fz x) (Or.imp (a.tz x) id))
  ds := fun n x h => b.ds n x (a.ds n x h)
  sr := fun p h => b.sr p (a.sr p h)
  sc := b.sc.trans a.sc
  frz := fun x o u h => b.frz x o u (a.frz x o u h)
theorem Keep.refl {A : List Addr} : Keep K G G H H A := ⟨fun _ _ h => h, fun _ h => h, fun _ h => h, fun _ _ h _ => h, fun _ _ h => h, fun _ h => h, rfl, fun _ _ _ h => h⟩

/-- .. taken back -/
def Gh.subT (G : Gh) (A : List Addr) : Gh := { G with tz := fun a => G.tz a ∧ a ∉ A }
mutual
theorem RV.noT {A : List Addr} (hf : ∀ a, G.fz a → G1.fz a) (hd : G1.ds = G.ds) (hs : G1.sr = G.sr) (hc : G1.sc = G.sc) : ∀ {x : PV} {v : V} {B : List Addr}, RV K G H x v B → nob x = true → RV K G1 H x v B
  | _, _, _, .non, _ => .non
  | _, _, _, .bl b, _ => .bl b
  | _, _, _, .int i, _ => .int i
  | _, _, _, .str x, _ => .str x
  | _, _, _, .tup h r, k => .tup h (RVs.noT (A := A) hf hd hs hc r (by simpa only [nob] using k))
  | _, _, _, .lf h f r, k => .lf h (hf _ f) (RVs.noT (A := A) hf hd hs hc r (by simpa only [nob] using k))
  | _, _, _, .lb h f r, k => by simp only [nob, Bool.false_eq_true] at k
  | _, _, _, .lt h f r, k => by simp only [nob, Bool.false_eq_true] at k
  | _, _, _, .lo h r, k => .lo h (RVs.noT (A := A) hf hd hs hc r (by simpa only [nob] using k))
  | _, _, _, .dct h, k => .dct (by rw [hd]; exact h)
  | _, _, _, .src h, k => .src (by rw [hs]; exact h)
  | _, _, _, .scr, k => by rw [← hc]; exact .scr
theorem RVs.noT {A : List Addr} (hf : ∀ a, G.fz a → G1.fz a) (hd : G1.ds = G.ds) (hs : G1.sr = G.sr) (hc : G1.sc = G.sc) : ∀ {x : List PV} {v : List V} {B : List Addr}, RVs K G H x v B → nobs x = true → RVs K G1 H x v B
  | _, _, _, .nil, _ => .nil
  | _, _, _, .cons h r, k => by
    simp only [nobs, Bool.and_eq_true] at k
    exact .cons (RV.noT (A := A) hf hd hs hc h k.1) (RVs.noT (A := A) hf hd hs hc r k.2)
end
theorem RV.subT {A B : List Addr} {x : PV} {v : V} (h : RV K G H x v B) (k : nob x = true) : RV K (G.subT A) H x v B := RV.noT (G := G) (G1 := G.subT A) (A := A) (fun _ h => h) rfl rfl rfl h k
theorem RVs.subT {A B : List Addr} {x : List PV} {v : List V} (h : RVs K G H x v B) (k : nobs x = true) : RVs K (G.subT A) H x v B := RVs.noT (G := G) (G1 := G.subT A) (A := A) (fun _ h => h) rfl rfl rfl h k

/-- a step of a walk: nothing, or one new thing -/
def Stp (H H' : Hp) : Prop := H' = H ∨ (∃ T o, H T = none ∧ H' = L2.upd H T o) ∨ ∃ T o U u, H T = none ∧ L2.upd H T o U = none ∧ H' = L2.upd (L2.upd H T o) U u
theorem Stp.up (s : Stp H H1) : ∀ a o, H a = some o → H1 a = some o := fun a o e => by
  rcases s with rfl | ⟨T, u, hT, rfl⟩ | ⟨T, u, U, v, hT, hU, rfl⟩
  · exact e
  · exact upd_some hT e
  · exact upd_some hU (upd_some hT e)
theorem Stp.nw {H0 : Hp} {G0 : Gh} {s : Py.St} (p : Stp H H1) (n : Nw K H0 G0 H G s) : Nw K H0 G0 H1 G s := by
  rcases p with rfl | ⟨T, u, hT, rfl⟩ | ⟨T, u, U, v, hT, hU, rfl⟩
  · exact n
  · exact n.lay hT
  · exact (n.lay hT).lay hU
/-- J walks the items, as long as what the values lean on stands -/
structure Wk (K : W.Frag) (G : Gh) (H : Hp) (J : It) (xs : List PV) : Prop where
  go : ∀ (i : Nat) G' H', Keep K G G' H H' [] → i < xs.length → J.go i H'
  stop : ∀ (i : Nat) G' H', Keep K G G' H H' [] → i = xs.length → J.stop i H'
  yld : ∀ (i : Nat) G' H' x H'' p, Keep K G G' H H' [] → xs[i]? = some p → J.yld i H' x H'' → Stp H' H'' ∧ RV K G' H'' p x []

theorem RVs.at {xs : List PV} {vs : List V} (r : RVs K G H xs vs []) {i : Nat} {p : PV} (h : xs[i]? = some p) : ∃ v, vs[i]? = some v ∧ RV K G H p v [] := r.get h
/-- a source's items stand -/
structure Src (K : W.Frag) (G : Gh) (H : Hp) (k : Kn) (x : V) (xs : List PV) (vs : List V) : Prop where
  sc : ∀ G' H', Keep K G G' H H' [] → Sc H' k x vs ∧ RVs K G' H' xs vs []
theorem Src.now {k : Kn} {x : V} {xs : List PV} {vs : List V} (s : Src K G H k x xs vs) : Sc H k x vs ∧ RVs K G H xs vs [] := s.sc _ _ Keep.refl
theorem str_rv (z : Str) : ∀ l : List Nat, RVs K G H (l.map fun c => PV.str ⟨#[c]⟩) (l.map fun c => V.str ⟨#[c]⟩) []
  | [] => .nil
  | c :: l => .cons (A := []) (B := []) (.str _) (str_rv z l)
theorem src_tup {xs : List PV} {x : V} {A : List Addr} (r : RV K G H (.tup xs) x A) : ∃ vs, Src K G H .t x xs vs := by
  obtain ⟨a, vs, rfl, e, r2⟩ := r.tup_of
  exact ⟨vs, ⟨fun G' H' k => ⟨.t (k.tup _ _ e), r2.keep k⟩⟩⟩
theorem src_lst {m : Md} {xs : List PV} {x : V} {A : List Addr} (r : RV K G H (.lst m xs) x A) : ∃ vs, Src K (G.addT A) H .l x (brws xs) vs := by
  have r' := r.keep (Keep.addT (K := K) A A)
  have hb := r.brwT
  cases m with
  | o =>
    have hb : RV K (G.addT A) H (.lst .b (brws xs)) x [] := by simpa [Py.brw] using hb
    cases hb with
    | lb e t r2 => exact ⟨_, ⟨fun G' H' k => ⟨.l (k.lst _ _ e (.inr (.inl t))), r2.keep k⟩⟩⟩
  | f =>
    cases r' with
    | lf e t r2 =>
      rename_i vs
      have r3 : RVs K (G.addT []) H (brws xs) vs [] := r2.brw fun _ z => nomatch z
      exact ⟨_, ⟨fun G' H' k => ⟨.l (k.lst _ _ e (.inl t)), r3.keep k⟩⟩⟩
  | b =>
    cases r' with
    | lb e t r2 =>
      have r3 := r2.brw fun _ z => nomatch z
      exact ⟨_, ⟨fun G' H' k => ⟨.l (k.lst _ _ e (.inr (.inl t))), r3.keep k⟩⟩⟩
  | t =>
    cases r' with
    | lt e t r2 =>
      have r3 := r2.brw fun _ z => nomatch z
      exact ⟨_, ⟨fun G' H' k => ⟨.l (k.lst _ _ e (.inr (.inl t))), r3.keep k⟩⟩⟩
theorem src_str {z : Str} {x : V} {A : List Addr} (r : RV K G H (.str z) x A) : ∃ vs, Src K G H .s x (z.cps.toList.map fun c => PV.str ⟨#[c]⟩) vs := by
  cases r
  exact ⟨_, ⟨fun G' H' k => ⟨.s, str_rv z _⟩⟩⟩
theorem Src.keep {k : Kn} {x : V} {xs : List PV} {vs : List V} (s : Src K G H k x xs vs) (kp : Keep K G G1 H H1 []) : Src K G1 H1 k x xs vs := ⟨fun G' H' k' => s.sc G' H' (kp.trans k')⟩
theorem Src.len {k : Kn} {x : V} {xs : List PV} {vs : List V} (s : Src K G H k x xs vs) : xs.length = vs.length := s.now.2.length

theorem wk_q {k : Kn} {x : V} {xs : List PV} {vs : List V} {J : It} (s : Src K G H k x xs vs) (j : ItQ K k x J) : Wk K G H J xs := by
  have hl := s.len
  cases j with
  | l a =>
    refine ⟨fun i G' H' kp hi => ?_, fun i G' H' kp hi => ?_, fun i G' H' y H'' p kp hp hy => ?_⟩
    · obtain ⟨sc, _⟩ := s.sc _ _ kp
      cases sc with | l e => exact ⟨_, _, .inl (.inl e), List.getElem?_eq_getElem (by omega)⟩
    · obtain ⟨sc, _⟩ := s.sc _ _ kp
      cases sc with | l e => exact ⟨_, .inl (.inl e), by omega⟩
    · obtain ⟨sc, r⟩ := s.sc _ _ kp
      cases sc with
      | l e =>
        obtain ⟨rfl, h⟩ := hy
        obtain ⟨v, hv, rv⟩ := r.get hp
        have := h _ (.inl (.inl e))
        rw [hv] at this
        cases this
        exact ⟨.inl rfl, rv⟩
  | t a =>
    refine ⟨fun i G' H' kp hi => ?_, fun i G' H' kp hi => ?_, fun i G' H' y H'' p kp hp hy => ?_⟩
    · obtain ⟨sc, _⟩ := s.sc _ _ kp
      cases sc with | t e => exact ⟨_, _, .inl (.inl e), List.getElem?_eq_getElem (by omega)⟩
    · obtain ⟨sc, _⟩ := s.sc _ _ kp
      cases sc with | t e => exact ⟨_, .inl (.inl e), by omega⟩
    · obtain ⟨sc, r⟩ := s.sc _ _ kp
      cases sc with
      | t e =>
        obtain ⟨rfl, h⟩ := hy
        obtain ⟨v, hv, rv⟩ := r.get hp
        have := h _ (.inl (.inl e))
        rw [hv] at this
        cases this
        exact ⟨.inl rfl, rv⟩
  | s z =>
    obtain ⟨sc0, r0⟩ := s.now
    cases sc0
    have hz : xs.length = z.cps.size := by rw [hl]; simp
    refine ⟨fun i G' H' kp hi => ?_, fun i G' H' kp hi => ?_, fun i G' H' y H'' p kp hp hy => ?_⟩
    · show i < z.cps.size
      omega
    · show z.cps.size ≤ i
      omega
    · obtain ⟨_, r⟩ := s.sc _ _ kp
      obtain ⟨rfl, c, hc, rfl⟩ := hy
      obtain ⟨v, hv, rv⟩ := r.get hp
      have : (z.cps.toList.map fun c => V.str ⟨#[c]⟩)[i]? = some (.str ⟨#[c]⟩) := by simp [hc]
      rw [this] at hv
      cases hv
      exact ⟨.inl rfl, rv⟩
theorem enumP_len : ∀ (i : Nat) (xs : List PV), (enumP i xs).length = xs.length
  | _, [] => rfl
  | i, x :: r => by simp [enumP, enumP_len (i + 1) r]
theorem enumP_get : ∀ (i j : Nat) (xs : List PV), (enumP i xs)[j]? = (xs[j]?).map fun x => PV.tup [.int ((i + j : Nat) : Int), x]
  | _, _, [] => by simp [enumP]
  | i, 0, x :: r => by simp [enumP]
  | i, j + 1, x :: r => by
    have := enumP_get (i + 1) j r
    simp only [enumP, List.getElem?_cons_succ, this]
    rw [show i + 1 + j = i + (j + 1) by omega]
theorem zipP_len : ∀ (xs ys : List PV), (zipP xs ys).length = min xs.length ys.length
  | [], _ => by simp [zipP]
  | _ :: _, [] => by simp [zipP]
  | x :: xs, y :: ys => by simp only [zipP, List.length_cons, zipP_len xs ys]; omega
theorem zipP_get : ∀ (xs ys : List PV) (j : Nat) (x y : PV), xs[j]? = some x → ys[j]? = some y → (zipP xs ys)[j]? = some (.tup [x, y])
  | [], _, _, _, _, h, _ => by simp at h
  | _ :: _, [], _, _, _, _, h => by simp at h
  | x :: xs, y :: ys, 0, _, _, h, h' => by simp at h h'; subst h h'; simp [zipP]
  | x :: xs, y :: ys, j + 1, a, b, h, h' => by simp only [zipP, List.getElem?_cons_succ] at *; exact zipP_get xs ys j a b h h'
theorem rv_pair {T : Addr} {p q : PV} {v w : V} (hT : H T = none) (r1 : RV K G H p v []) (r2 : RV K G H q w []) : RV K G (L2.upd H T (.tup [v, w])) (.tup [p, q]) (.ref T) [] :=
  .tup upd_same (RVs.keep (.cons (A := []) r1 (.cons (A := []) r2 .nil)) (Keep.lay hT))
theorem wk_enum {k : Kn} {x : V} {xs : List PV} {vs : List V} (s : Src K G H k x xs vs) : Wk K G H (ItE k x) (enumP 0 xs) := by
  have hl := s.len
  refine ⟨fun i G' H' kp hi => ?_, fun i G' H' kp hi => ?_, fun i G' H' y H'' p kp hp hy => ?_⟩
  · rw [enumP_len] at hi
    exact ⟨vs, _, (s.sc _ _ kp).1, List.getElem?_eq_getElem (by omega)⟩
  · rw [enumP_len] at hi
    exact ⟨vs, (s.sc _ _ kp).1, by omega⟩
  · obtain ⟨sc, r⟩ := s.sc _ _ kp
    obtain ⟨T, v, rfl, hT, rfl, h⟩ := hy
    rw [enumP_get] at hp
    cases hx : xs[i]? with
    | none => rw [hx] at hp; cases hp
    | some q =>
      rw [hx] at hp
      simp only [Option.map_some, Nat.zero_add, Option.some.injEq] at hp
      subst hp
      obtain ⟨v', hv, rv⟩ := r.get hx
      have := h _ sc
      rw [hv] at this
      cases this
      exact ⟨.inr (.inl ⟨_, _, hT, rfl⟩), rv_pair hT (.int _) rv⟩
theorem wk_zip {k l : Kn} {x y : V} {xs ys : List PV} {vs ws : List V} (s : Src K G H k x xs vs) (t : Src K G H l y ys ws) : Wk K G H (ItZ k l x y) (zipP xs ys) := by
  have hl := s.len
  have hl2 := t.len
  refine ⟨fun i G' H' kp hi => ?_, fun i G' H' kp hi => ?_, fun i G' H' z H'' p kp hp hy => ?_⟩
  · rw [zipP_len] at hi
    exact ⟨vs, ws, _, _, (s.sc _ _ kp).1, (t.sc _ _ kp).1, List.getElem?_eq_getElem (by omega), List.getElem?_eq_getElem (by omega)⟩
  · rw [zipP_len] at hi
    exact ⟨vs, ws, (s.sc _ _ kp).1, (t.sc _ _ kp).1, by omega⟩
  · obtain ⟨sc, r⟩ := s.sc _ _ kp
    obtain ⟨sc2, r2⟩ := t.sc _ _ kp
    obtain ⟨T, v, w, rfl, hT, rfl, h, h2⟩ := hy
    have hi : i < (zipP xs ys).length := (List.getElem?_eq_some_iff.mp hp).1
    rw [zipP_len] at hi
    have g1 : xs[i]? = some xs[i] := List.getElem?_eq_getElem (by omega)
    have g2 : ys[i]? = some ys[i] := List.getElem?_eq_getElem (by omega)
    rw [zipP_get _ _ _ _ _ g1 g2] at hp
    cases hp
    obtain ⟨v', hv, rv⟩ := r.get g1
    have := h _ sc
    rw [hv] at this
    cases this
    obtain ⟨w', hw, rw'⟩ := r2.get g2
    have := h2 _ sc2
    rw [hw] at this
    cases this
    exact ⟨.inr (.inl ⟨_, _, hT, rfl⟩), rv_pair hT rv rw'⟩
theorem wk_ezp {k l : Kn} {x y : V} {xs ys : List PV} {vs ws : List V} (s : Src K G H k x xs vs) (t : Src K G H l y ys ws) : Wk K G H (ItEZ k l x y) (enumP 0 (zipP xs ys)) := by
  have hl := s.len
  have hl2 := t.len
  refine ⟨fun i G' H' kp hi => ?_, fun i G' H' kp hi => ?_, fun i G' H' z H'' p kp hp hy => ?_⟩
  · rw [enumP_len, zipP_len] at hi
    exact ⟨vs, ws, _, _, (s.sc _ _ kp).1, (t.sc _ _ kp).1, List.getElem?_eq_getElem (by omega), List.getElem?_eq_getElem (by omega)⟩
  · rw [enumP_len, zipP_len] at hi
    exact ⟨vs, ws, (s.sc _ _ kp).1, (t.sc _ _ kp).1, by omega⟩
  · obtain ⟨sc, r⟩ := s.sc _ _ kp
    obtain ⟨sc2, r2⟩ := t.sc _ _ kp
    obtain ⟨T, U, v, w, rfl, hT, hU, rfl, h, h2⟩ := hy
    have hi : i < (enumP 0 (zipP xs ys)).length := (List.getElem?_eq_some_iff.mp hp).1
    rw [enumP_len, zipP_len] at hi
    have g1 : xs[i]? = some xs[i] := List.getElem?_eq_getElem (by omega)
    have g2 : ys[i]? = some ys[i] := List.getElem?_eq_getElem (by omega)
    rw [enumP_get, zipP_get _ _ _ _ _ g1 g2] at hp
    simp only [Option.map_some, Nat.zero_add, Option.some.injEq] at hp
    subst hp
    obtain ⟨v', hv, rv⟩ := r.get g1
    have := h _ sc
    rw [hv] at this
    cases this
    obtain ⟨w', hw, rw'⟩ := r2.get g2
    have := h2 _ sc2
    rw [hw] at this
    cases this
    exact ⟨.inr (.inr ⟨_, _, _, _, hT, hU, rfl⟩), rv_pair hU (.int _) (rv_pair hT rv rw')⟩
theorem rngP_len : ∀ (a : Int) (n : Nat), (rngP a n).length = n
  | _, 0 => rfl
  | a, n + 1 => by simp [rngP, rngP_len (a + 1) n]
theorem rngP_get : ∀ (a : Int) (n i : Nat), i < n → (rngP a n)[i]? = some (.int (a + i))
  | _, 0, _, h => by omega
  | a, n + 1, 0, _ => by simp [rngP]
  | a, n + 1, i + 1, h => by
    simp only [rngP, List.getElem?_cons_succ, rngP_get (a + 1) n i (by omega)]
    congr 2
    omega
theorem rng3P_len : ∀ (a c : Int) (n : Nat), (rng3P a c n).length = n
  | _, _, 0 => rfl
  | a, c, n + 1 => by simp [rng3P, rng3P_len (a + c) c n]
theorem rng3P_get : ∀ (a c : Int) (n i : Nat), i < n → (rng3P a c n)[i]? = some (.int (a + (i : Nat) * c))
  | _, _, 0, _, h => by omega
  | a, c, n + 1, 0, _ => by simp [rng3P]
  | a, c, n + 1, i + 1, h => by
    simp only [rng3P, List.getElem?_cons_succ, rng3P_get (a + c) c n i (by omega)]
    congr 2
    rw [show ((i + 1 : Nat) : Int) = (i : Int) + 1 by omega, Int.add_mul]
    omega
theorem wk_rng (lo : Int) (n : Nat) : Wk K G H (Itr lo n) (rngP lo n) := by
  refine ⟨fun i G' H' kp hi => ?_, fun i G' H' kp hi => ?_, fun i G' H' y H'' p kp hp hy => ?_⟩
  · rw [rngP_len] at hi; exact hi
  · rw [rngP_len] at hi; exact Nat.le_of_eq hi.symm
  · have hi : i < (rngP lo n).length := (List.getElem?_eq_some_iff.mp hp).1
    rw [rngP_len] at hi
    rw [rngP_get _ _ _ hi] at hp
    cases hp
    obtain ⟨rfl, rfl⟩ := hy
    exact ⟨.inl rfl, .int _⟩
theorem wk_rng3 (lo c : Int) (n : Nat) : Wk K G H (Itc lo c n) (rng3P lo c n) := by
  refine ⟨fun i G' H' kp hi => ?_, fun i G' H' kp hi => ?_, fun i G' H' y H'' p kp hp hy => ?_⟩
  · rw [rng3P_len] at hi; exact hi
  · rw [rng3P_len] at hi; exact Nat.le_of_eq hi.symm
  · have hi : i < (rng3P lo c n).length := (List.getElem?_eq_some_iff.mp hp).1
    rw [rng3P_len] at hi
    rw [rng3P_get _ _ _ _ hi] at hp
    cases hp
    obtain ⟨rfl, rfl⟩ := hy
    exact ⟨.inl rfl, .int _⟩

/-- a value that owns nothing is read as it is -/
theorem rdV_rv {p : PV} {x : V} (r : RV K G H p x []) : rdV p = p := by
  generalize hA : ([] : List Addr) = A at r
  cases r <;> first
    | rfl
    | (cases hA)
theorem rdV_idem {p : PV} {x : V} (r : RV K G H p x []) : RV K G H (rdV p) x [] := by rw [rdV_rv r]; exact r
end

/-! ### targets -/
mutual
inductive Bnd (H : Hp) : Tg → V → List (Nat × V) → Prop
  | v (i : Nat) (x : V) : Bnd H (.v i) x [(i, x)]
  | t {l : List Tg} {a : Addr} {xs : List V} {ps : List (Nat × V)} : H a = some (.tup xs) → Bnds H l xs ps → Bnd H (.t l) (.ref a) ps
  | l {l : List Tg} {a : Addr} {xs : List V} {ps : List (Nat × V)} : H a = some (.lst xs) → Bnds H l xs ps → Bnd H (.t l) (.ref a) ps
inductive Bnds (H : Hp) : List Tg → List V → List (Nat × V) → Prop
  | nil : Bnds H [] [] []
  | cons {t : Tg} {l : List Tg} {x : V} {xs : List V} {ps qs : List (Nat × V)} : Bnd H t x ps → Bnds H l xs qs → Bnds H (t :: l) (x :: xs) (ps ++ qs)
end
/-- the stores, one by one -/
def stS (σ : L2.St) : List (Nat × V) → L2.St
  | [] => σ
  | p :: r => stS (σ.set p.1 (some p.2)) r
theorem stS_app (σ : L2.St) : ∀ (ps qs : List (Nat × V)), stS σ (ps ++ qs) = stS (stS σ ps) qs
  | [], _ => rfl
  | p :: r, qs => stS_app _ r qs
def gT (tg : Tg) : TG := fun x σ H Q => ∃ ps, Bnd H tg x ps ∧ Q (stS σ ps) H
def gTs (l : List Tg) : TGs := fun xs σ H Q => ∃ ps, Bnds H l xs ps ∧ Q (stS σ ps) H
/-! ### a list unpacked -/
section
variable {prog : Program} {w : World} {A : Around} {E : Value → Shared → Prop} {s : Shared}
theorem draw_lst {it t : Addr} {items : Array Value} (hne : t ≠ it) : ∀ (n i : Nat) (s : Shared) (Q : List Value → Shared → Prop), s.heap.IsListIter it t i → s.heap.IsList t items → i + n ≤ items.size →
    (∀ h', h'.IsListIter it t (i + n) → Heap.SameBut it s.heap h' → Q ((items.toList.drop i).take n) { s with heap := h' }) → wpAny (model prog w) A (draw (.ref it) n) Q E s
  | 0, i, s, Q, hit, _, _, hQ => by
    show wpAny _ _ (pure []) Q E s
    exact wpAny_pure (by simpa using (hQ s.heap hit (Heap.SameBut.refl ..)))
  | n + 1, i, s, Q, hit, ht, hle, hQ => by
    have hlt : i < items.size := by omega
    show wpAny _ _ (pyNext (.ref it) >>= _) Q E s
    refine wpAny_bind (wpAny_pyNext_list_item hit ht (x := items[i]) (by simp [hlt]) fun h1 hit1 hs1 => ?_)
    refine wpAny_bind (wpAny_holding (draw_lst hne n (i + 1) _ _ hit1 (ht.at fun o e => hs1.extBut _ o hne e) (by omega) fun h2 hit2 hs2 => wpAny_pure ?_))
    have hd : items.toList.drop i = items[i] :: items.toList.drop (i + 1) := by simp [List.drop_eq_getElem_cons, hlt]
    have := hQ h2 (by rw [show i + (n + 1) = i + 1 + n by omega]; exact hit2) (hs1.trans hs2)
    rw [hd, List.take_succ_cons] at this
    exact this
theorem unpackItems_lst {t : Addr} {items : Array Value} {Q : List Value → Shared → Prop} (hh : A.handled = none) (ht : s.heap.IsList t items)
    (hQ : ∀ h', Heap.ExtBut s.heap.objs.size s.heap h' → Q items.toList { s with heap := h' }) : wpAny (model prog w) A (unpackItems (.ref t) items.size none) Q E s := by
  have hlt : t ≠ s.heap.objs.size := by obtain ⟨o, ho, _⟩ := ht; exact Nat.ne_of_lt (Heap.lt_size ho)
  unfold unpackItems
  refine wpAny_bind ?_
  unfold notIterableAtAll
  refine wpAny_bind (wpAny_specialOf ht.typeIs PySem.F.slot_list_iter.lookup ?_)
  refine wpAny_pure ?_
  simp only [Bool.false_eq_true, if_false]
  refine wpAny_bind (wpAny_holding (wpAny_pyIter_list ht ?_))
  have ht0 : ∀ o : Obj, (s.heap.push o).IsList t items := fun o => ht.at fun _ e => Heap.get?_push_of_some _ e
  refine wpAny_bind (wpAny_holding (draw_lst hlt items.size 0 _ _ ⟨_, Heap.get?_push_size _ rfl, rfl, rfl⟩ (ht0 _) (by omega) fun h1 hit1 hs1 => ?_))
  have hall : List.take items.size (List.drop 0 items.toList) = items.toList := by
    rw [List.drop_zero]; exact (List.take_of_length_le (by simp))
  rw [hall]
  rw [if_neg (by simp)]
  have ht1 : h1.IsList t items := (ht0 _).at fun o e => hs1.extBut _ o hlt e
  rw [Nat.zero_add] at hit1
  refine wpAny_bind (wpAny_holding (wpAny_pyNext_list_end hh hit1 ht1 (by simp) fun h2 he2 => ?_))
  simp only [Option.isSome_none, Bool.false_eq_true, if_false]
  exact wpAny_pure (hQ h2 fun b o hb e => he2 b o hb (hs1.extBut b o hb (Heap.get?_push_of_some _ e)))
theorem assign_Tuple_lst {env : PySem.Env} {elts : List Expr} {x1} {pos : Pos} {t : Addr} {items : Array Value} {Q : Unit → Shared → Prop} (hh : A.handled = none) (ht : s.heap.IsList t items)
    (hn : (assignEach elts env).length = items.size) (hstar : (assignEach elts env).findIdx? (·.1) = none)
    (h : ∀ h', Heap.ExtBut s.heap.objs.size s.heap h' → wpAny (model prog w) A (assignInOrder ((assignEach elts env).map (·.2)) items.toList) Q E { s with heap := h' }) :
    wpAny (model prog w) A (assign (.Tuple elts x1 pos) env (.ref t)) Q E s := by
  rw [assign_Tuple]
  refine wpAny_bind (wpAny_standAt ?_)
  unfold unpack
  rw [hn, hstar]
  exact wpAny_bind (wpAny_holding (unpackItems_lst hh ht h))
end
theorem pg_lst {X : Cx} {pos : Pos} {es : List Expr} {k : Nat} {t : TGs} {n : Nat} (hc : X.calm = true) (h : PGs X es t)
    (hn : (assignEach es X.env).length = n) (hst : (assignEach es X.env).findIdx? (·.1) = none) : PG X (.Tuple es k pos) (fun v σ H Q => ∃ a xs, v = .ref a ∧ H a = some (.lst xs) ∧ xs.length = n ∧ t xs σ H Q) := by
  refine ⟨fun pins s σ H v u Q I r hw => ?_⟩
  obtain ⟨a, xs, e1, hq, hl, hw⟩ := hw
  subst e1
  cases r
  obtain ⟨its, rv, ht, hz⟩ := I.list (.inl (.inl hq))
  refine assign_Tuple_lst (I.ok.hd hc) ht.isList (by simp [hn, ← hl, rv.length]) hst fun h' hx => ?_
  have I1 : Inv X pins σ H { s with heap := h' } := I.kept (t' := s.toks) fun b o e => hx b o (Nat.ne_of_lt (Heap.lt_size e)) e
  exact h.run pins _ σ H xs _ Q I1 (by simpa using rv) hw

/-- the target's names may be stored -/
def StoB (X : Cx) (sc : Scope) : Prop := ∀ x, Loc sc x → Loc X.env.scope x ∧ (X.fn x = true ∨ X.env.scope.names.lookup x = some .local)
section
variable {X : Cx} {sc : Scope}
theorem assign_cons {e : Expr} {es : List Expr} (h : noStar e) (env : PySem.Env) : assignEach (e :: es) env = (false, assign e env) :: assignEach es env := by
  cases e <;> first | rfl | exact absurd rfl (h _ _)
theorem assign_star {es : List Expr} (h : ∀ e ∈ es, noStar e) (env : PySem.Env) : (assignEach es env).findIdx? (·.1) = none ∧ (assignEach es env).length = es.length := by
  induction es with
  | nil => exact ⟨rfl, rfl⟩
  | cons e es ih =>
    obtain ⟨h1, h2⟩ := ih fun x hx => h x (List.mem_cons_of_mem _ hx)
    rw [assign_cons (h e List.mem_cons_self)]
    refine ⟨?_, by simp [h2]⟩
    simp only [List.findIdx?_cons, Bool.false_eq_true, if_false, h1, Option.map_none]
theorem chkTs_noStar {N : List Str} : ∀ {l : List Tg} {es : List Expr}, chkTs N sc l es = true → ∀ e ∈ es, noStar e
  | [], [], _ => fun _ h => nomatch h
  | t :: l, e :: es, h => fun x hx y p z => by
    simp only [chkTs, Bool.and_eq_true] at h
    rcases List.mem_cons.mp hx with q | q
    · subst q z
      cases t <;> simp [chkT] at h
    · exact chkTs_noStar h.2 x q y p z
  | [], _ :: _, h => by simp [chkTs] at h
  | _ :: _, [], h => by simp [chkTs] at h
theorem chkTs_len {N : List Str} : ∀ {l : List Tg} {es : List Expr}, chkTs N sc l es = true → l.length = es.length
  | [], [], _ => rfl
  | t :: l, e :: es, h => by
    simp only [chkTs, Bool.and_eq_true] at h
    rw [List.length_cons, List.length_cons, chkTs_len h.2]
  | [], _ :: _, h => by simp [chkTs] at h
  | _ :: _, [], h => by simp [chkTs] at h
theorem Bnds.len {H : Hp} : ∀ {l : List Tg} {xs : List V} {ps : List (Nat × V)}, Bnds H l xs ps → xs.length = l.length
  | _, _, _, .nil => rfl
  | _, _, _, .cons _ r => by rw [List.length_cons, List.length_cons, r.len]
mutual
theorem pgT (hc : X.calm = true) (hN : X.N.Nodup) (st : StoB X sc) : ∀ (tg : Tg) (e : Expr), chkT X.N sc tg e = true → PG X e (gT tg)
  | .v i, e, h => by
    cases e <;> simp only [chkT, Bool.false_eq_true] at h
    rename_i x p
    simp only [Bool.and_eq_true, atB, decide_eq_true_eq] at h
    obtain ⟨h1, h2⟩ := st x (locB_ok h.2)
    have := pg_name (pos := p) hN h.1 h1 h2
    refine ⟨fun pins s σ H v u Q I r hq => this.run pins s σ H v u Q I r ?_⟩
    obtain ⟨ps, b, q⟩ := hq
    cases b
    exact q
  | .t l, e, h => by
    cases e <;> simp only [chkT, Bool.false_eq_true] at h
    rename_i es kk p
    have hs := pgTs hc hN st l es h
    obtain ⟨f1, f2⟩ := assign_star (chkTs_noStar h) X.env
    have g1 := pg_tup (pos := p) (k := kk) hc hs (n := l.length) (by rw [f2, chkTs_len h]) f1
    have g2 := pg_lst (pos := p) (k := kk) hc hs (n := l.length) (by rw [f2, chkTs_len h]) f1
    refine ⟨fun pins s σ H v u Q I r hq => ?_⟩
    obtain ⟨ps, b, q⟩ := hq
    cases b with
    | t e b => exact g1.run pins s σ H _ u Q I r ⟨_, _, rfl, .inl (.inl e), b.len, ps, b, q⟩
    | l e b => exact g2.run pins s σ H _ u Q I r ⟨_, _, rfl, e, b.len, ps, b, q⟩
theorem pgTs (hc : X.calm = true) (hN : X.N.Nodup) (st : StoB X sc) : ∀ (l : List Tg) (es : List Expr), chkTs X.N sc l es = true → PGs X es (gTs l)
  | [], es, h => by
    cases es <;> simp only [chkTs, Bool.false_eq_true] at h
    refine ⟨fun pins s σ H vs us Q I r hq => pgs_nil.run pins s σ H vs us Q I r ?_⟩
    obtain ⟨ps, b, q⟩ := hq
    cases b
    exact ⟨rfl, q⟩
  | t :: l, es, h => by
    cases es with
    | nil => simp [chkTs] at h
    | cons e es => ?_
    have hns := chkTs_noStar h e List.mem_cons_self
    simp only [chkTs, Bool.and_eq_true] at h
    have h1 := pgT hc hN st t e h.1
    have h2 := pgTs hc hN st l es h.2
    refine ⟨fun pins s σ H vs us Q I r hq => (pgs_cons h1 h2 ?_).run pins s σ H vs us Q I r ?_⟩
    · rw [assign_cons hns]; rfl
    · obtain ⟨ps, b, q⟩ := hq
      cases b with
      | cons b1 b2 => exact ⟨_, _, rfl, _, b1, _, b2, by rw [← stS_app]; exact q⟩
end
end
end Py
end

section
/-! PyO: list comprehensions. -/
namespace Py
open PySem L2 PyProof.Rows

def stE (e : Py.Env) : List (Nat × PV) → Py.Env
  | [] => e
  | p :: r => stE (e.set p.1 (some p.2)) r
theorem stE_app (e : Py.Env) : ∀ (ps qs : List (Nat × PV)), stE e (ps ++ qs) = stE (stE e ps) qs
  | [], _ => rfl
  | p :: r, qs => stE_app _ r qs
theorem stE_length (e : Py.Env) : ∀ qs : List (Nat × PV), (stE e qs).length = e.length
  | [] => rfl
  | p :: r => by rw [stE, stE_length, List.length_set]
theorem stS_length (σ : L2.St) : ∀ qs : List (Nat × V), (stS σ qs).length = σ.length
  | [] => rfl
  | p :: r => by rw [stS, stS_length, List.length_set]
section
variable {K : W.Frag} {G : Gh} {H : Hp}
/-- stores side by side -/
def Sto (K : W.Frag) (G : Gh) (H : Hp) (n : Nat) (own : List Nat) : PV × Nat → V × Nat → Prop := fun _ _ => True
abbrev StoP (K : W.Frag) (G : Gh) (H : Hp) (n : Nat) (own : List Nat) (a : Nat × PV) (b : Nat × V) : Prop := a.1 = b.1 ∧ a.1 < n ∧ a.1 ∈ own ∧ RV K G H a.2 b.2 []
theorem Paired.app {α β : Type} {F : α → β → Prop} : ∀ {l l' : List α} {m m' : List β}, Paired F l m → Paired F l' m' → Paired F (l ++ l') (m ++ m')
  | _, _, _, _, .nil, h => h
  | _, _, _, _, .cons a t, h => .cons a (Paired.app t h)
mutual
theorem bind_ok : ∀ (tg : Tg) (p : PV) (e e2 : Py.Env) (x : V), bindT tg p e = some e2 → RV K G H p x [] → ∃ ps qs, Bnd H tg x ps ∧ e2 = stE e qs ∧ Paired (StoP K G H e.length tg.own) qs ps
  | .v i, p, e, e2, x, h, r => by
    simp only [bindT] at h
    split at h
    · cases h
      exact ⟨[(i, x)], [(i, p)], .v i x, rfl, .cons ⟨rfl, by assumption, by simp [Tg.own], r⟩ .nil⟩
    · cases h
  | .t l, p, e, e2, x, h, r => by
    cases p <;> simp only [bindT, reduceCtorEq] at h
    · obtain ⟨a, vs, rfl, ea, r2⟩ := r.tup_of
      obtain ⟨ps, qs, b, e1, q⟩ := binds_ok l _ e e2 vs h r2
      exact ⟨ps, qs, .t ea b, e1, by simpa [Tg.own] using q⟩
    · obtain ⟨a, vs, B, rfl, ea, r2, hB⟩ := r.lst_of
      have hB0 : B = [] := List.eq_nil_iff_forall_not_mem.mpr fun c hc => by cases hB c hc
      subst hB0
      obtain ⟨ps, qs, b, e1, q⟩ := binds_ok l _ e e2 vs h (r2.brw fun _ z => nomatch z)
      exact ⟨ps, qs, .l ea b, e1, by simpa [Tg.own] using q⟩
theorem binds_ok : ∀ (l : List Tg) (p : List PV) (e e2 : Py.Env) (x : List V), bindTs l p e = some e2 → RVs K G H p x [] → ∃ ps qs, Bnds H l x ps ∧ e2 = stE e qs ∧ Paired (StoP K G H e.length (Tg.owns l)) qs ps
  | [], p, e, e2, x, h, r => by
    cases p <;> simp only [bindTs, reduceCtorEq, Option.some.injEq] at h
    subst h
    cases x with
    | nil => exact ⟨[], [], .nil, rfl, .nil⟩
    | cons _ _ => exact (r.nil_of).elim
  | t :: l, p, e, e2, x, h, r => by
    cases p with
    | nil => simp [bindTs] at h
    | cons p ps' =>
      cases x with
      | nil => cases r
      | cons x xs =>
        simp only [bindTs] at h
        cases h1 : bindT t p e with
        | none => rw [h1] at h; cases h
        | some e1 =>
          rw [h1] at h
          obtain ⟨ps, qs, b, z, q⟩ := bind_ok t p e e1 x h1 r.inv.1
          obtain ⟨ps2, qs2, b2, z2, q2⟩ := binds_ok l ps' e1 e2 xs h r.inv.2
          have le : e1.length = e.length := by rw [z, stE_length]
          refine ⟨ps ++ ps2, qs ++ qs2, .cons b b2, by rw [z2, z, stE_app], Paired.app (Paired.imp q fun a c w => ⟨w.1, w.2.1, ?_, w.2.2.2⟩) (Paired.imp q2 fun a c w => ⟨w.1, ?_, ?_, w.2.2.2⟩)⟩
          · simp only [Tg.owns, List.mem_append]; exact .inl w.2.2.1
          · rw [← le]; exact w.2.1
          · simp only [Tg.owns, List.mem_append]; exact .inr w.2.2.1
end
theorem er_set {e : Py.Env} {σ : L2.St} {i : Nat} {p : PV} {x : V} (er : ER K G H e σ) (r : RV K G H p x []) : ER K G H (e.set i (some p)) (σ.set i (some x)) := by
  refine ⟨fun j v hj => ?_, by simpa using er.2⟩
  by_cases hi : i = j
  · subst hi
    have hl : i < e.length := by
      have := (List.getElem?_eq_some_iff.mp hj).1
      simpa using this
    rw [List.getElem?_set_self hl] at hj
    cases hj
    exact ⟨x, by rw [List.getElem?_set_self (by have := er.2; omega)], rdV_idem r⟩
  · rw [List.getElem?_set_ne hi] at hj
    obtain ⟨y, e1, r1⟩ := er.1 j v hj
    exact ⟨y, by rw [List.getElem?_set_ne hi]; exact e1, r1⟩
theorem er_sto {n : Nat} {own : List Nat} : ∀ {qs : List (Nat × PV)} {ps : List (Nat × V)} {e : Py.Env} {σ : L2.St}, Paired (StoP K G H n own) qs ps → ER K G H e σ → ER K G H (stE e qs) (stS σ ps)
  | _, _, _, _, .nil, er => er
  | _, _, _, _, .cons (a := a) (b := b) w t, er => by
    obtain ⟨w1, _, _, w4⟩ := w
    simp only [stE, stS]
    rw [← w1]
    exact er_sto t (er_set er w4)
theorem wipeE_length (e : Py.Env) : ∀ vs : List Nat, (wipeE e vs).length = e.length
  | [] => rfl
  | v :: vs => by unfold wipeE; rw [List.length_set, wipeE_length e vs]
theorem wipeE_some {e : Py.Env} {i : Nat} {x : PV} : ∀ {vs : List Nat}, (wipeE e vs)[i]? = some (some x) → e[i]? = some (some x) ∧ i ∉ vs
  | [], h => ⟨h, by simp⟩
  | v :: vs, h => by
    unfold wipeE at h
    by_cases hi : v = i
    · subst hi
      by_cases hv : v < (wipeE e vs).length
      · rw [List.getElem?_set_self hv] at h; cases h
      · rw [List.getElem?_eq_none (by simpa using hv)] at h; cases h
    · rw [List.getElem?_set_ne hi] at h
      obtain ⟨h1, h2⟩ := wipeE_some h
      exact ⟨h1, by simp only [List.mem_cons, not_or]; exact ⟨fun e => hi e.symm, h2⟩⟩
theorem wipe_keep {σ : L2.St} {i : Nat} : ∀ {vs : List Nat}, i ∉ vs → (wipe σ vs)[i]? = σ[i]?
  | [], _ => rfl
  | v :: vs, h => by
    simp only [List.mem_cons, not_or] at h
    unfold wipe
    rw [List.getElem?_set_ne (fun z => h.1 z.symm)]
    exact wipe_keep h.2
theorem er_wipe {e : Py.Env} {σ : L2.St} {vs : List Nat} (er : ER K G H e σ) : ER K G H (wipeE e vs) (wipe σ vs) := by
  refine ⟨fun i v h => ?_, by rw [wipeE_length, wipe_length]; exact er.2⟩
  obtain ⟨h1, h2⟩ := wipeE_some h
  obtain ⟨x, e1, r⟩ := er.1 i v h1
  exact ⟨x, by rw [wipe_keep h2]; exact e1, r⟩
theorem wipe_get (σ : L2.St) (j : Nat) : ∀ vs : List Nat, (wipe σ vs)[j]? = if j ∈ vs then (σ[j]?).map (fun _ => none) else σ[j]?
  | [] => by simp [wipe]
  | v :: vs => by
    unfold wipe
    by_cases hj : v = j
    · subst hj
      rw [if_pos List.mem_cons_self, List.getElem?_set]
      simp only [if_true, wipe_length]
      by_cases hl : v < σ.length
      · simp [hl]
      · simp [hl]
    · rw [List.getElem?_set_ne hj, wipe_get σ j vs]
      by_cases hm : j ∈ vs
      · rw [if_pos hm, if_pos (List.mem_cons_of_mem _ hm)]
      · rw [if_neg hm, if_neg (by simp only [List.mem_cons, not_or]; exact ⟨fun z => hj z.symm, hm⟩)]
theorem wipe_set {σ : L2.St} {i : Nat} {o : Option V} {vs : List Nat} (h : i ∈ vs) : wipe (σ.set i o) vs = wipe σ vs := by
  refine List.ext_getElem? fun j => ?_
  rw [wipe_get, wipe_get]
  by_cases hj : j ∈ vs
  · rw [if_pos hj, if_pos hj]
    by_cases hl : j < σ.length
    · rw [List.getElem?_eq_getElem (by simpa using hl), List.getElem?_eq_getElem hl]
      rfl
    · rw [List.getElem?_eq_none (by simpa using hl), List.getElem?_eq_none (by simpa using hl)]
  · rw [if_neg hj, if_neg hj, List.getElem?_set_ne (fun z => hj (by rw [← z]; exact h))]
theorem wipe_wipe (σ : L2.St) (vs : List Nat) : wipe (wipe σ vs) vs = wipe σ vs := by
  refine List.ext_getElem? fun j => ?_
  rw [wipe_get, wipe_get]
  by_cases hj : j ∈ vs
  · rw [if_pos hj, if_pos hj]
    cases σ[j]? <;> rfl
  · rw [if_neg hj, if_neg hj]
theorem wipe_stS {vs : List Nat} : ∀ {ps : List (Nat × V)} {σ : L2.St}, (∀ p ∈ ps, p.1 ∈ vs) → wipe (stS σ ps) vs = wipe σ vs
  | [], _, _ => rfl
  | p :: r, σ, h => by rw [stS, wipe_stS fun q hq => h q (List.mem_cons_of_mem _ hq), wipe_set (h p List.mem_cons_self)]
theorem sto_own {n : Nat} {own : List Nat} : ∀ {qs : List (Nat × PV)} {ps : List (Nat × V)}, Paired (StoP K G H n own) qs ps → ∀ p ∈ ps, p.1 ∈ own
  | _, _, .nil => fun _ h => nomatch h
  | _, _, .cons w t => fun p hp => by
    rcases List.mem_cons.mp hp with q | q
    · subst q; rw [← w.1]; exact w.2.2.1
    · exact sto_own t p q

theorem RVs.append : ∀ {xs ys : List PV} {vs ws : List V} {A B : List Addr}, RVs K G H xs vs A → RVs K G H ys ws B → RVs K G H (xs ++ ys) (vs ++ ws) (A ++ B)
  | _, _, _, _, _, _, .nil, h => h
  | _, _, _, _, _, _, .cons a r, h => by
    rw [List.append_assoc]
    exact .cons a (RVs.append r h)
theorem RVs.snoc {xs : List PV} {vs : List V} {z : PV} {y : V} {A B : List Addr} (h : RVs K G H xs vs A) (r : RV K G H z y B) : RVs K G H (xs ++ [z]) (vs ++ [y]) (A ++ B) := by
  have : RVs K G H [z] [y] (B ++ []) := .cons r .nil
  rw [List.append_nil] at this
  exact h.append this

/-! ### an owned list is written -/
theorem Keep.mut {D : Addr} {xs : List V} {o : HO} {A : List Addr} (e : H D = some (.lst xs)) (nf : ¬ G.fz D) (nt : ¬ G.tz D) (hA : D ∉ A) : Keep K G G H (L2.upd H D o) A where
  tup := fun a ys h => by rw [upd_ne (fun z => by rw [z, e] at h; cases h)]; exact h
  fz := fun _ h => h
  tz := fun _ h => h
  lst := fun a ys h q => by
    rw [upd_ne]
    · exact h
    · intro z
      subst z
      rcases q with q | q | q
      · exact nf q
      · exact nt q
      · exact hA q
  ds := fun _ _ h => h
  sr := fun _ h => h
  sc := rfl
  frz := fun a o u h => by rw [upd_ne (fun z => by rw [z, e] at h; cases h)]; exact h
theorem SR.mut {s : Py.St} {D : Addr} {xs ys : List V} (r : SR K G H s) (e : H D = some (.lst xs)) (nf : ¬ G.fz D) (nt : ¬ G.tz D) (nc : ∀ q c, G.sr = some (q, c) → D ≠ c) : SR K G (L2.upd H D (.lst ys)) s where
  len := r.len
  nd := r.nd
  dat := fun n d a e1 e2 => by
    have q := r.dat n d a e1 e2
    have ne : a ≠ D := fun z => q.isDc.ne_lst e z.symm
    exact q.keep (Keep.mut e nf nt (by simp)) fun o h => by rw [upd_ne ne]; exact h
  fl := fun a f => by
    have ne : a ≠ D := fun z => nf (z ▸ f)
    obtain ⟨zs, w⟩ := r.fl a f
    exact ⟨zs, by rw [upd_ne ne]; exact w⟩
  tl := fun a f => by
    have ne : a ≠ D := fun z => nt (z ▸ f)
    obtain ⟨zs, w⟩ := r.tl a f
    exact ⟨zs, by rw [upd_ne ne]; exact w⟩
  ft := r.ft
  op := r.op
  si := fun a c w => by
    obtain ⟨⟨n, kvs, ns, l, m, t, e1, e2, z⟩, q⟩ := r.si a c w
    have ne : a ≠ D := fun z => by rw [z, e] at e1; cases e1
    exact ⟨⟨n, kvs, ns, l, m, t, by rw [upd_ne ne]; exact e1, by rw [upd_ne (fun z => nc a c w z.symm)]; exact e2, z⟩, q⟩
  sc := by
    obtain ⟨ns, nl, q⟩ := r.sc
    refine ⟨ns, nl, q.imp id fun ⟨ob, w⟩ => ⟨ob, ?_⟩⟩
    rw [upd_ne (fun z => by rw [z, e] at w; cases w)]
    exact w
  nb := r.nb
/-- .. that is new since the base -/
theorem Nw.mut {H0 : Hp} {G0 : Gh} {s : Py.St} {D : Addr} {xs ys : List V} (n : Nw K H0 G0 H G s) (e : H D = some (.lst xs)) (f : Fr H0 G [D]) : Nw K H0 G0 (L2.upd H D (.lst ys)) G s where
  le := n.le
  pr := by
    have h0 := f.new D (by simp)
    exact ⟨fun a zs h => by rw [upd_ne (ne_of_none h h0)]; exact n.pr.tup a zs h, fun a o u h => by rw [upd_ne (ne_of_none h h0)]; exact n.pr.frz a o u h, fun a zs h q => by rw [upd_ne (ne_of_none h h0)]; exact n.pr.lst a zs h q, fun a h => by
      by_cases z : a = D
      · rw [z]; exact h0
      · rw [upd_ne z] at h; exact n.pr.dom a h⟩
  sr := n.sr.mut e (f.nf D (by simp)) (f.nt D (by simp)) (f.nc D (by simp))
end

theorem bind_assoc {α β γ : Type} (f : α → Py.St → R β) (g : β → Py.St → R γ) : ∀ r : R α, (r.bind f).bind g = r.bind fun a s => (f a s).bind g
  | .ok a s => rfl
  | .ex _ _ => rfl
  | .bad => rfl
  | .ask n k => by
    simp only [R.bind]
    congr 1
    funext i
    exact bind_assoc f g (k i)
theorem noEx_bind {α β : Type} (f : α → Py.St → R β) : ∀ r : R α, noEx (r.bind f) = (noEx r).bind fun a s => noEx (f a s)
  | .ok a s => rfl
  | .ex _ _ => rfl
  | .bad => rfl
  | .ask n k => by
    simp only [R.bind, noEx]
    congr 1
    funext i
    exact noEx_bind f (k i)
theorem Post.noex {α β : Type} {K : W.Frag} {H0 : Hp} {G0 : Gh} {rel : Rl α β} {W W' : XW} {Q : β → Hp → Prop} : ∀ {r : R α}, Post K H0 G0 rel W Q (noEx r) → Post K H0 G0 rel W' Q r
  | .ok _ _, h => h
  | .ex _ _, h => False.elim h
  | .bad, h => h
  | .ask n k, h => fun i hi => Post.noex (h i hi)

section
variable (K : W.Frag) (F : Nat → List PV → Py.St → R PV) (V : L2.St → XW)
def rWk (H0 : Hp) : Rl (List PV × Bool) It := fun G H q J A => A = [] ∧ Wk K G H J q.1 ∧ (q.2 = true → ∀ D : List Addr, (∀ a ∈ D, H0 a ≠ none) → Wk K (G.subT D) H J q.1)
def rdI (m : ME) : TI := fun σ H R => ∃ (G : Gh) (e : Py.Env) (s : Py.St), SR K G H s ∧ ER K G H e σ ∧ Post K H G (rWk K H) (V σ) R (evi F m e s)
end
/-- no exception leaves a comprehension -/
def V0 : L2.St → XW := fun _ _ _ _ => False

/-- one item of a comprehension -/
def lcF (F : Nat → List PV → Py.St → R PV) (tg : Tg) (own : List Nat) (hc : Bool) (c t : ME) (e : Py.Env) : PV → Py.St → R (Option PV) := fun x s2 => match bindT tg x (wipeE e own) with
  | none => .bad
  | some e2 => (if hc then (ev F c e2 s2).bind condB else .ok true s2).bind fun k s3 => if k then (ev F t e2 s3).bind fun z s4 => .ok (some z) s4 else .ok none s3
theorem ev_lc (F : Nat → List PV → Py.St → R PV) (tg : Tg) (own : List Nat) (it : ME) (hc : Bool) (c t : ME) (e : Py.Env) (s : Py.St) :
    ev F (.lc tg own it hc c t) e s = (evi F it e s).bind fun q s1 => if q.1.length ≤ sizeLine then (noEx (lcL (lcF F tg own hc c t e) q.1 s1)).bind fun zs s5 => .ok (.lst .o zs) s5 else .bad := rfl

section
variable {X : Cx} {T : Tb} {k : Nat} {V : L2.St → XW} {tg : Tg} {own : List Nat} {it c t : ME} {hc : Bool}
/-- a comprehension's state at a turn -/
structure LcI (X : Cx) (T : Tb) (V : L2.St → XW) (tg : Tg) (own : List Nat) (hc : Bool) (c t : ME) (e : Py.Env) (Q : VK) (σ : L2.St) (H0 : Hp) (G0 : Gh) (H1 : Hp) (G1 : Gh) (xs : List PV) (D : Addr) (i m : Nat) (H : Hp) : Prop where
  out : ∃ (G : Gh) (s : Py.St) (zs : List PV) (acc : List L2.V) (A : List Addr), m = xs.length - i ∧ i ≤ xs.length ∧ Nw X.K H0 G0 H G s ∧ Keep X.K G1 G H1 H [] ∧ ER X.K G H e σ ∧ H D = some (.lst acc) ∧ RVs X.K G H zs acc A ∧ Fr H0 G (D :: A) ∧ acc.length ≤ i ∧
    Post X.K H0 G0 (RV X.K) (V σ) Q ((noEx (lcL (lcF T.F tg own hc c t e) (xs.drop i) s)).bind fun ws s5 => .ok (.lst .o (zs ++ ws)) s5)
theorem Fr.sub {H : Hp} {G : Gh} {A B : List Addr} (f : Fr H G A) (h : ∀ a ∈ B, a ∈ A) (nd : B.Nodup) : Fr H G B := ⟨nd, fun a q => f.new a (h a q), fun a q => f.nf a (h a q), fun a q => f.nt a (h a q), fun a q => f.nc a (h a q)⟩

theorem lc_rd {σ : L2.St} {H : Hp} {Q : VK} (hsub : ∀ i ∈ tg.own, i ∈ own) (h : RE X T V (.lc tg own it hc c t) σ H Q) :
    tLc (rdI X.K T.F V it) (gT tg) (if hc then rdT X.K T.F V0 c else tYes) (rdE X.K T.F V0 t) own σ H Q := by
  obtain ⟨G, e, s, r, er, p⟩ := h
  rw [ev_lc] at p
  refine ⟨G, e, s, r, er, Post.mono (fun J H1 ⟨⟨xs, fl⟩, s1, G1, A1, n1, ⟨hA, wk, _⟩, fr1, p1⟩ => ?_) (Post.bind Le.refl Pr.refl p)⟩
  subst hA
  intro D hD
  by_cases hz : xs.length ≤ sizeLine
  case neg =>
    dsimp only at p1
    rw [if_neg hz] at p1
    exact noB p1
  dsimp only at p1 wk
  rw [if_pos hz] at p1
  have n1' : Nw X.K H G (L2.upd H1 D (.lst [])) G1 s1 := n1.lay hD
  refine ⟨LcI X T V tg own hc c t e Q σ H G H1 G1 xs D, ⟨xs.length, ⟨G1, s1, [], [], [], by simp, Nat.zero_le _, n1', Keep.lay hD, (n1.er r er).keep (Keep.lay hD), upd_same, .nil, n1.fr1 hD, Nat.le_refl _, ?_⟩⟩, ?_⟩
  · simpa using p1
  rintro i m H2 ⟨G2, s2, zs, acc, A, rfl, hi, n2, kp, er2, hD2, rz, fr, hacc, p2⟩
  by_cases hlt : i < xs.length
  case neg =>
    have ei : i = xs.length := by omega
    refine .inl ⟨wk.stop i G2 H2 kp ei, ?_⟩
    rw [ei, List.drop_length] at p2
    have p2 : Post X.K H G (RV X.K) (V σ) Q (.ok (.lst .o (zs ++ [])) s2) := p2
    rw [List.append_nil] at p2
    exact p2.at n2 (.lo hD2 rz) fr
  refine .inr ⟨wk.go i G2 H2 kp hlt, LcI X T V tg own hc c t e Q σ H G H1 G1 xs D (i + 1) (xs.length - (i + 1)), fun H' w => ⟨_, by omega, w⟩, fun x H3 hy => ?_⟩
  have hx : xs[i]? = some xs[i] := List.getElem?_eq_getElem hlt
  obtain ⟨st, rx⟩ := wk.yld i G2 H2 x H3 _ kp hx hy
  have n3 : Nw X.K H G H3 G2 s2 := st.nw n2
  have er3 : ER X.K G2 H3 (wipeE e own) (wipe σ own) := er_wipe (er2.keep (Keep.up st.up))
  rw [List.drop_eq_getElem_cons hlt] at p2
  have p2 : Post X.K H G (RV X.K) (V σ) Q ((noEx ((lcF T.F tg own hc c t e xs[i] s2).bind fun o s3 => (lcL (lcF T.F tg own hc c t e) (xs.drop (i + 1)) s3).bind fun ws s5 => .ok (match o with | some z => z :: ws | none => ws) s5)).bind fun ws s5 => .ok (.lst .o (zs ++ ws)) s5) := p2
  rw [noEx_bind, bind_assoc] at p2
  cases hb : bindT tg xs[i] (wipeE e own) with
  | none =>
    have e0 : lcF T.F tg own hc c t e xs[i] s2 = .bad := by unfold lcF; rw [hb]
    rw [e0] at p2
    exact False.elim p2
  | some e2 =>
    have e0 : lcF T.F tg own hc c t e xs[i] s2 = (if hc then (ev T.F c e2 s2).bind condB else .ok true s2).bind fun k s3 => if k then (ev T.F t e2 s3).bind fun z s4 => .ok (some z) s4 else .ok none s3 := by unfold lcF; rw [hb]
    rw [e0, noEx_bind, bind_assoc] at p2
    obtain ⟨ps, qs, b, ee, pq⟩ := bind_ok tg _ _ _ _ hb rx
    have erT : ER X.K G2 H3 e2 (stS (wipe σ own) ps) := by rw [ee]; exact er_sto pq er3
    refine ⟨ps, b, ?_, ?_⟩
    · rw [wipe_stS fun q hq => hsub _ (sto_own pq q hq), wipe_wipe]
    have hD3 : H3 D = some (.lst acc) := st.up _ _ hD2
    have rz3 : RVs X.K G2 H3 zs acc A := rz.keep (Keep.up st.up)
    have kp3 : Keep X.K G1 G2 H1 H3 [] := kp.trans (Keep.up st.up)
    have frl : ∀ a ∈ D :: A, ∃ ys, H3 a = some (.lst ys) := fun a ha => by
      rcases List.mem_cons.mp ha with q | q
      · rw [q]; exact ⟨_, hD3⟩
      · exact rz3.lists a q
    -- behind the test
    have tail : ∀ (bk : Bool) (H4 : Hp) (G4 : Gh) (s4 : Py.St), Nw X.K H3 G2 H4 G4 s4 → Post X.K H G (RV X.K) (V σ) Q ((noEx (if bk = true then (ev T.F t e2 s4).bind fun z s4 => .ok (some z) s4 else .ok none s4)).bind fun o s3 => (noEx ((lcL (lcF T.F tg own hc c t e) (xs.drop (i + 1)) s3).bind fun ws s5 => .ok (match o with | some z => z :: ws | none => ws) s5)).bind fun ws s5 => .ok (.lst .o (zs ++ ws)) s5) →
        if bk = true then rdE X.K T.F V0 t (stS (wipe σ own) ps) H4 (fun y H5 => ∃ acc, H5 D = some (.lst acc) ∧ acc.length < sizeLine ∧ LcI X T V tg own hc c t e Q σ H G H1 G1 xs D (i + 1) (xs.length - (i + 1)) (L2.upd H5 D (.lst (acc ++ [y])))) else LcI X T V tg own hc c t e Q σ H G H1 G1 xs D (i + 1) (xs.length - (i + 1)) H4 := by
      intro bk H4 G4 s4 n4 p4
      have n04 := n3.trans n4
      have fr4 : Fr H G4 (D :: A) := fr.on frl n4 (fun _ z => z)
      have hD4 : H4 D = some (.lst acc) := n4.pr.lst _ _ hD3 fun q c' z => fr.nc D List.mem_cons_self q c' z
      have rz4 : RVs X.K G4 H4 zs acc A := rz3.keep (n4.keep n3.sr fun a ha => fr.nc a (List.mem_cons_of_mem _ ha))
      have kp4 : Keep X.K G1 G4 H1 H4 [] := kp3.trans (n4.keep0 n3.sr)
      have er4 : ER X.K G4 H4 e σ := (er2.keep (Keep.up st.up)).keep (n4.keep0 n3.sr)
      cases bk with
      | false =>
        rw [if_neg (by decide)] at p4 ⊢
        refine ⟨G4, s4, zs, acc, A, rfl, hlt, n04, kp4, er4, hD4, rz4, fr4, Nat.le_succ_of_le hacc, ?_⟩
        have p4 : Post X.K H G (RV X.K) (V σ) Q ((noEx ((lcL (lcF T.F tg own hc c t e) (xs.drop (i + 1)) s4).bind fun ws s5 => .ok ws s5)).bind fun ws s5 => .ok (.lst .o (zs ++ ws)) s5) := p4
        rw [noEx_bind, bind_assoc] at p4
        exact p4
      | true =>
        rw [if_pos rfl] at p4 ⊢
        rw [noEx_bind, bind_assoc] at p4
        refine ⟨G4, e2, s4, n4.sr, erT.keep (n4.keep0 n3.sr), Post.noex (W := V σ) (Post.mono (fun y H5 ⟨z, s5, G5, B, n5, rzv, frB, p5⟩ => ?_) (Post.bind n04.le n04.pr p4))⟩
        have n05 := n04.trans n5
        have frl4 : ∀ a ∈ D :: A, ∃ ys, H4 a = some (.lst ys) := fun a ha => by
          rcases List.mem_cons.mp ha with q | q
          · rw [q]; exact ⟨_, hD4⟩
          · exact rz4.lists a q
        have fr5 : Fr H G5 (D :: A) := fr4.on frl4 n5 (fun _ z => z)
        have hD5 : H5 D = some (.lst acc) := n5.pr.lst _ _ hD4 fun q c' z => fr4.nc D List.mem_cons_self q c' z
        have rz5 : RVs X.K G5 H5 zs acc A := rz4.keep (n5.keep n04.sr fun a ha => fr4.nc a (List.mem_cons_of_mem _ ha))
        have frB' : Fr H G5 B := frB.back n04.pr.dom
        have off : ∀ a ∈ D :: A, a ∉ B := Fr.off frl4 frB
        have hDA : D ∉ A := (List.nodup_cons.mp fr.nd).1
        have hDB : D ∉ B := off D List.mem_cons_self
        have fD : Fr H G5 [D] := fr5.sub (fun a ha => by rw [List.mem_singleton.mp ha]; exact List.mem_cons_self) (by simp)
        have nfD := fD.nf D (by simp)
        have ntD := fD.nt D (by simp)
        have kM : ∀ {AA : List Addr}, D ∉ AA → Keep X.K G5 G5 H5 (L2.upd H5 D (.lst (acc ++ [y]))) AA := fun hh => Keep.mut hD5 nfD ntD hh
        refine ⟨acc, hD5, by omega, G5, s5, zs ++ [z], acc ++ [y], A ++ B, rfl, hlt, n05.mut hD5 fD, (kp4.trans (n5.keep0 n04.sr)).trans (kM (by simp)), (er4.keep (n5.keep0 n04.sr)).keep (kM (by simp)), upd_same, ?_, ?_, by simp; omega, ?_⟩
        · have q1 := rz5.keep (kM hDA)
          have q2 := rzv.keep (kM hDB)
          exact q1.snoc q2
        · have := fr5.append frB' off
          simpa using this
        · have p5 : Post X.K H G (RV X.K) (V σ) Q ((noEx ((lcL (lcF T.F tg own hc c t e) (xs.drop (i + 1)) s5).bind fun ws s6 => .ok (z :: ws) s6)).bind fun ws s6 => .ok (.lst .o (zs ++ ws)) s6) := p5
          rw [noEx_bind, bind_assoc] at p5
          have ez : (fun (ws : List PV) (s6 : Py.St) => (R.ok (PV.lst .o (zs ++ [z] ++ ws)) s6 : R PV)) = fun ws s6 => .ok (.lst .o (zs ++ (z :: ws))) s6 := by
            funext ws s6
            rw [List.append_assoc]
            rfl
          rw [ez]
          exact p5
    cases hc with
    | false =>
      rw [if_neg (by decide)]
      exact tail true H3 G2 s2 (Nw.refl n3.sr) p2
    | true =>
      rw [if_pos rfl] at p2 ⊢
      rw [noEx_bind, bind_assoc] at p2
      refine ⟨G2, e2, s2, n3.sr, erT, Post.noex (W := V σ) (Post.mono (fun y H4 ⟨w, s4, G4, B, n4, rw4, frB, p4⟩ => ?_) (Post.bind n3.le n3.pr p2))⟩
      cases w with
      | bl bb =>
        obtain rfl := rw4.bl_of
        exact ⟨bb, rfl, tail bb H4 G4 s4 n4 p4⟩
      | _ => exact noB p4
end
end Py
end

section
/-! PyP: every expression that the check takes. -/
namespace Py
open PySem L2 PyProof.Rows

theorem chk_star {M : Nm} {sc : Scope} {e : Expr} {p : Pos} : ∀ m : ME, chk M sc m (.Starred e p) = false := by
  intro m
  cases m <;> simp only [chk]
theorem chk_slice {M : Nm} {sc : Scope} {a b c : Option Expr} {p : Pos} : ∀ m : ME, chk M sc m (.Slice a b c p) = false := by
  intro m
  cases m <;> simp only [chk]
theorem chk_set {M : Nm} {sc : Scope} {es : List Expr} {k : Nat} {p : Pos} : ∀ m : ME, chk M sc m (.Set es k p) = false := by
  intro m
  cases m <;> simp only [chk]
theorem noStar_chk {M : Nm} {sc : Scope} {m : ME} {e : Expr} (h : chk M sc m e = true) : noStar e := fun x p z => by
  rw [z, chk_star] at h; cases h
theorem noSlice_chk {M : Nm} {sc : Scope} {m : ME} {e : Expr} (h : chk M sc m e = true) : noSlice e := fun a b c p z => by
  rw [z, chk_slice] at h; cases h
theorem noSet_chk {M : Nm} {sc : Scope} {m : ME} {e : Expr} (h : chk M sc m e = true) : ∀ es k p, e ≠ .Set es k p := fun a b c z => by
  rw [z, chk_set] at h; cases h
theorem m_noStar {M : Nm} {sc : Scope} {m : ME} {e : Expr} (h : chk M sc m e = true) : ∀ x, m ≠ .star x := fun x z => by
  rw [z] at h; simp only [chk, Bool.false_eq_true] at h
theorem noStar_list {M : Nm} {sc : Scope} : ∀ {ms : List ME} {es : List Expr}, chks M sc ms es = true → plainB ms = true → ∀ e ∈ es, noStar e
  | [], [], _, _ => fun _ h => nomatch h
  | [], _ :: _, h, _ => by simp [chks] at h
  | m :: ms, [], h, _ => by cases m <;> simp [chks] at h
  | m :: ms, e :: es, h, hp => by
    have h' : (chk M sc m e && chks M sc ms es) = true ∧ plainB ms = true := by
      cases m <;> simp only [plainB, Bool.false_eq_true] at hp <;> exact ⟨by simpa only [chks] using h, hp⟩
    rw [Bool.and_eq_true] at h'
    intro x hx
    rcases List.mem_cons.mp hx with q | q
    · rw [q]; exact noStar_chk h'.1.1
    · exact noStar_list h'.1.2 h'.2 x q
theorem chks_nil {M : Nm} {sc : Scope} {ms : List ME} (h : chks M sc ms [] = true) : ms = [] := by
  cases ms with
  | nil => rfl
  | cons m ms => cases m <;> simp [chks] at h

/-- the check's tables are the program's -/
structure Lk (M : Nm) (T : Tb) : Prop where
  fn : ∀ (f : Nat) x, M.fn[f]? = some x → ∃ q, T.fns[f]? = some q ∧ q.1 = x
  cn : ∀ p, M.cn.contains p = true → p ∈ T.cons
  pk : ∀ x, M.pk.contains x = true → ∃ q ∈ T.picks, q.1 = x
  op : ∀ x, M.op.contains x = true → ∃ q ∈ T.opens, q.1 = x

theorem PX.blk {T : Tb} {k : Nat} {X : Cx} {V : L2.St → XW} (p : PX T k X V) (s : Shared) (H : Hp) (scope : Scope) (cl : List (Str × Addr)) (C : Addr) (fp : List Addr) : PX T k (X.blk s H scope (compEnvC scope cl C X.env) fp) V0 where
  cx := ⟨p.cx.nd, p.cx.hu, p.cx.cal, p.cx.gd⟩
  room := p.room
  fn := fun f q hq => ⟨let w := (p.fn f q hq).1; ⟨w.mg, w.kp, w.fn, w.bd, w.db⟩, (p.fn f q hq).2⟩
  pick := fun q hq => let w := p.pick q hq; ⟨w.mg, w.kp, w.fn, w.bd, w.db⟩
  open' := fun q hq => let w := p.open' q hq; ⟨w.mg, w.kp, w.fn, w.bd, w.db⟩
  con := p.con
  blt := p.blt
  tk := fun u s' ⟨a, B, sI, pins, σ, H, cls, d, e, I, nb, up, sky, na, os, ag, w⟩ => by
    rcases w with ⟨_, _, _, _, _, _, _, _, _, _, w⟩ | ⟨_, _, _, _, w⟩ <;> exact w
theorem StoB.blk {X : Cx} (s : Shared) (H : Hp) (scope : Scope) (cl : List (Str × Addr)) (C : Addr) (fp : List Addr) : StoB (X.blk s H scope (compEnvC scope cl C X.env) fp) scope := fun x hx => by
  rcases hx with hx | hx
  · have := lookup_relS_keep (sc := X.env.scope) (k := .local) (by decide) hx
    exact ⟨.inl this, .inr this⟩
  · have := lookup_relS_keep (sc := X.env.scope) (k := .cell) (by decide) hx
    exact ⟨.inr this, .inl (by show (scope.names.lookup x == some .cell) = true; rw [hx]; rfl)⟩

def ownP (N : List Str) (own : List Nat) : List (Str × Nat) := own.map fun i => ((N[i]?).getD ⟨#[]⟩, i)
theorem ownP_snd (N : List Str) (own : List Nat) : (ownP N own).map (·.2) = own := by simp [ownP, Function.comp_def]
theorem blkB_ok {N : List Str} {sc scope : Scope} {own : List Nat} (h : blkB N sc scope own = true) : BlkOk N sc scope (ownP N own) := by
  unfold blkB at h
  simp only [Bool.and_eq_true, List.all_eq_true, decide_eq_true_eq] at h
  obtain ⟨⟨h1, h2⟩, h3⟩ := h
  refine ⟨eq_of_beq h1, fun y hy => eq_of_beq (h2 y hy).1.1, fun p hp => ?_, fun y hy e => ?_, fun y hy e => ?_⟩
  · obtain ⟨i, hi, rfl⟩ := List.mem_map.mp hp
    have := h3 i hi
    simp [this]
  · have q := (h2 y hy).1.2
    rw [e] at q
    simp only [beq_self_eq_true, if_true] at q
    split at q <;> first | exact .inl (by assumption) | exact .inr (by assumption) | cases q
  · have q := (h2 y hy).2
    have hb : (y.2 == NameKind.local || y.2 == NameKind.cell) = true := by rcases e with e | e <;> rw [e] <;> rfl
    rw [if_pos hb] at q
    rw [Bool.or_eq_true] at q
    rcases q with q | q
    · obtain ⟨i, hi, ha⟩ := List.any_eq_true.mp q
      refine .inl (List.mem_map.mpr ⟨_, List.mem_map.mpr ⟨i, hi, rfl⟩, ?_⟩)
      simp only [atB, decide_eq_true_eq] at ha
      simp [ha]
    · refine .inr fun z => ?_
      rw [List.contains_iff_mem.mpr z] at q
      cases q

/-- an expression, as a value and as a test -/
structure SE (X : Cx) (T : Tb) (V : L2.St → XW) (m : ME) (ex : Expr) : Prop where
  pe : PE X ex (RE X T V m)
  pt : tst m = true → PT X ex (RT X T V m)
  pw : tst m = true → ∀ op es pos, ex = .BoolOp op es pos → PW X ex (RT X T V m)
section
variable {X : Cx} {T : Tb} {V : L2.St → XW} {m : ME} {ex : Expr}
theorem SE.val (h : PE X ex (RE X T V m)) (he : ∀ whole, isTrue ex X.env whole = (do let v ← whole; standAt ex.pos; holding [v] (truthy v))) (hb : ∀ op es pos, ex ≠ .BoolOp op es pos) : SE X T V m ex :=
  ⟨h, fun _ => valT h he, fun _ op es pos z => absurd z (hb op es pos)⟩
end

theorem evs_one {F : Nat → List PV → Py.St → R PV} {a : ME} {e : Py.Env} {s : Py.St} {α : Type} {g : PV → Py.St → R α} (h : ∀ x, a ≠ .star x) : (ev F a e s).bind g = (evs F [a] e s).bind fun xs s' => match xs with | [x] => g x s' | _ => .bad := by
  rw [evs_cons h, bind_assoc]
  rfl
theorem evs_two {F : Nat → List PV → Py.St → R PV} {a b : ME} {e : Py.Env} {s : Py.St} {α : Type} {g : PV → PV → Py.St → R α} (h : ∀ x, a ≠ .star x) (h' : ∀ x, b ≠ .star x) : (ev F a e s).bind (fun x s1 => (ev F b e s1).bind fun y s2 => g x y s2) = (evs F [a, b] e s).bind fun xs s' => match xs with | [x, y] => g x y s' | _ => .bad := by
  rw [evs_cons h, bind_assoc]
  congr 1
  funext x s1
  rw [evs_cons h', bind_assoc, bind_assoc]
  rfl
theorem evs_three {F : Nat → List PV → Py.St → R PV} {a b c : ME} {e : Py.Env} {s : Py.St} {α : Type} {g : PV → PV → PV → Py.St → R α} (h : ∀ x, a ≠ .star x) (h' : ∀ x, b ≠ .star x) (h'' : ∀ x, c ≠ .star x) :
    (ev F a e s).bind (fun x s1 => (ev F b e s1).bind fun y s2 => (ev F c e s2).bind fun z s3 => g x y z s3) = (evs F [a, b, c] e s).bind fun xs s' => match xs with | [x, y, z] => g x y z s' | _ => .bad := by
  rw [evs_cons h, bind_assoc]
  congr 1
  funext x s1
  rw [evs_cons h', bind_assoc, bind_assoc]
  congr 1
  funext y s2
  rw [evs_cons h'', bind_assoc, bind_assoc]
  rfl

theorem RVs.three {K : W.Frag} {G : Gh} {H : Hp} {a b c : PV} {vs : List V} {A : List Addr} (h : RVs K G H [a, b, c] vs A) : ∃ v w u B C D, vs = [v, w, u] ∧ RV K G H a v B ∧ RV K G H b w C ∧ RV K G H c u D := by
  cases h with
  | cons r1 h => cases h with
    | cons r2 h => cases h with
      | cons r3 h => cases h with
        | nil => exact ⟨_, _, _, _, _, _, rfl, r1, r2, r3⟩

section
variable {X : Cx} {T : Tb} {V : L2.St → XW} {a b c : ME} {e f g tg : Expr} {p pos : Pos}
theorem small_of {i : Int} (h : smallI i = true) : -(2 ^ 62) ≤ i ∧ i < 2 ^ 62 := by
  unfold smallI at h
  simp only [decide_eq_true_eq] at h
  omega
theorem i_rg1 {σ : L2.St} {H : Hp} {R : It → Hp → Prop} (ha : ∀ x, a ≠ .star x) (h : rdI X.K T.F V (.rg1 a) σ H R) : iRng1 (RA X T V [a]) σ H R := by
  obtain ⟨G, e, s, r, er, p⟩ := h
  have p : Post X.K H G (rWk X.K H) (V σ) R ((ev T.F a e s).bind fun x s1 => match x with | .int n => if smallI n then .ok (rngP 0 n.toNat, true) s1 else .bad | _ => .bad) := p
  rw [evs_one ha] at p
  obtain ⟨G', e', s', a1, a2, a3⟩ := run1s (Nw.refl r) er p
  refine ⟨G', e', s', a1, a2, Post.mono (fun xs H1 ⟨vs, s1, G1, A, n1, er1, rv, fr, p⟩ => ?_) a3⟩
  rcases vs with _ | ⟨w, _ | ⟨_, _⟩⟩ <;> first
    | exact False.elim p
    | skip
  cases w <;> first
    | exact False.elim p
    | skip
  case int n =>
    obtain ⟨v, rfl, r1⟩ := rv.one
    obtain rfl := r1.int_of
    by_cases hs : smallI n = true
    · obtain ⟨h1, h2⟩ := small_of hs
      simp only [hs, if_true] at p
      exact ⟨n, rfl, h1, h2, p.at n1 ⟨rfl, wk_rng 0 n.toNat, fun _ _ _ => wk_rng 0 n.toNat⟩ Fr.nil⟩
    · simp only [hs] at p
      exact False.elim p
theorem i_rg2 {σ : L2.St} {H : Hp} {R : It → Hp → Prop} (ha : ∀ x, a ≠ .star x) (hb : ∀ x, b ≠ .star x) (h : rdI X.K T.F V (.rg2 a b) σ H R) : iRng2 (RA X T V [a, b]) σ H R := by
  obtain ⟨G, e, s, r, er, p⟩ := h
  have p : Post X.K H G (rWk X.K H) (V σ) R ((ev T.F a e s).bind fun x s1 => (ev T.F b e s1).bind fun y s2 => match x, y with | .int i, .int j => if smallI i && smallI j then .ok (rngP i (j - i).toNat, true) s2 else .bad | _, _ => .bad) := p
  rw [evs_two ha hb] at p
  obtain ⟨G', e', s', a1, a2, a3⟩ := run1s (Nw.refl r) er p
  refine ⟨G', e', s', a1, a2, Post.mono (fun xs H1 ⟨vs, s1, G1, A, n1, er1, rv, fr, p⟩ => ?_) a3⟩
  rcases vs with _ | ⟨w, _ | ⟨u, _ | ⟨_, _⟩⟩⟩ <;> first
    | exact False.elim p
    | skip
  cases w <;> first
    | exact False.elim p
    | skip
  cases u <;> first
    | exact False.elim p
    | skip
  case int.int i j =>
    obtain ⟨v, w, B, C, rfl, _, r1, r2⟩ := rv.two
    obtain rfl := r1.int_of
    obtain rfl := r2.int_of
    by_cases hs : (smallI i && smallI j) = true
    · simp only [hs, if_true] at p
      rw [Bool.and_eq_true] at hs
      obtain ⟨h1, h2⟩ := small_of hs.1
      obtain ⟨h3, h4⟩ := small_of hs.2
      exact ⟨i, j, rfl, ⟨h1, h2, h3, h4⟩, p.at n1 ⟨rfl, wk_rng i (j - i).toNat, fun _ _ _ => wk_rng _ _⟩ Fr.nil⟩
    · simp only [hs] at p
      exact False.elim p
theorem i_rg3 {σ : L2.St} {H : Hp} {R : It → Hp → Prop} (ha : ∀ x, a ≠ .star x) (hb : ∀ x, b ≠ .star x) (hc : ∀ x, c ≠ .star x) (h : rdI X.K T.F V (.rg3 a b c) σ H R) : iRng3 (RA X T V [a, b, c]) σ H R := by
  obtain ⟨G, e, s, r, er, p⟩ := h
  have p : Post X.K H G (rWk X.K H) (V σ) R ((ev T.F a e s).bind fun x s1 => (ev T.F b e s1).bind fun y s2 => (ev T.F c e s2).bind fun z s3 => match x, y, z with
    | .int i, .int j, .int k => if smallI i && smallI j then (if k = -1 then .ok (rng3P i (-1) (i - j).toNat, true) s3 else .bad) else .bad
    | _, _, _ => .bad) := p
  rw [evs_three ha hb hc] at p
  obtain ⟨G', e', s', a1, a2, a3⟩ := run1s (Nw.refl r) er p
  refine ⟨G', e', s', a1, a2, Post.mono (fun xs H1 ⟨vs, s1, G1, A, n1, er1, rv, fr, p⟩ => ?_) a3⟩
  rcases vs with _ | ⟨w, _ | ⟨u, _ | ⟨z, _ | ⟨_, _⟩⟩⟩⟩ <;> first
    | exact False.elim p
    | skip
  cases w <;> first
    | exact False.elim p
    | skip
  cases u <;> first
    | exact False.elim p
    | skip
  cases z <;> first
    | exact False.elim p
    | skip
  case int.int.int i j k =>
    obtain ⟨v, w, u, B, C, D, rfl, r1, r2, r3⟩ := rv.three
    obtain rfl := r1.int_of
    obtain rfl := r2.int_of
    obtain rfl := r3.int_of
    by_cases hs : (smallI i && smallI j) = true
    · simp only [hs, if_true] at p
      rw [Bool.and_eq_true] at hs
      obtain ⟨h1, h2⟩ := small_of hs.1
      obtain ⟨h3, h4⟩ := small_of hs.2
      by_cases hk : k = -1
      · subst hk
        simp only [if_true] at p
        exact ⟨i, j, -1, _, rfl, RgC.neg h1 h2 h3 h4, p.at n1 ⟨rfl, wk_rng3 i (-1) _, fun _ _ _ => wk_rng3 _ _ _⟩ Fr.nil⟩
      · simp only [if_neg hk] at p
        exact False.elim p
    · simp only [hs] at p
      exact False.elim p
/-- a list's or a tuple's items, walked -/
theorem back_src {K : W.Frag} {H0 H : Hp} {G : Gh} {k : Kn} {x : L2.V} {xs : List PV} {vs us : List L2.V} {A D : List Addr} (fr : Fr H0 G A) (s : Src K (G.addT A) H k x xs vs) (s2 : Src K ((G.subT D).addT A) H k x xs us) (hD : ∀ a ∈ D, H0 a ≠ none) : Src K ((G.addT A).subT D) H k x xs vs := by
  have e : us = vs := s2.now.1.uniq s.now.1
  subst e
  refine s2.keep ⟨fun _ _ h => h, fun _ h => h, fun a h => ?_, fun _ _ h _ => h, fun _ _ h => h, fun _ h => h, rfl, fun _ _ _ h => h⟩
  rcases h with h | h
  · exact ⟨.inl h.1, h.2⟩
  · exact ⟨.inr h, fun z => hD a z (fr.new a h)⟩
theorem src_of {K : W.Frag} {H0 H : Hp} {G0 G : Gh} {s : Py.St} {v : PV} {x : L2.V} {xs : List PV} {A : List Addr} (n : Nw K H0 G0 H G s) (r : RV K G H v x A) (fr : Fr H0 G A) (h : itemsOf v = some xs) :
    ∃ (k : Kn) (vs : List L2.V), Src K (G.addT A) H k x xs vs ∧ Nw K H0 G0 H (G.addT A) s ∧ (nob v = true → ∀ D : List Addr, (∀ a ∈ D, H0 a ≠ none) → Src K ((G.addT A).subT D) H k x xs vs) := by
  cases v <;> simp only [itemsOf, reduceCtorEq, Option.some.injEq] at h
  · subst h
    obtain ⟨vs, s⟩ := src_tup r
    have s' := s.keep (Keep.addT (K := K) A [])
    refine ⟨_, vs, s', n.addT fr r.lists, fun hn D hD => ?_⟩
    obtain ⟨us, s2⟩ := src_tup (r.subT (A := D) hn)
    exact back_src fr s' (s2.keep (Keep.addT A [])) hD
  · subst h
    obtain ⟨vs, s⟩ := src_lst r
    refine ⟨_, vs, s, n.addT fr r.lists, fun hn D hD => ?_⟩
    obtain ⟨us, s2⟩ := src_lst (r.subT (A := D) hn)
    exact back_src fr s s2 hD
theorem i_enu {σ : L2.St} {H : Hp} {R : It → Hp → Prop} (ha : ∀ x, a ≠ .star x) (h : rdI X.K T.F V (.enu a) σ H R) : iEnumE (RA X T V [a]) σ H R := by
  obtain ⟨G, e, s, r, er, p⟩ := h
  have p : Post X.K H G (rWk X.K H) (V σ) R ((ev T.F a e s).bind fun x s1 => match itemsOf x with | some xs => .ok (enumP 0 xs, nob x) s1 | none => .bad) := p
  rw [evs_one ha] at p
  obtain ⟨G', e', s', a1, a2, a3⟩ := run1s (Nw.refl r) er p
  refine ⟨G', e', s', a1, a2, Post.mono (fun xs H1 ⟨vs, s1, G1, A, n1, er1, rv, fr, p⟩ => ?_) a3⟩
  rcases vs with _ | ⟨w, _ | ⟨_, _⟩⟩ <;> first
    | exact False.elim p
    | skip
  · obtain ⟨v, rfl, r1⟩ := rv.one
    dsimp only at p
    cases hi : itemsOf w with
    | none => rw [hi] at p; exact False.elim p
    | some ys =>
      rw [hi] at p
      obtain ⟨k, us, sr, n2, hb⟩ := src_of n1 r1 fr hi
      exact ⟨k, v, us, rfl, sr.now.1, p.at n2 ⟨rfl, wk_enum sr, fun hn D hD => wk_enum (hb hn D hD)⟩ Fr.nil⟩
theorem i_zp {σ : L2.St} {H : Hp} {R : It → Hp → Prop} (ha : ∀ x, a ≠ .star x) (hb : ∀ x, b ≠ .star x) (h : rdI X.K T.F V (.zp a b) σ H R) : iZipZ (RA X T V [a, b]) σ H R := by
  obtain ⟨G, e, s, r, er, p⟩ := h
  have p : Post X.K H G (rWk X.K H) (V σ) R ((ev T.F a e s).bind fun x s1 => (ev T.F b e s1).bind fun y s2 => match itemsOf x, itemsOf y with | some xs, some ys => .ok (zipP xs ys, nob x && nob y) s2 | _, _ => .bad) := p
  rw [evs_two ha hb] at p
  obtain ⟨G', e', s', a1, a2, a3⟩ := run1s (Nw.refl r) er p
  refine ⟨G', e', s', a1, a2, Post.mono (fun xs H1 ⟨vs, s1, G1, A, n1, er1, rv, fr, p⟩ => ?_) a3⟩
  rcases vs with _ | ⟨w, _ | ⟨u, _ | ⟨_, _⟩⟩⟩ <;> first
    | exact False.elim p
    | skip
  · obtain ⟨v, v', B, C, rfl, eA, r1, r2⟩ := rv.two
    subst eA
    dsimp only at p
    cases hi : itemsOf w with
    | none => rw [hi] at p; exact False.elim p
    | some ys =>
      cases hj : itemsOf u with
      | none => rw [hi, hj] at p; exact False.elim p
      | some zs =>
        rw [hi, hj] at p
        obtain ⟨k, us, sr, n2, hb1⟩ := src_of n1 r1 fr.left hi
        have frC : Fr H (G1.addT B) C := ⟨fr.right.nd, fr.right.new, fr.right.nf, fun x hx z => z.elim (fr.right.nt x hx) fun z' => by
          have := (List.nodup_append.mp fr.nd).2.2 x z' x hx
          exact this rfl, fr.right.nc⟩
        obtain ⟨k2, us2, sr2, n3, hb2⟩ := src_of n2 (r2.keep (Keep.addT B C)) frC hj
        refine ⟨k, k2, v, v', us, us2, rfl, sr.now.1, sr2.now.1, p.at n3 ⟨rfl, wk_zip (sr.keep (Keep.addT C [])) sr2, fun hn D hD => ?_⟩ Fr.nil⟩
        rw [Bool.and_eq_true] at hn
        refine wk_zip ((hb1 hn.1 D hD).keep ⟨fun _ _ h => h, fun _ h => h, fun a h => ⟨.inl h.1, h.2⟩, fun _ _ h _ => h, fun _ _ h => h, fun _ h => h, rfl, fun _ _ _ h => h⟩) (hb2 hn.2 D hD)
theorem i_ezp {σ : L2.St} {H : Hp} {R : It → Hp → Prop} (ha : ∀ x, a ≠ .star x) (hb : ∀ x, b ≠ .star x) (h : rdI X.K T.F V (.ezp a b) σ H R) : iEnumZ (RA X T V [a, b]) σ H R := by
  obtain ⟨G, e, s, r, er, p⟩ := h
  have p : Post X.K H G (rWk X.K H) (V σ) R ((ev T.F a e s).bind fun x s1 => (ev T.F b e s1).bind fun y s2 => match itemsOf x, itemsOf y with | some xs, some ys => .ok (enumP 0 (zipP xs ys), nob x && nob y) s2 | _, _ => .bad) := p
  rw [evs_two ha hb] at p
  obtain ⟨G', e', s', a1, a2, a3⟩ := run1s (Nw.refl r) er p
  refine ⟨G', e', s', a1, a2, Post.mono (fun xs H1 ⟨vs, s1, G1, A, n1, er1, rv, fr, p⟩ => ?_) a3⟩
  rcases vs with _ | ⟨w, _ | ⟨u, _ | ⟨_, _⟩⟩⟩ <;> first
    | exact False.elim p
    | skip
  · obtain ⟨v, v', B, C, rfl, eA, r1, r2⟩ := rv.two
    subst eA
    dsimp only at p
    cases hi : itemsOf w with
    | none => rw [hi] at p; exact False.elim p
    | some ys =>
      cases hj : itemsOf u with
      | none => rw [hi, hj] at p; exact False.elim p
      | some zs =>
        rw [hi, hj] at p
        obtain ⟨k, us, sr, n2, hb1⟩ := src_of n1 r1 fr.left hi
        have frC : Fr H (G1.addT B) C := ⟨fr.right.nd, fr.right.new, fr.right.nf, fun x hx z => z.elim (fr.right.nt x hx) fun z' => by
          have := (List.nodup_append.mp fr.nd).2.2 x z' x hx
          exact this rfl, fr.right.nc⟩
        obtain ⟨k2, us2, sr2, n3, hb2⟩ := src_of n2 (r2.keep (Keep.addT B C)) frC hj
        refine ⟨k, k2, v, v', us, us2, rfl, sr.now.1, sr2.now.1, p.at n3 ⟨rfl, wk_ezp (sr.keep (Keep.addT C [])) sr2, fun hn D hD => ?_⟩ Fr.nil⟩
        rw [Bool.and_eq_true] at hn
        refine wk_ezp ((hb1 hn.1 D hD).keep ⟨fun _ _ h => h, fun _ h => h, fun a h => ⟨.inl h.1, h.2⟩, fun _ _ h _ => h, fun _ _ h => h, fun _ h => h, rfl, fun _ _ _ h => h⟩) (hb2 hn.2 D hD)
theorem i_sq {σ : L2.St} {H : Hp} {R : It → Hp → Prop} (h : rdI X.K T.F V (.sq a) σ H R) : iSq X.K (RE X T V a) σ H R := by
  obtain ⟨G, e, s, r, er, p⟩ := h
  have p : Post X.K H G (rWk X.K H) (V σ) R ((ev T.F a e s).bind fun x s1 => match x with
    | .tup xs => .ok (xs, nob x) s1
    | .lst _ xs => .ok (brws xs, nob x) s1
    | .str z => .ok (z.cps.toList.map fun c => .str ⟨#[c]⟩, true) s1
    | _ => .bad) := p
  obtain ⟨G', e', s', a1, a2, a3⟩ := run1 (Nw.refl r) er p
  refine ⟨G', e', s', a1, a2, Post.mono (fun x H1 ⟨v, s1, G1, A, n1, er1, rv, fr, p⟩ => ?_) a3⟩
  cases v <;> first
    | exact False.elim p
    | skip
  · obtain ⟨vs, sr⟩ := src_str rv
    rename_i z
    have hx : x = .str z := by cases rv; rfl
    subst hx
    refine ⟨_, vs, _, sr.now.1, .s _, Post.at p n1 ⟨rfl, wk_q sr (.s _), fun hn D hD => ?_⟩ Fr.nil⟩
    have s2 := src_str (rv.subT (A := D) rfl)
    obtain ⟨us, s2⟩ := s2
    exact wk_q s2 (.s _)
  · obtain ⟨k, vs, sr, n2, hb⟩ := src_of n1 rv fr rfl
    obtain ⟨ad, ws, rfl, e0, _⟩ := rv.tup_of
    obtain ⟨us, st⟩ := src_tup rv
    have hk : k = .t := by
      have h1 := sr.now.1
      cases h1 with
      | l e => rw [e0] at e; cases e
      | t _ => rfl
    subst hk
    exact ⟨_, vs, _, sr.now.1, .t _, Post.at p n2 ⟨rfl, wk_q sr (.t _), fun hn D hD => wk_q (hb hn D hD) (.t _)⟩ Fr.nil⟩
  · obtain ⟨k, vs, sr, n2, hb⟩ := src_of n1 rv fr rfl
    obtain ⟨ad, ws, _, rfl, e0, _, _⟩ := rv.lst_of
    have hk : k = .l := by
      have h1 := sr.now.1
      cases h1 with
      | l _ => rfl
      | t e => rw [e0] at e; cases e
    subst hk
    exact ⟨_, vs, _, sr.now.1, .l _, Post.at p n2 ⟨rfl, wk_q sr (.l _), fun hn D hD => wk_q (hb hn D hD) (.l _)⟩ Fr.nil⟩
end
/-- {} -/
theorem k_dic0 {X : Cx} {T : Tb} {V : L2.St → XW} {pos : Pos} : PE X (.Dict [] [] pos) (RE X T V (.dic [])) := by
  refine PE.imp pe_dnewK fun σ H Q ⟨G, e, s, r, er, p⟩ q hq => ?_
  have p : Post X.K H G (RV X.K) (V σ) Q (.ok (.dct s.ds.length) (s.dnew [])) := p
  exact fin0 p ((Nw.refl r).new hq (.k upd_same .nil) fun _ h => nomatch h) (.dct (newD_at r))
end Py
end

section
/-! PyDg: d.get(k, v), {i: j}. -/
namespace Py
open PySem L2 PyProof.Rows

/-- what d.get(k, v) gives, by what PyA says -/
def rGet (K : W.Frag) (a : Addr) (y z : V) (H : Hp) (Q : VK) : Prop := ∃ (H0 : Hp) (G0 G : Gh) (t : Py.St) (n : Nat) (d : List (PV × PV)) (kp : PV) (B : List Addr), Nw K H0 G0 H G t ∧ G.ds[n]? = some a ∧ t.ds[n]? = some d ∧ RV K G H kp y B ∧
  ((kdOk kp d = true ∧ ∀ H' o, Nw K H0 G0 H' G t → Keep K G G H H' [] → (∀ v, dget kp d = some v → ∃ w, o = some w ∧ RV K G H' v w []) → (dget kp d = none → o = none) → Q (o.getD z) H') ∨
   ∃ r, dglO kp d = some r ∧ ∀ o, (∀ v, r = some v → ∃ w, o = some w ∧ RV K G H v w []) → (r = none → o = none) → Q (o.getD z) H)
def tGetR (K : W.Frag) (td ty tx : TE) : TE := fun σ H Q => td σ H fun x H1 => ∃ a, x = .ref a ∧ IsD H1 a ∧ ty σ H1 fun y H2 => tx σ H2 fun z H3 => rGet K a y z H3 Q
section
variable {X : Cx} {o e f : Expr} {apos cpos : Pos} {td ty tx : TE}
theorem pe_getR (hu : X.A.units + 1 < cLine) (ho : PE X o td) (he : PE X e ty) (hf : PE X f tx) (m : M2 X o "get" apos e f cpos) : PE X (.Call (.Attribute o "get" apos) [e, f] [] cpos) (tGetR X.K td ty tx) := by
  refine ⟨fun pins s σ H Q I h => ?_⟩
  refine wpAny_Call_method m.base m.few m.line PySem.F.plainAttrs_dict PySem.F.slot_dict_get PySem.F.type_dict_get (thn (ho.run pins s σ H _ I h) fun u s1 ⟨x, H1, I1, rx, a, ex, d, q1⟩ => ?_)
  subst ex
  obtain rfl : u = Value.ref a := rx
  obtain ⟨t1, t2, _⟩ := isD_at I1 d
  refine ⟨t1, t2, ?_⟩
  rw [m.trees]
  refine Calls.callWith_builtin rfl (Calls.evalArgs_plain (Calls.spliced_cons (thn (he.run pins s1 σ H1 _ I1 q1) fun iv s2 ⟨y, H2, I2, ry, q2⟩ =>
    Calls.spliced_cons (thn (hf.run pins s2 σ H2 _ I2 q2) fun fv s3 ⟨z, H3, I3, rz, g⟩ => Calls.spliced_nil ?_))))
  obtain ⟨H0, G0, G, t, n, dl, kp, B, nw, ea, ed, rk, g⟩ := g
  rcases g with ⟨hk, g⟩ | ⟨r, hL, g⟩
  · obtain ⟨a', H', ea', I', n', kp', ⟨g1, g2, _⟩, _⟩ := dask I3 nw ed hk rk
    rw [ea] at ea'
    cases ea'
    cases hd : dget kp dl with
    | none => exact d_get2 hu I' (g2 hd) ry rz fun w' s4 I4 rw' => ⟨_, H', I4, rw', g H' none n' (kp' []) (fun v h => by rw [hd] at h; cases h) fun _ => rfl⟩
    | some v =>
      obtain ⟨w, dg, rw0⟩ := g1 v hd
      exact d_get2 hu I' dg ry rz fun w' s4 I4 rw' => ⟨_, H', I4, rw', g H' (some w) n' (kp' []) (fun v' h => by rw [hd] at h; cases h; exact ⟨w, rfl, rw0⟩) fun h => by rw [hd] at h; cases h⟩
  · obtain ⟨a', o, ea', dg, g1, g2⟩ := daskL nw ed hL rk
    rw [ea] at ea'
    cases ea'
    exact d_get2 hu I3 dg ry rz fun w' s4 I4 rw' => ⟨_, H3, I4, rw', g o g1 g2⟩
end
section
variable {X : Cx} {T : Tb} {V : L2.St → XW} {o e f : Expr} {apos cpos pos : Pos} {a kx vx : ME}
theorem isDc_isD {H : Hp} {d : Addr} (h : IsDc H d) : IsD H d := by
  rcases h with (⟨_, h⟩ | ⟨_, h⟩) | ⟨_, _, h⟩ | ⟨_, _, h⟩
  · exact .inl ⟨_, .inl h⟩
  · exact .inr ⟨_, .inl h⟩
  · exact .inl ⟨_, .inr ⟨_, h⟩⟩
  · exact .inr ⟨_, .inr ⟨_, h⟩⟩
theorem dct_inv {K : W.Frag} {G : Gh} {H : Hp} {n : Nat} {x : L2.V} {A : List Addr} (r : RV K G H (.dct n) x A) : ∃ a, x = .ref a ∧ A = [] ∧ G.ds[n]? = some a := by
  cases r with
  | dct h => exact ⟨_, rfl, rfl, h⟩
theorem k_get (hu : X.A.units + 1 < cLine) (ho : PE X o (RE X T V a)) (he : PE X e (RE X T V kx)) (hf : PE X f (RE X T V vx)) (hk : ∀ x, kx ≠ .star x) (hv : ∀ x, vx ≠ .star x) (m : M2 X o "get" apos e f cpos) :
    PE X (.Call (.Attribute o "get" apos) [e, f] [] cpos) (RE X T V (.mth .get a [kx, vx])) := by
  refine PE.imp (pe_getR hu ho he hf m) fun σ H Q ⟨G, e, s, r, er, p⟩ => ?_
  have p : Post X.K H G (RV X.K) (V σ) Q ((ev T.F a e s).bind fun x s1 => if mthOk .get x s1 then (evs T.F [kx, vx] e s1).bind fun xs s2 => methd .get x xs s2 else .bad) := p
  obtain ⟨G', e', s', a1, a2, a3⟩ := run1 (Nw.refl r) er p
  refine ⟨G', e', s', a1, a2, Post.mono (fun x H1 ⟨v, s1, G1, A, n1, er1, rv, fr, p⟩ => ?_) a3⟩
  cases v <;> first
    | (rw [if_neg (by intro z; cases z)] at p; exact False.elim p)
    | skip
  rename_i n
  by_cases hm : mthOk .get (.dct n) s1 = true
  case neg => rw [if_neg hm] at p; exact False.elim p
  rw [if_pos hm] at p
  obtain ⟨d, hd⟩ := Option.isSome_iff_exists.mp (show (s1.dat n).isSome = true from hm)
  obtain ⟨ad, rfl, rfl, ea⟩ := dct_inv rv
  refine ⟨ad, rfl, isDc_isD (n1.sr.dat n d ad hd ea).isDc, ?_⟩
  have e2 : evs T.F [kx, vx] e s1 = (ev T.F kx e s1).bind fun y s2 => (ev T.F vx e s2).bind fun z s3 => .ok [y, z] s3 := by
    rw [evs_cons hk]
    refine congrArg _ (funext fun y => funext fun s2 => ?_)
    rw [evs_cons hv, bind_assoc]
    rfl
  rw [e2, bind_assoc] at p
  obtain ⟨G', e', s', b1, b2, b3⟩ := run1 n1 er1 p
  refine ⟨G', e', s', b1, b2, Post.mono (fun y H2 ⟨yv, s2, G2, A2, n2, er2, ry, fr2, p⟩ => ?_) b3⟩
  rw [bind_assoc] at p
  obtain ⟨G', e', s', c1, c2, c3⟩ := run1 (n1.trans n2) er2 p
  refine ⟨G', e', s', c1, c2, Post.mono (fun z H3 ⟨zv, s3, G3, A3, n3, er3, rz, fr3, p⟩ => ?_) c3⟩
  have p : Post X.K H G (RV X.K) (V σ) Q (if nob zv && noO zv then match s3.dat n with | some d => if kdOk yv d then .ok ((dget yv d).getD zv) s3 else (match dglO yv d with | some o => .ok (o.getD zv) s3 | none => .bad) | none => .bad else .bad) := p
  by_cases hz : (nob zv && noO zv) = true
  case neg => rw [if_neg hz] at p; exact False.elim p
  rw [if_pos hz] at p
  rw [Bool.and_eq_true] at hz
  have eA : A3 = [] := by
    cases rz <;> first | rfl | (have := hz.2; simp [noO] at this)
  subst eA
  have nA : Nw X.K H G H3 G3 s3 := (n1.trans n2).trans n3
  have k12 : Keep X.K G1 G2 H1 H2 [] := n2.keep n1.sr fun _ h => nomatch h
  have k23 : Keep X.K G2 G3 H2 H3 [] := n3.keep n2.sr fun _ h => nomatch h
  cases hd3 : s3.dat n with
  | none => rw [hd3] at p; exact False.elim p
  | some d3 =>
  rw [hd3] at p
  dsimp only at p
  refine ⟨H, G, G3, s3, n, d3, yv, A2, nA, k23.ds _ _ (k12.ds _ _ ea), hd3, ry.keep (n3.keep n2.sr fr2.nc), ?_⟩
  by_cases hkd : kdOk yv d3 = true
  · rw [if_pos hkd] at p
    refine .inl ⟨hkd, fun H' o nw' kp' g1 g2 => fin0 p nw' ?_⟩
    cases hg : dget yv d3 with
    | some v =>
      obtain ⟨w, rfl, r⟩ := g1 v hg
      exact r
    | none =>
      rw [g2 hg]
      exact rz.keep kp'
  · rw [if_neg hkd] at p
    cases hL : dglO yv d3 with
    | none => rw [hL] at p; exact False.elim p
    | some r0 =>
      rw [hL] at p
      refine .inr ⟨r0, rfl, fun o g1 g2 => fin0 p nA ?_⟩
      cases r0 with
      | some v =>
        obtain ⟨w, rfl, r⟩ := g1 v rfl
        exact r
      | none =>
        rw [g2 rfl]
        exact rz
/-- {i: j} -/
theorem k_dic1 {i j : Int} {c1 c2 : Nat} {p1 p2 : Pos} : PE X (.Dict [some (.Constant (.int i) c1 p1)] [.Constant (.int j) c2 p2] pos) (RE X T V (.dic [.int i, .int j])) := by
  refine PE.imp (pe_disp (pps_cons pe_int pe_int pps_nil) rfl rfl (fun z => by cases z) (by simp)) fun σ H Q ⟨G, e, s, r, er, p⟩ q hq => ?_
  have p : Post X.K H G (RV X.K) (V σ) Q (.ok (.dct s.ds.length) (s.dnew [(.int i, .int j)])) := p
  refine ⟨upd_same, [(.inl i, .int j)], rfl, by simp, ?_⟩
  have nw := (Nw.refl r).new (o := .dK [(Sum.inl i, L2.V.int j)]) (d := [(.int i, .int j)]) hq (.k upd_same (.cons ⟨.int i, .int j⟩ .nil)) (fun p hp => by rw [List.mem_singleton.mp hp]; rfl)
  have e1 : upd (upd H q (.dK [])) q (.dK (mergeK [] [(Sum.inl i, L2.V.int j)])) = upd H q (.dK [(Sum.inl i, L2.V.int j)]) := by
    funext b
    by_cases z : b = q
    · rw [z, upd_same, upd_same]; rfl
    · rw [upd_ne z, upd_ne z, upd_ne z]
  rw [e1]
  exact fin0 p nw (.dct (newD_at r))
end
end Py
end

section
/-! PyNi: not (a & b). -/
namespace Py
open PySem L2 PyProof.Rows
section
variable {X : Cx} {T : Tb} {V : L2.St → XW} {e : Expr} {pos : Pos} {x y : ME}
theorem band_int {F : Nat → List PV → Py.St → R PV} {α : Type} {en : Py.Env} {s : Py.St} {f : PV → Py.St → R α} : (ev F (.bin .band x y) en s).bind f = (ev F (.bin .band x y) en s).bind fun v s1 => match v with | .int i => f (.int i) s1 | _ => .bad := by
  show ((ev F x en s).bind fun v s1 => (ev F y en s1).bind fun w s2 => okV (bop .band v w) s2).bind f = ((ev F x en s).bind fun v s1 => (ev F y en s1).bind fun w s2 => okV (bop .band v w) s2).bind _
  rw [bind_assoc, bind_assoc]
  refine congrArg _ (funext fun v => funext fun s1 => ?_)
  rw [bind_assoc, bind_assoc]
  refine congrArg _ (funext fun w => funext fun s2 => ?_)
  cases v <;> cases w <;> rfl
theorem eq0 (i : Int) (s : Py.St) : cop .eq (.int i) (.int 0) s = some (!(i != 0)) := by
  show some (eqP (.int i) (.int 0)) = _
  congr 1
  show (i == 0) = _
  simp [bne]
theorem ni_run {σ : L2.St} {H : Hp} {Q : L2.V → Hp → Prop} (h : RE X T V (.cmp .eq (.bin .band x y) (.int 0)) σ H Q) : RE X T V (.bin .band x y) σ H (fun v H1 => ∃ i : Int, v = .int i ∧ Q (.bl (!(i != 0))) H1) := by
  obtain ⟨G, en, s, r, er, p⟩ := h
  have p : Post X.K H G (RV X.K) (V σ) Q ((ev T.F (.bin .band x y) en s).bind fun v s1 => okV ((cop .eq v (.int 0) s1).map .bl) s1) := p
  rw [band_int] at p
  obtain ⟨G', e', s', a1, a2, a3⟩ := run1 (Nw.refl r) er p
  refine ⟨G', e', s', a1, a2, Post.mono (fun v H1 ⟨pv, s1, G1, A, n1, er1, rv, fr, p⟩ => ?_) a3⟩
  cases pv <;> first
    | exact False.elim p
    | skip
  rename_i i
  obtain rfl := rv.int_of
  dsimp only at p
  rw [eq0] at p
  exact ⟨i, rfl, fin0 p n1 (.bl _)⟩
theorem k_ni (ha : PE X e (RE X T V (.bin .band x y))) : PE X (.UnaryOp .Not e pos) (RE X T V (.cmp .eq (.bin .band x y) (.int 0))) := by
  refine PE.imp (pe_notT ha) fun σ H Q h => ?_
  obtain ⟨G', e', s', a1, a2, a3⟩ := ni_run h
  refine ⟨G', e', s', a1, a2, Post.mono (fun v H1 ⟨i, ev, q⟩ => ?_) a3⟩
  subst ev
  exact ⟨_, rfl, q⟩
theorem t_ni (ha : PE X e (RE X T V (.bin .band x y))) (he : ∀ whole, isTrue e X.env whole = (do let v ← whole; standAt e.pos; holding [v] (truthy v))) : PT X (.UnaryOp .Not e pos) (RT X T V (.cmp .eq (.bin .band x y) (.int 0))) := by
  refine PT.imp (pt_not (pt_truth ha he)) fun σ H Q h => ?_
  have h : RE X T V (.cmp .eq (.bin .band x y) (.int 0)) σ H (fun y H' => ∃ b, y = .bl b ∧ Q b H') := h
  obtain ⟨G', e', s', a1, a2, a3⟩ := ni_run h
  refine ⟨G', e', s', a1, a2, Post.mono (fun v H1 ⟨i, ev, b, eb, q⟩ => ?_) a3⟩
  subst ev
  cases eb
  exact ⟨_, rfl, q⟩
end
end Py
end

section
set_option maxHeartbeats 2000000
/-! PyQ: every expression that the check takes runs as PyA says. -/
namespace Py
open PySem L2 PyProof.Rows

theorem fold_pure {env : PySem.Env} {e : Expr} (h : ∀ es k p, e ≠ .Set es k p) : ∀ x, foldedSetIterable e env x = pure x := by
  intro x
  cases e <;> first | rfl | exact absurd rfl (h _ _ _)
theorem chki_set {M : Nm} {sc : Scope} {m : ME} {e : Expr} (h : chki M sc m e = true) : ∀ es k p, e ≠ .Set es k p := fun es k p z => by
  subst z
  cases m <;> simp only [chki, Bool.false_eq_true] at h
  rw [chk_set] at h
  cases h

section
variable {M : Nm} {T : Tb} {k : Nat}
mutual
theorem cE (lk : Lk M T) : ∀ (m : ME) (X : Cx) (V : L2.St → XW) (ex : Expr), PX T k X V → X.N = M.N → chk M X.env.scope m ex = true → SE X T V m ex
  | .nil, X, V, ex, px, hN, h => by simp only [chk, Bool.false_eq_true] at h
  | .non, X, V, ex, px, hN, h => by
    simp only [chk] at h
    split at h
    · exact .val k_non (fun _ => rfl) (fun _ _ _ z => nomatch z)
    · cases h
  | .bl b, X, V, ex, px, hN, h => by
    simp only [chk] at h
    split at h
    · obtain rfl := eq_of_beq h
      exact .val k_bl (fun _ => rfl) (fun _ _ _ z => nomatch z)
    · cases h
  | .int i, X, V, ex, px, hN, h => by
    simp only [chk] at h
    split at h
    · obtain rfl := eq_of_beq h
      exact .val k_int (fun _ => rfl) (fun _ _ _ z => nomatch z)
    · cases h
  | .str i, X, V, ex, px, hN, h => by
    simp only [chk] at h
    split at h
    · obtain rfl := eq_of_beq h
      exact .val k_str (fun _ => rfl) (fun _ _ _ z => nomatch z)
    · cases h
  | .var i, X, V, ex, px, hN, h => by
    simp only [chk] at h
    split at h
    · simp only [Bool.and_eq_true, atB, decide_eq_true_eq, Bool.not_eq_true'] at h
      exact .val (k_var (by rw [hN]; exact h.1.1.1) (visB_ok h.1.1.2) h.1.2 h.2) (fun _ => rfl) (fun _ _ _ z => nomatch z)
    · cases h
  | .glo i, X, V, ex, px, hN, h => by
    simp only [chk] at h
    split at h
    · simp only [Bool.and_eq_true] at h
      obtain ⟨⟨t, ht⟩, hd⟩ := px.con _ (lk.cn _ h.2)
      exact .val (k_glo (glbB_ok h.1) ht hd) (fun _ => rfl) (fun _ _ _ z => nomatch z)
    · cases h
  | .bin o a b, X, V, ex, px, hN, h => by
    simp only [chk] at h
    split at h
    · simp only [Bool.and_eq_true, decide_eq_true_eq] at h
      obtain ⟨⟨rfl, h1⟩, h2⟩ := h
      exact .val (k_bin (cE lk a X V _ px hN h1).pe (cE lk b X V _ px hN h2).pe) (fun _ => rfl) (fun _ _ _ z => nomatch z)
    · cases h
  | .neg a, X, V, ex, px, hN, h => by
    simp only [chk] at h
    split at h
    · exact .val (k_neg (cE lk a X V _ px hN h).pe) (fun _ => rfl) (fun _ _ _ z => nomatch z)
    · cases h
  | .nt a, X, V, ex, px, hN, h => by
    simp only [chk] at h
    split at h
    · have ih := cE lk a X V _ px hN h
      exact ⟨k_nt ih.pe, fun ht => t_nt (ih.pt ht), fun _ _ _ _ z => nomatch z⟩
    · cases h
  | .cmp o a b, X, V, ex, px, hN, h => by
    simp only [chk] at h
    split at h
    · simp only [Bool.and_eq_true, decide_eq_true_eq] at h
      obtain ⟨⟨rfl, h1⟩, h2⟩ := h
      have i1 := (cE lk a X V _ px hN h1).pe
      have i2 := (cE lk b X V _ px hN h2).pe
      exact ⟨k_cmp px.cx i1 i2 (noSet_chk h2), fun _ => t_cmp px.cx i1 i2 (noSet_chk h2), fun _ _ _ _ z => nomatch z⟩
    · rename_i ee pp
      simp only [Bool.and_eq_true, decide_eq_true_eq] at h
      obtain ⟨⟨⟨rfl, h1⟩, h2⟩, h3⟩ := h
      have i1 := (cE lk a X V _ px hN h3).pe
      obtain ⟨x, y, rfl⟩ : ∃ x y, a = .bin .band x y := by
        cases a <;> first
          | (cases h1; done)
          | skip
        rename_i o x y
        cases o <;> first
          | exact ⟨x, y, rfl⟩
          | cases h1
      obtain rfl : b = .int 0 := by
        cases b <;> first
          | (cases h2; done)
          | skip
        rename_i j
        unfold isZero at h2
        split at h2
        · rename_i e; exact e
        · cases h2
      have he : ∀ whole, isTrue ee X.env whole = (do let v ← whole; standAt ee.pos; holding [v] (truthy v)) := by
        cases ee <;> first
          | (intro w; rfl)
          | (simp only [chk, Bool.false_eq_true] at h3)
      exact ⟨k_ni i1, fun _ => t_ni i1 he, fun _ _ _ _ z => nomatch z⟩
    · cases h
  | .chn o q a b c, X, V, ex, px, hN, h => by
    simp only [chk] at h
    split at h
    · simp only [Bool.and_eq_true, decide_eq_true_eq] at h
      obtain ⟨⟨⟨⟨rfl, rfl⟩, h1⟩, h2⟩, h3⟩ := h
      have i1 := (cE lk a X V _ px hN h1).pe
      have i2 := (cE lk b X V _ px hN h2).pe
      have i3 := (cE lk c X V _ px hN h3).pe
      exact ⟨k_chn px.cx i1 i2 i3 (noSet_chk h3), fun _ => t_chn px.cx i1 i2 i3 (noSet_chk h3), fun _ _ _ _ z => nomatch z⟩
    · cases h
  | .and a b, X, V, ex, px, hN, h => by
    simp only [chk] at h
    split at h
    · rename_i e f r pos
      rw [Bool.and_eq_true] at h
      have i1 := cE lk a X V _ px hN h.1
      cases r with
      | nil =>
        have i2 := cE lk b X V _ px hN h.2
        refine ⟨k_and i1.pe (pe_one i2.pe), fun ht => ?_, fun ht _ _ _ _ => ?_⟩
        · simp only [tst, Bool.and_eq_true] at ht
          exact (w_and (i1.pt ht.1) (pw_and1 (i2.pt ht.2))).pt
        · simp only [tst, Bool.and_eq_true] at ht
          exact w_and (i1.pt ht.1) (pw_and1 (i2.pt ht.2))
      | cons g r =>
        have i2 := cE lk b X V _ px hN h.2
        refine ⟨k_and i1.pe i2.pe, fun ht => ?_, fun ht _ _ _ _ => ?_⟩
        · simp only [tst, Bool.and_eq_true] at ht
          exact (w_and (i1.pt ht.1) (i2.pw ht.2 _ _ _ rfl)).pt
        · simp only [tst, Bool.and_eq_true] at ht
          exact w_and (i1.pt ht.1) (i2.pw ht.2 _ _ _ rfl)
    · cases h
  | .or a b, X, V, ex, px, hN, h => by
    simp only [chk] at h
    split at h
    · rename_i e f r pos
      rw [Bool.and_eq_true] at h
      have i1 := cE lk a X V _ px hN h.1
      cases r with
      | nil =>
        have i2 := cE lk b X V _ px hN h.2
        refine ⟨k_or i1.pe (pe_one i2.pe), fun ht => ?_, fun ht _ _ _ _ => ?_⟩
        · simp only [tst, Bool.and_eq_true] at ht
          exact (w_or (i1.pt ht.1) (pw_or1 (i2.pt ht.2))).pt
        · simp only [tst, Bool.and_eq_true] at ht
          exact w_or (i1.pt ht.1) (pw_or1 (i2.pt ht.2))
      | cons g r =>
        have i2 := cE lk b X V _ px hN h.2
        refine ⟨k_or i1.pe i2.pe, fun ht => ?_, fun ht _ _ _ _ => ?_⟩
        · simp only [tst, Bool.and_eq_true] at ht
          exact (w_or (i1.pt ht.1) (i2.pw ht.2 _ _ _ rfl)).pt
        · simp only [tst, Bool.and_eq_true] at ht
          exact w_or (i1.pt ht.1) (i2.pw ht.2 _ _ _ rfl)
    · cases h
  | .ite c a b, X, V, ex, px, hN, h => by
    simp only [chk] at h
    split at h
    · simp only [Bool.and_eq_true] at h
      obtain ⟨⟨⟨h0, h1⟩, h2⟩, h3⟩ := h
      have i1 := cE lk c X V _ px hN h1
      refine ⟨k_ite (i1.pt h0) (cE lk a X V _ px hN h2).pe (cE lk b X V _ px hN h3).pe, fun ht => ?_, fun ht => ?_⟩
      · simp only [tst, Bool.false_eq_true] at ht
      · simp only [tst, Bool.false_eq_true] at ht
    · cases h
  | .tup es, X, V, ex, px, hN, h => by
    simp only [chk] at h
    split at h
    · exact .val (k_tup (cA lk es X V _ px hN h)) (fun _ => rfl) (fun _ _ _ z => nomatch z)
    · cases h
  | .lst es, X, V, ex, px, hN, h => by
    simp only [chk] at h
    split at h
    · exact .val (k_lst (cA lk es X V _ px hN h)) (fun _ => rfl) (fun _ _ _ z => nomatch z)
    · cases h
  | .star a, X, V, ex, px, hN, h => by simp only [chk, Bool.false_eq_true] at h
  | .idx a i, X, V, ex, px, hN, h => by
    simp only [chk] at h
    split at h
    · simp only [Bool.and_eq_true] at h
      exact .val (k_idx px.cx (cE lk a X V _ px hN h.1).pe (cE lk i X V _ px hN h.2).pe (noSlice_chk h.2)) (fun _ => rfl) (fun _ _ _ z => nomatch z)
    · cases h
  | .slc a l lo hb hi, X, V, ex, px, hN, h => by
    simp only [chk] at h
    split at h
    · rename_i e f g p2 pos
      simp only [Bool.and_eq_true] at h
      obtain ⟨⟨h1, h2⟩, h3⟩ := h
      refine .val (k_slc (cE lk a X V _ px hN h1).pe ?_ ?_) (fun _ => rfl) (fun _ _ _ z => nomatch z)
      · cases l <;> cases f <;> first
          | trivial
          | (exact absurd h2 (by decide))
          | exact (cE lk lo X V _ px hN h2).pe
      · cases hb <;> cases g <;> first
          | trivial
          | (exact absurd h3 (by decide))
          | exact (cE lk hi X V _ px hN h3).pe
    · cases h
  | .rev a, X, V, ex, px, hN, h => by
    simp only [chk] at h
    split at h
    · exact .val (k_rev (cE lk a X V _ px hN h).pe) (fun _ => rfl) (fun _ _ _ z => nomatch z)
    · cases h
  | .call f es, X, V, ex, px, hN, h => by
    simp only [chk] at h
    split at h
    · simp only [Bool.and_eq_true, decide_eq_true_eq] at h
      obtain ⟨⟨⟨h1, h2⟩, h3⟩, h4⟩ := h
      obtain ⟨q, hq, hx⟩ := lk.fn _ _ h1
      exact .val (k_call px hq hx (glbB_ok h2) (cA lk es X V _ px hN h3) (noStar_list h3 h4) (fun z => by subst z; exact chks_nil h3)) (fun _ => rfl) (fun _ _ _ z => nomatch z)
    · cases h
  | .blt b es, X, V, ex, px, hN, h => by
    simp only [chk] at h
    split at h
    · simp only [Bool.and_eq_true] at h
      obtain ⟨⟨⟨h1, h2⟩, h3⟩, h4⟩ := h
      obtain rfl := eq_of_beq h1
      exact .val (k_blt px (glbB_ok h2) (cA lk es X V _ px hN h3) (noStar_list h3 h4)) (fun _ => rfl) (fun _ _ _ z => nomatch z)
    · cases h
  | .mth m a es, X, V, ex, px, hN, h => by
    rw [chk.eq_def] at h
    dsimp only at h
    split at h
    · simp only [Bool.and_eq_true] at h
      obtain ⟨⟨⟨⟨⟨h1, h2⟩, h3⟩, h4⟩, h5⟩, h6⟩ := h
      obtain rfl := eq_of_beq h1
      rename_i kx vx o apos e f cpos
      have hst : backTo cpos (starEach [e, f] X.env) = [(false, eval e X.env), (false, eval f X.env)] := by
        rw [star_of (noStar_chk h5), star_of (noStar_chk h6)]; rfl
      have hb : attributeBase o ("get" : Str) X.env (eval o X.env) = eval o X.env := by
        cases o <;> first
          | rfl
          | cases h3
      have hfew : ((backTo cpos (starEach [e, f] X.env)).all (fun x => !x.1) && (backToKw cpos (keywordEach [] X.env)).all (fun x => x.1.isSome)
    && decide (([e, f] : List Expr).length + ([] : List Keyword).length + (if ([] : List Keyword).isEmpty then 0 else 1) < 30)) = true := by
        rw [hst]; rfl
      exact .val (k_get (by have := px.cx.hu; omega) (cE lk a X V _ px hN h4).pe (cE lk kx X V _ px hN h5).pe (cE lk vx X V _ px hN h6).pe (m_noStar h5) (m_noStar h6) ⟨hb, hfew, h2, hst⟩) (fun _ => rfl) (fun _ _ _ z => nomatch z)
    · cases h
  | .lc tg own it hc c t, X, V, ex, px, hN, h => by
    simp only [chk] at h
    split at h
    · rename_i elt g iter ifs scope pos
      simp only [Bool.and_eq_true] at h
      obtain ⟨⟨⟨⟨⟨⟨h1, h2⟩, h3⟩, h4⟩, h5⟩, h6⟩, h7⟩ := h
      have ok := blkB_ok h1
      rw [← hN] at ok h2
      refine .val ?_ (fun _ => rfl) (fun _ _ _ z => nomatch z)
      have hsub : ∀ i ∈ tg.own, i ∈ own := fun i hi => by
        have := List.all_eq_true.mp h3 i hi
        exact List.contains_iff_mem.mp this
      have hi := cI lk it X V g iter px hN h5 h4
      have hg : ∀ (s : Shared) (H : Hp) (C : Addr) (cl : List (Str × Addr)) (fp : List Addr), PG (X.blk s H scope (compEnvC scope cl C X.env) fp) g (gT tg) := fun s H C cl fp => pgT (X := X.blk s H scope (compEnvC scope cl C X.env) fp) px.cx.cal px.cx.nd (.blk s H scope cl C fp) tg g h2
      have he : ∀ (s : Shared) (H : Hp) (C : Addr) (cl : List (Str × Addr)) (fp : List Addr), PE (X.blk s H scope (compEnvC scope cl C X.env) fp) elt (rdE X.K T.F V0 t) := fun s H C cl fp => (cE lk t (X.blk s H scope (compEnvC scope cl C X.env) fp) V0 elt (px.blk s H scope cl C fp) hN h7).pe
      cases hc with
      | false =>
        cases ifs with
        | cons _ _ => cases h6
        | nil =>
          have := pe_lc (pos := pos) (tt := tYes) px.cx.cal px.cx.nd hi ok hg (fun _ _ _ _ _ => pts_nil) he (fold_pure (chki_set h5))
          rw [ownP_snd] at this
          exact PE.imp this fun σ H Q h => lc_rd hsub h
      | true =>
        match ifs, h6 with
        | [f], h6 =>
          rw [Bool.and_eq_true] at h6
          have ht : ∀ (s : Shared) (H : Hp) (C : Addr) (cl : List (Str × Addr)) (fp : List Addr), PTs (X.blk s H scope (compEnvC scope cl C X.env) fp) [f] (rdT X.K T.F V0 c) := fun s H C cl fp => pts_one ((cE lk c (X.blk s H scope (compEnvC scope cl C X.env) fp) V0 f (px.blk s H scope cl C fp) hN h6.2).pt h6.1)
          have := pe_lc (pos := pos) px.cx.cal px.cx.nd hi ok hg ht he (fold_pure (chki_set h5))
          rw [ownP_snd] at this
          exact PE.imp this fun σ H Q h => lc_rd hsub h
    · cases h
  | .dic es, X, V, ex, px, hN, h => by
    simp only [chk] at h
    split at h
    · exact .val k_dic0 (fun _ => rfl) (fun _ _ _ z => nomatch z)
    · rw [Bool.and_eq_true] at h
      obtain rfl := eq_of_beq h.1
      obtain rfl := eq_of_beq h.2
      exact .val k_dic1 (fun _ => rfl) (fun _ _ _ z => nomatch z)
    · cases h
  | .isi a t, X, V, ex, px, hN, h => by
    simp only [chk] at h
    split at h
    · simp only [Bool.and_eq_true] at h
      obtain ⟨⟨⟨⟨h1, h2⟩, h3⟩, h4⟩, h5⟩ := h
      obtain rfl := eq_of_beq h1
      obtain rfl := eq_of_beq h3
      exact .val (k_isi px (glbB_ok h2) (glbB_ok h4) (cE lk a X V _ px hN h5).pe (noStar_chk h5) (px.blt _ (by cases t <;> decide))) (fun _ => rfl) (fun _ _ _ z => nomatch z)
    · cases h
  | .rg1 a, X, V, ex, px, hN, h => by simp only [chk, Bool.false_eq_true] at h
  | .rg2 a b, X, V, ex, px, hN, h => by simp only [chk, Bool.false_eq_true] at h
  | .rg3 a b c, X, V, ex, px, hN, h => by simp only [chk, Bool.false_eq_true] at h
  | .enu a, X, V, ex, px, hN, h => by simp only [chk, Bool.false_eq_true] at h
  | .zp a b, X, V, ex, px, hN, h => by simp only [chk, Bool.false_eq_true] at h
  | .ezp a b, X, V, ex, px, hN, h => by simp only [chk, Bool.false_eq_true] at h
  | .itm a, X, V, ex, px, hN, h => by simp only [chk, Bool.false_eq_true] at h
  | .sq a, X, V, ex, px, hN, h => by simp only [chk, Bool.false_eq_true] at h
  | .pick a n, X, V, ex, px, hN, h => by
    simp only [chk] at h
    split at h
    · simp only [Bool.and_eq_true] at h
      obtain ⟨⟨⟨h1, h2⟩, h3⟩, h4⟩ := h
      obtain ⟨q, hq, hx⟩ := lk.pk _ h1
      exact .val (k_pick px hq hx (glbB_ok h2) (cE lk a X V _ px hN h3).pe (cE lk n X V _ px hN h4).pe (noStar_chk h3) (noStar_chk h4)) (fun _ => rfl) (fun _ _ _ z => nomatch z)
    · cases h
  | .opn a, X, V, ex, px, hN, h => by
    simp only [chk] at h
    split at h
    · simp only [Bool.and_eq_true] at h
      obtain ⟨⟨h1, h2⟩, h3⟩ := h
      obtain ⟨q, hq, hx⟩ := lk.op _ h1
      exact .val (k_opn px hq hx (glbB_ok h2) (cE lk a X V _ px hN h3).pe (noStar_chk h3)) (fun _ => rfl) (fun _ _ _ z => nomatch z)
    · cases h
  | .lrg it, X, V, ex, px, hN, h => by simp only [chk, Bool.false_eq_true] at h
  | .dcm tg own it hc c a b, X, V, ex, px, hN, h => by simp only [chk, Bool.false_eq_true] at h
theorem cA (lk : Lk M T) : ∀ (es : List ME) (X : Cx) (V : L2.St → XW) (fs : List Expr), PX T k X V → X.N = M.N → chks M X.env.scope es fs = true → PA X fs (RA X T V es)
  | [], X, V, fs, px, hN, h => by
    simp only [chks, List.isEmpty_iff] at h
    subst h
    exact ka_nil
  | m :: es, X, V, fs, px, hN, h => by
    cases fs with
    | nil => cases m <;> simp [chks] at h
    | cons f fs =>
      by_cases hm : ∃ a, m = .star a
      · obtain ⟨a, rfl⟩ := hm
        simp only [chks] at h
        split at h
        · rename_i heq
          cases heq
          rw [Bool.and_eq_true] at h
          exact ka_star (cE lk a X V _ px hN h.1).pe (cA lk es X V _ px hN h.2)
        · cases h
      · have h' : (chk M X.env.scope m f && chks M X.env.scope es fs) = true := by
          cases m <;> first
            | exact absurd ⟨_, rfl⟩ hm
            | simpa only [chks] using h
        rw [Bool.and_eq_true] at h'
        exact ka_cons (m_noStar h'.1) (noStar_chk h'.1) (cE lk m X V _ px hN h'.1).pe (cA lk es X V _ px hN h'.2)
theorem cI (lk : Lk M T) : ∀ (m : ME) (X : Cx) (V : L2.St → XW) (tg ex : Expr), PX T k X V → X.N = M.N → chki M X.env.scope m ex = true → tgOk m tg = true → PI X tg ex (rdI X.K T.F V m)
  | .rg1 a, X, V, tg, ex, px, hN, h, ht => by
    simp only [chki] at h
    split at h
    · simp only [Bool.and_eq_true] at h
      obtain ⟨⟨h1, h2⟩, h3⟩ := h
      obtain rfl := eq_of_beq h1
      have i1 := ka_cons (m_noStar h3) (noStar_chk h3) (cE lk a X V _ px hN h3).pe ka_nil
      have := fun p pos => pi_range1 (p := p) (pos := pos) (tg := tg) (glbB_ok h2) (px.blt _ (by decide)) i1 (star_of (noStar_chk h3) _)
      exact ⟨fun pins s σ H R I q => (this _ _).run pins s σ H R I (i_rg1 (m_noStar h3) q)⟩
    · cases h
  | .rg2 a b, X, V, tg, ex, px, hN, h, ht => by
    simp only [chki] at h
    split at h
    · simp only [Bool.and_eq_true] at h
      obtain ⟨⟨⟨h1, h2⟩, h3⟩, h4⟩ := h
      obtain rfl := eq_of_beq h1
      have i1 := ka_cons (m_noStar h3) (noStar_chk h3) (cE lk a X V _ px hN h3).pe (ka_cons (m_noStar h4) (noStar_chk h4) (cE lk b X V _ px hN h4).pe ka_nil)
      have := fun p pos => pi_range2 (p := p) (pos := pos) (tg := tg) (glbB_ok h2) (px.blt _ (by decide)) i1 (by rw [star_of (noStar_chk h3), star_of (noStar_chk h4)]; rfl) (star_of (noStar_chk h4) _)
      exact ⟨fun pins s σ H R I q => (this _ _).run pins s σ H R I (i_rg2 (m_noStar h3) (m_noStar h4) q)⟩
    · cases h
  | .rg3 a b c, X, V, tg, ex, px, hN, h, ht => by
    simp only [chki] at h
    split at h
    · simp only [Bool.and_eq_true] at h
      obtain ⟨⟨⟨⟨h1, h2⟩, h3⟩, h4⟩, h5⟩ := h
      obtain rfl := eq_of_beq h1
      have i1 := ka_cons (m_noStar h3) (noStar_chk h3) (cE lk a X V _ px hN h3).pe (ka_cons (m_noStar h4) (noStar_chk h4) (cE lk b X V _ px hN h4).pe (ka_cons (m_noStar h5) (noStar_chk h5) (cE lk c X V _ px hN h5).pe ka_nil))
      have := fun p pos => pi_range3 (p := p) (pos := pos) (tg := tg) (glbB_ok h2) (px.blt _ (by decide)) i1 (star_of (noStar_chk h3) _) (plain_any _ fun x hx => by
        rcases List.mem_cons.mp hx with q | q
        · rw [q]; exact noStar_chk h4
        · rw [List.mem_singleton.mp q]; exact noStar_chk h5)
      exact ⟨fun pins s σ H R I q => (this _ _).run pins s σ H R I (i_rg3 (m_noStar h3) (m_noStar h4) (m_noStar h5) q)⟩
    · cases h
  | .enu a, X, V, tg, ex, px, hN, h, ht => by
    simp only [chki] at h
    split at h
    · simp only [Bool.and_eq_true] at h
      obtain ⟨⟨h1, h2⟩, h3⟩ := h
      obtain rfl := eq_of_beq h1
      have i1 := ka_cons (m_noStar h3) (noStar_chk h3) (cE lk a X V _ px hN h3).pe ka_nil
      cases tg <;> simp only [tgOk, Bool.false_eq_true] at ht
      have := fun el kk tp p pos => pi_enumE (p := p) (pos := pos) (elts := el) (kk := kk) (tpos := tp) (glbB_ok h2) (px.blt _ (by decide)) i1 (star_of (noStar_chk h3) _)
      exact ⟨fun pins s σ H R I q => (this _ _ _ _ _).run pins s σ H R I (i_enu (m_noStar h3) q)⟩
    · cases h
  | .zp a b, X, V, tg, ex, px, hN, h, ht => by
    simp only [chki] at h
    split at h
    · simp only [Bool.and_eq_true] at h
      obtain ⟨⟨⟨h1, h2⟩, h3⟩, h4⟩ := h
      obtain rfl := eq_of_beq h1
      have i1 := ka_cons (m_noStar h3) (noStar_chk h3) (cE lk a X V _ px hN h3).pe (ka_cons (m_noStar h4) (noStar_chk h4) (cE lk b X V _ px hN h4).pe ka_nil)
      cases tg <;> simp only [tgOk, Bool.false_eq_true] at ht
      have := fun el kk tp p pos => pi_zipZ (p := p) (pos := pos) (elts := el) (kk := kk) (tpos := tp) (glbB_ok h2) (px.blt _ (by decide)) i1 (star_of (noStar_chk h3) _) (plain_any _ fun x hx => by rw [List.mem_singleton.mp hx]; exact noStar_chk h4)
      exact ⟨fun pins s σ H R I q => (this _ _ _ _ _).run pins s σ H R I (i_zp (m_noStar h3) (m_noStar h4) q)⟩
    · cases h
  | .ezp a b, X, V, tg, ex, px, hN, h, ht => by
    simp only [chki] at h
    split at h
    · simp only [Bool.and_eq_true] at h
      obtain ⟨⟨⟨⟨⟨h0, h0'⟩, h1⟩, h2⟩, h3⟩, h4⟩ := h
      obtain rfl := eq_of_beq h0
      obtain rfl := eq_of_beq h1
      have i1 := ka_cons (m_noStar h3) (noStar_chk h3) (cE lk a X V _ px hN h3).pe (ka_cons (m_noStar h4) (noStar_chk h4) (cE lk b X V _ px hN h4).pe ka_nil)
      cases tg <;> simp only [tgOk, Bool.false_eq_true] at ht
      have := fun el kk tp p p2 pos pos2 => pi_enumZ (p := p) (p2 := p2) (pos := pos) (pos2 := pos2) (elts := el) (kk := kk) (tpos := tp) (glbB_ok h0') (px.blt _ (by decide)) (glbB_ok h2) (px.blt _ (by decide)) i1 (star_of (noStar_chk h3) _) (fun _ => plain_any _ fun x hx => by rw [List.mem_singleton.mp hx]; exact noStar_chk h4)
      exact ⟨fun pins s σ H R I q => (this _ _ _ _ _ _ _).run pins s σ H R I (i_ezp (m_noStar h3) (m_noStar h4) q)⟩
    · cases h
  | .sq a, X, V, tg, ex, px, hN, h, ht => by
    simp only [chki] at h
    have := pi_sq (tg := tg) (cE lk a X V ex px hN h).pe
    exact ⟨fun pins s σ H R I q => this.run pins s σ H R I (i_sq q)⟩
  | .nil, X, V, tg, ex, px, hN, h, ht => by simp only [chki, Bool.false_eq_true] at h
  | .non, X, V, tg, ex, px, hN, h, ht => by simp only [chki, Bool.false_eq_true] at h
  | .bl _, X, V, tg, ex, px, hN, h, ht => by simp only [chki, Bool.false_eq_true] at h
  | .int _, X, V, tg, ex, px, hN, h, ht => by simp only [chki, Bool.false_eq_true] at h
  | .str _, X, V, tg, ex, px, hN, h, ht => by simp only [chki, Bool.false_eq_true] at h
  | .var _, X, V, tg, ex, px, hN, h, ht => by simp only [chki, Bool.false_eq_true] at h
  | .glo _, X, V, tg, ex, px, hN, h, ht => by simp only [chki, Bool.false_eq_true] at h
  | .bin _ _ _, X, V, tg, ex, px, hN, h, ht => by simp only [chki, Bool.false_eq_true] at h
  | .neg _, X, V, tg, ex, px, hN, h, ht => by simp only [chki, Bool.false_eq_true] at h
  | .nt _, X, V, tg, ex, px, hN, h, ht => by simp only [chki, Bool.false_eq_true] at h
  | .cmp _ _ _, X, V, tg, ex, px, hN, h, ht => by simp only [chki, Bool.false_eq_true] at h
  | .chn _ _ _ _ _, X, V, tg, ex, px, hN, h, ht => by simp only [chki, Bool.false_eq_true] at h
  | .and _ _, X, V, tg, ex, px, hN, h, ht => by simp only [chki, Bool.false_eq_true] at h
  | .or _ _, X, V, tg, ex, px, hN, h, ht => by simp only [chki, Bool.false_eq_true] at h
  | .ite _ _ _, X, V, tg, ex, px, hN, h, ht => by simp only [chki, Bool.false_eq_true] at h
  | .tup _, X, V, tg, ex, px, hN, h, ht => by simp only [chki, Bool.false_eq_true] at h
  | .lst _, X, V, tg, ex, px, hN, h, ht => by simp only [chki, Bool.false_eq_true] at h
  | .star _, X, V, tg, ex, px, hN, h, ht => by simp only [chki, Bool.false_eq_true] at h
  | .idx _ _, X, V, tg, ex, px, hN, h, ht => by simp only [chki, Bool.false_eq_true] at h
  | .slc _ _ _ _ _, X, V, tg, ex, px, hN, h, ht => by simp only [chki, Bool.false_eq_true] at h
  | .rev _, X, V, tg, ex, px, hN, h, ht => by simp only [chki, Bool.false_eq_true] at h
  | .call _ _, X, V, tg, ex, px, hN, h, ht => by simp only [chki, Bool.false_eq_true] at h
  | .blt _ _, X, V, tg, ex, px, hN, h, ht => by simp only [chki, Bool.false_eq_true] at h
  | .mth _ _ _, X, V, tg, ex, px, hN, h, ht => by simp only [chki, Bool.false_eq_true] at h
  | .lc _ _ _ _ _ _, X, V, tg, ex, px, hN, h, ht => by simp only [chki, Bool.false_eq_true] at h
  | .dic _, X, V, tg, ex, px, hN, h, ht => by simp only [chki, Bool.false_eq_true] at h
  | .isi _ _, X, V, tg, ex, px, hN, h, ht => by simp only [chki, Bool.false_eq_true] at h
  | .itm _, X, V, tg, ex, px, hN, h, ht => by simp only [chki, Bool.false_eq_true] at h
  | .pick _ _, X, V, tg, ex, px, hN, h, ht => by simp only [chki, Bool.false_eq_true] at h
  | .opn _, X, V, tg, ex, px, hN, h, ht => by simp only [chki, Bool.false_eq_true] at h
  | .lrg _, X, V, tg, ex, px, hN, h, ht => by simp only [chki, Bool.false_eq_true] at h
  | .dcm _ _ _ _ _ _ _, X, V, tg, ex, px, hN, h, ht => by simp only [chki, Bool.false_eq_true] at h
end
end
end Py
end

section
/-! PyR: an expression reads the slots that it names, no others. -/
namespace Py
open PySem L2 PyProof.Rows

/-- the same on the slots vs -/
def Ag (vs : List Nat) (e e' : Py.Env) : Prop := e.length = e'.length ∧ ∀ i ∈ vs, e[i]? = e'[i]?
theorem Ag.sub {vs ws : List Nat} {e e' : Py.Env} (h : Ag vs e e') (s : ∀ i ∈ ws, i ∈ vs) : Ag ws e e' := ⟨h.1, fun i q => h.2 i (s i q)⟩
theorem Ag.left {vs ws : List Nat} {e e' : Py.Env} (h : Ag (vs ++ ws) e e') : Ag vs e e' := h.sub fun i q => List.mem_append_left _ q
theorem Ag.right {vs ws : List Nat} {e e' : Py.Env} (h : Ag (vs ++ ws) e e') : Ag ws e e' := h.sub fun i q => List.mem_append_right _ q
theorem Ag.set {vs : List Nat} {e e' : Py.Env} (h : Ag vs e e') (i : Nat) (o : Option PV) : Ag vs (e.set i o) (e'.set i o) := by
  refine ⟨by simp [h.1], fun j hj => ?_⟩
  rw [List.getElem?_set, List.getElem?_set, h.1, h.2 j hj]
theorem Ag.wipe {vs : List Nat} {e e' : Py.Env} (h : Ag vs e e') : ∀ ws : List Nat, Ag vs (wipeE e ws) (wipeE e' ws)
  | [] => h
  | w :: ws => (Ag.wipe h ws).set w none
mutual
theorem bindT_ag : ∀ (tg : Tg) (x : PV) (vs : List Nat) (e e' : Py.Env), Ag vs e e' → (bindT tg x e = none ∧ bindT tg x e' = none) ∨ ∃ e2 e2', bindT tg x e = some e2 ∧ bindT tg x e' = some e2' ∧ Ag vs e2 e2'
  | .v i, x, vs, e, e', h => by
    simp only [bindT, ← h.1]
    by_cases hi : i < e.length
    · exact .inr ⟨_, _, if_pos hi, if_pos hi, h.set i (some x)⟩
    · exact .inl ⟨if_neg hi, if_neg hi⟩
  | .t l, x, vs, e, e', h => by
    cases x <;> first
      | (simp only [bindT]; exact bindTs_ag l _ vs e e' h)
      | exact .inl ⟨by simp only [bindT], by simp only [bindT]⟩
theorem bindTs_ag : ∀ (l : List Tg) (x : List PV) (vs : List Nat) (e e' : Py.Env), Ag vs e e' → (bindTs l x e = none ∧ bindTs l x e' = none) ∨ ∃ e2 e2', bindTs l x e = some e2 ∧ bindTs l x e' = some e2' ∧ Ag vs e2 e2'
  | [], [], vs, e, e', h => .inr ⟨e, e', by simp only [bindTs], by simp only [bindTs], h⟩
  | [], _ :: _, vs, e, e', h => .inl ⟨by simp only [bindTs], by simp only [bindTs]⟩
  | _ :: _, [], vs, e, e', h => .inl ⟨by simp only [bindTs], by simp only [bindTs]⟩
  | t :: l, x :: xs, vs, e, e', h => by
    simp only [bindTs]
    rcases bindT_ag t x vs e e' h with ⟨h1, h2⟩ | ⟨e1, e1', h1, h2, h3⟩
    · rw [h1, h2]; exact .inl ⟨rfl, rfl⟩
    · rw [h1, h2]; exact bindTs_ag l xs vs e1 e1' h3
end

section
variable (F : Nat → List PV → Py.St → R PV)
theorem bind_ag {α β : Type} {r r' : R α} {f g : α → Py.St → R β} (h : r = r') (h2 : ∀ a s, f a s = g a s) : r.bind f = r'.bind g := by
  subst h
  congr 1
  funext a s
  exact h2 a s
mutual
theorem ev_ag : ∀ (m : ME) (e e' : Py.Env) (s : Py.St), Ag (fv m) e e' → ev F m e s = ev F m e' s
  | .nil, e, e', s, h => rfl
  | .non, e, e', s, h => rfl
  | .bl _, e, e', s, h => rfl
  | .int _, e, e', s, h => rfl
  | .str _, e, e', s, h => rfl
  | .glo _, e, e', s, h => rfl
  | .var i, e, e', s, h => by
    have := h.2 i (by simp [fv])
    show (match e[i]? with | some (some v) => R.ok (rdV v) s | _ => .bad) = (match e'[i]? with | some (some v) => R.ok (rdV v) s | _ => .bad)
    rw [this]
  | .bin o a b, e, e', s, h => bind_ag (ev_ag a e e' s (Ag.left h)) fun x s1 => bind_ag (ev_ag b e e' s1 (Ag.right h)) fun y s2 => rfl
  | .neg a, e, e', s, h => bind_ag (ev_ag a e e' s h) fun x s1 => rfl
  | .nt a, e, e', s, h => bind_ag (ev_ag a e e' s h) fun x s1 => rfl
  | .cmp o a b, e, e', s, h => bind_ag (ev_ag a e e' s (Ag.left h)) fun x s1 => bind_ag (ev_ag b e e' s1 (Ag.right h)) fun y s2 => rfl
  | .chn o q a b c, e, e', s, h => bind_ag (ev_ag a e e' s (Ag.left (Ag.left h))) fun x s1 => bind_ag (ev_ag b e e' s1 (Ag.right (Ag.left h))) fun y s2 => by
      cases cop o x y s2 with
      | none => rfl
      | some d => cases d with
        | false => rfl
        | true => exact bind_ag (ev_ag c e e' s2 (Ag.right h)) fun z s3 => rfl
  | .and a b, e, e', s, h => bind_ag (ev_ag a e e' s (Ag.left h)) fun x s1 => by
      cases x <;> try rfl
      rename_i d
      cases d
      · rfl
      · exact ev_ag b e e' s1 (Ag.right h)
  | .or a b, e, e', s, h => bind_ag (ev_ag a e e' s (Ag.left h)) fun x s1 => by
      cases x <;> try rfl
      rename_i d
      cases d
      · exact ev_ag b e e' s1 (Ag.right h)
      · rfl
  | .ite c a b, e, e', s, h => bind_ag (ev_ag c e e' s (Ag.left (Ag.left h))) fun x s1 => by
      cases x <;> try rfl
      rename_i d
      cases d
      · exact ev_ag b e e' s1 (Ag.right h)
      · exact ev_ag a e e' s1 (Ag.right (Ag.left h))
  | .tup es, e, e', s, h => bind_ag (evs_ag es e e' s h) fun x s1 => rfl
  | .lst es, e, e', s, h => bind_ag (evs_ag es e e' s h) fun x s1 => rfl
  | .star a, e, e', s, h => rfl
  | .idx a i, e, e', s, h => bind_ag (ev_ag a e e' s (Ag.left h)) fun x s1 => bind_ag (ev_ag i e e' s1 (Ag.right h)) fun y s2 => rfl
  | .slc a l lo hb hi, e, e', s, h => bind_ag (ev_ag a e e' s (Ag.left (Ag.left h))) fun x s1 => by
      refine bind_ag ?_ fun y s2 => bind_ag ?_ fun z s3 => rfl
      · cases l
        · rfl
        · exact bind_ag (ev_ag lo e e' s1 (Ag.right (Ag.left h))) fun _ _ => rfl
      · cases hb
        · rfl
        · exact bind_ag (ev_ag hi e e' s2 (Ag.right h)) fun _ _ => rfl
  | .rev a, e, e', s, h => bind_ag (ev_ag a e e' s h) fun x s1 => rfl
  | .call f es, e, e', s, h => bind_ag (evs_ag es e e' s h) fun x s1 => rfl
  | .blt f es, e, e', s, h => bind_ag (evs_ag es e e' s h) fun x s1 => rfl
  | .mth m a es, e, e', s, h => bind_ag (ev_ag a e e' s (Ag.left h)) fun x s1 => by
    show (if mthOk m x s1 = true then (evs F es e s1).bind fun xs s2 => methd m x xs s2 else R.bad) = if mthOk m x s1 = true then (evs F es e' s1).bind fun xs s2 => methd m x xs s2 else R.bad
    rw [evs_ag es e e' s1 (Ag.right h)]
  | .lc tg own it hc c t, e, e', s, h => by
    rw [ev_lc, ev_lc]
    refine bind_ag (evi_ag it e e' s (Ag.left (Ag.left h))) fun q s1 => ?_
    have : lcF F tg own hc c t e = lcF F tg own hc c t e' := by
      funext x s2
      unfold lcF
      rcases bindT_ag tg x (fv c ++ fv t) _ _ ((Ag.sub (ws := fv c ++ fv t) h (fun i hi => by
        rw [fv]
        rcases List.mem_append.mp hi with q | q
        · exact List.mem_append_left _ (List.mem_append_right _ q)
        · exact List.mem_append_right _ q)).wipe own) with ⟨h1, h2⟩ | ⟨e2, e2', h1, h2, h3⟩
      · rw [h1, h2]
      · rw [h1, h2]
        refine bind_ag ?_ fun k s3 => ?_
        · cases hc
          · rfl
          · exact bind_ag (ev_ag c e2 e2' s2 h3.left) fun _ _ => rfl
        · cases k
          · rfl
          · exact bind_ag (ev_ag t e2 e2' s3 h3.right) fun _ _ => rfl
    rw [this]
  | .dic es, e, e', s, h => bind_ag (evs_ag es e e' s h) fun x s1 => rfl
  | .isi a t, e, e', s, h => bind_ag (ev_ag a e e' s h) fun x s1 => rfl
  | .rg1 _, e, e', s, h => rfl
  | .rg2 _ _, e, e', s, h => rfl
  | .rg3 _ _ _, e, e', s, h => rfl
  | .enu _, e, e', s, h => rfl
  | .zp _ _, e, e', s, h => rfl
  | .ezp _ _, e, e', s, h => rfl
  | .itm _, e, e', s, h => rfl
  | .sq _, e, e', s, h => rfl
  | .pick a n, e, e', s, h => bind_ag (ev_ag a e e' s (Ag.left h)) fun x s1 => bind_ag (ev_ag n e e' s1 (Ag.right h)) fun y s2 => rfl
  | .opn a, e, e', s, h => bind_ag (ev_ag a e e' s h) fun x s1 => rfl
  | .lrg it, e, e', s, h => bind_ag (evi_ag it e e' s h) fun x s1 => rfl
  | .dcm tg own it hc c kk t, e, e', s, h => by
    refine bind_ag (evi_ag it e e' s (Ag.left (Ag.left (Ag.left h)))) fun q s1 => ?_
    refine bind_ag ?_ fun zs s5 => rfl
    congr 2
    funext x s2
    rcases bindT_ag tg x (fv c ++ fv kk ++ fv t) _ _ ((Ag.sub (ws := fv c ++ fv kk ++ fv t) h (fun i hi => by
      rw [fv]
      rcases List.mem_append.mp hi with q | q
      · rcases List.mem_append.mp q with q | q
        · exact List.mem_append_left _ (List.mem_append_left _ (List.mem_append_right _ q))
        · exact List.mem_append_left _ (List.mem_append_right _ q)
      · exact List.mem_append_right _ q)).wipe own) with ⟨h1, h2⟩ | ⟨e2, e2', h1, h2, h3⟩
    · rw [h1, h2]
    · rw [h1, h2]
      refine bind_ag ?_ fun k s3 => ?_
      · cases hc
        · rfl
        · exact bind_ag (ev_ag c e2 e2' s2 h3.left.left) fun _ _ => rfl
      · cases k
        · rfl
        · exact bind_ag (ev_ag kk e2 e2' s3 h3.left.right) fun y s4 => bind_ag (ev_ag t e2 e2' s4 h3.right) fun _ _ => rfl
theorem evs_ag : ∀ (es : List ME) (e e' : Py.Env) (s : Py.St), Ag (fvs es) e e' → evs F es e s = evs F es e' s
  | [], e, e', s, h => rfl
  | m :: es, e, e', s, h => by
    have h : Ag (fv m ++ fvs es) e e' := by
      cases m <;> simpa only [fvs] using h
    by_cases hm : ∃ a, m = .star a
    · obtain ⟨a, rfl⟩ := hm
      have h1 : Ag (fv a) e e' := Ag.left h
      exact bind_ag (ev_ag a e e' s h1) fun x s1 => by
        cases itemsOf x with
        | none => rfl
        | some ys => exact bind_ag (evs_ag es e e' s1 (Ag.right h)) fun _ _ => rfl
    · rw [evs_cons (fun a z => hm ⟨a, z⟩), evs_cons (fun a z => hm ⟨a, z⟩)]
      exact bind_ag (ev_ag m e e' s h.left) fun x s1 => bind_ag (evs_ag es e e' s1 h.right) fun _ _ => rfl
theorem evi_ag : ∀ (m : ME) (e e' : Py.Env) (s : Py.St), Ag (fv m) e e' → evi F m e s = evi F m e' s
  | .rg1 a, e, e', s, h => bind_ag (ev_ag a e e' s h) fun x s1 => rfl
  | .rg2 a b, e, e', s, h => bind_ag (ev_ag a e e' s (Ag.left h)) fun x s1 => bind_ag (ev_ag b e e' s1 (Ag.right h)) fun y s2 => rfl
  | .rg3 a b c, e, e', s, h => bind_ag (ev_ag a e e' s (Ag.left (Ag.left h))) fun x s1 => bind_ag (ev_ag b e e' s1 (Ag.right (Ag.left h))) fun y s2 => bind_ag (ev_ag c e e' s2 (Ag.right h)) fun _ _ => rfl
  | .enu a, e, e', s, h => bind_ag (ev_ag a e e' s h) fun x s1 => rfl
  | .zp a b, e, e', s, h => bind_ag (ev_ag a e e' s (Ag.left h)) fun x s1 => bind_ag (ev_ag b e e' s1 (Ag.right h)) fun y s2 => rfl
  | .ezp a b, e, e', s, h => bind_ag (ev_ag a e e' s (Ag.left h)) fun x s1 => bind_ag (ev_ag b e e' s1 (Ag.right h)) fun y s2 => rfl
  | .itm a, e, e', s, h => bind_ag (ev_ag a e e' s h) fun x s1 => rfl
  | .sq a, e, e', s, h => bind_ag (ev_ag a e e' s h) fun x s1 => rfl
  | .nil, e, e', s, h => rfl
  | .non, e, e', s, h => rfl
  | .bl _, e, e', s, h => rfl
  | .int _, e, e', s, h => rfl
  | .str _, e, e', s, h => rfl
  | .var _, e, e', s, h => rfl
  | .glo _, e, e', s, h => rfl
  | .bin _ _ _, e, e', s, h => rfl
  | .neg _, e, e', s, h => rfl
  | .nt _, e, e', s, h => rfl
  | .cmp _ _ _, e, e', s, h => rfl
  | .chn _ _ _ _ _, e, e', s, h => rfl
  | .and _ _, e, e', s, h => rfl
  | .or _ _, e, e', s, h => rfl
  | .ite _ _ _, e, e', s, h => rfl
  | .tup _, e, e', s, h => rfl
  | .lst _, e, e', s, h => rfl
  | .star _, e, e', s, h => rfl
  | .idx _ _, e, e', s, h => rfl
  | .slc _ _ _ _ _, e, e', s, h => rfl
  | .rev _, e, e', s, h => rfl
  | .call _ _, e, e', s, h => rfl
  | .blt _ _, e, e', s, h => rfl
  | .mth _ _ _, e, e', s, h => rfl
  | .lc _ _ _ _ _ _, e, e', s, h => rfl
  | .dic _, e, e', s, h => rfl
  | .isi _ _, e, e', s, h => rfl
  | .pick _ _, e, e', s, h => rfl
  | .opn _, e, e', s, h => rfl
  | .lrg _, e, e', s, h => rfl
  | .dcm _ _ _ _ _ _ _, e, e', s, h => rfl
end
end
end Py
end

section
/-! PyS: the slots of a frame; an expression in a statement. -/
namespace Py
open PySem L2 PyProof.Rows

section
variable {K : W.Frag} {H0 H H1 : Hp} {G0 G G1 : Gh} {e : Py.Env} {σ : L2.St} {B : Nat → List Addr} {s s' : Py.St}
/-- what the slots own -/
structure SV (K : W.Frag) (H0 : Hp) (G : Gh) (H : Hp) (e : Py.Env) (σ : L2.St) (B : Nat → List Addr) : Prop where
  rv : ∀ (i : Nat) v, e[i]? = some (some v) → ∃ x, σ[i]? = some (some x) ∧ RV K G H v x (B i)
  len : e.length ≤ σ.length
  fr : ∀ i, Fr H0 G (B i)
  dj : ∀ i j, i ≠ j → ∀ a ∈ B i, a ∉ B j
  ls : ∀ i, ∀ a ∈ B i, ∃ xs, H a = some (.lst xs)

theorem Le.subT {A : List Addr} (l : Le H0 G0 G) (h : ∀ a ∈ A, ¬ G0.tz a) : Le H0 G0 (G.subT A) where
  fz := l.fz
  tz := fun a q => ⟨l.tz a q, fun z => h a z q⟩
  ds := l.ds
  sr := l.sr
  sc := l.sc
  nf := l.nf
  nt := fun a q => l.nt a q.1
  nd := l.nd
theorem kd1_nob {x : PV} (h : kd1 x = true) : nob x = true := by cases x <;> first | rfl | cases h
theorem key_nob {x : PV} {q : Key} {A : List Addr} (h : RV K G H x (kV q) A) : nob x = true := by
  cases q <;> (cases h; simp only [nob])
theorem keys_nob : ∀ {xs : List PV} {q : List Key} {A : List Addr}, RVs K G H xs (q.map kV) A → nobs xs = true
  | [], _, _, _ => by simp only [nobs]
  | x :: xs, [], _, h => by cases h
  | x :: xs, q :: qs, _, h => by
    cases h with
    | cons h r => simp only [nobs, key_nob h, keys_nob r, Bool.and_self]
theorem Paired.mem {α β : Type} {F F' : α → β → Prop} : ∀ {l : List α} {m : List β}, Paired F l m → (∀ a ∈ l, ∀ b, F a b → F' a b) → Paired F' l m
  | _, _, .nil, _ => .nil
  | _, _, .cons r t, f => .cons (f _ List.mem_cons_self _ r) (Paired.mem t fun a h b q => f a (List.mem_cons_of_mem _ h) b q)
theorem SR.subT {A : List Addr} (r : SR K G H s) : SR K (G.subT A) H s where
  len := r.len
  nd := r.nd
  dat := fun n d a e1 e2 => by
    have nb := r.nb d (List.mem_of_getElem? e1)
    cases r.dat n d a e1 e2 with
    | k e q => exact .k e (Paired.mem q fun p hp b w => ⟨w.1.subT (key_nob w.1), w.2.subT (nb p hp)⟩)
    | t e q => exact .t e (Paired.mem q fun p hp b ⟨⟨ks, e1, w1⟩, w2⟩ => ⟨⟨ks, e1, w1.subT (keys_nob w1)⟩, w2.subT (nb p hp)⟩)
    | fk e q => exact .fk e (Paired.mem q fun p hp b w => ⟨w.1.subT (key_nob w.1), w.2.subT (nb p (List.mem_cons_of_mem _ hp))⟩)
    | ft e q => exact .ft e (Paired.mem q fun p hp b ⟨⟨ks, e1, w1⟩, w2⟩ => ⟨⟨ks, e1, w1.subT (keys_nob w1)⟩, w2.subT (nb p (List.mem_cons_of_mem _ hp))⟩)
  fl := r.fl
  tl := fun a f => r.tl a f.1
  ft := fun a f g => r.ft a f g.1
  op := r.op
  si := fun a c e => let ⟨x, y, z, w⟩ := r.si a c e; ⟨x, y, z, fun q => w q.1⟩
  sc := r.sc
  nb := r.nb
theorem Keep.subT {A C : List Addr} (k : Keep K G G1 H H1 C) (h : ∀ a ∈ A, ¬ G.tz a) : Keep K G (G1.subT A) H H1 C := ⟨k.tup, k.fz, fun a q => ⟨k.tz a q, fun z => h a z q⟩, k.lst, k.ds, k.sr, k.sc, k.frz⟩

theorem RV.rdv {v : PV} {x : V} {A : List Addr} (r : RV K G H v x A) (h : ∀ a ∈ A, G.tz a) : RV K G H (rdV v) x [] := by
  cases r with
  | lo e r2 => exact .lt e (h _ List.mem_cons_self) (r2.brw fun a q => h a (List.mem_cons_of_mem _ q))
  | non => exact .non
  | bl b => exact .bl b
  | int b => exact .int b
  | str b => exact .str b
  | tup a r => exact .tup a r
  | lf a f r => exact .lf a f r
  | lb a f r => exact .lb a f r
  | lt a f r => exact .lt a f r
  | dct a => exact .dct a
  | src a => exact .src a
  | scr => exact .scr
/-- the slots vs alone -/
def onlyE (vs : List Nat) (e : Py.Env) : Py.Env := e.mapIdx fun i o => if vs.contains i then o else none
theorem onlyE_get (vs : List Nat) (e : Py.Env) (i : Nat) : (onlyE vs e)[i]? = (e[i]?).map fun o => if vs.contains i then o else none := by simp [onlyE]
theorem onlyE_ag (vs : List Nat) (e : Py.Env) : Ag vs e (onlyE vs e) := by
  refine ⟨by simp [onlyE], fun i hi => ?_⟩
  rw [onlyE_get, List.contains_iff_mem.mpr hi]
  cases e[i]? <;> rfl
theorem giveA_get (f : PV → PV) (vs : List Nat) : ∀ (k : Nat) (e : Py.Env) (i : Nat), (giveA f vs k e)[i]? = (e[i]?).map fun o => if vs.contains (k + i) then o.map f else o
  | _, [], i => by simp [giveA]
  | k, o :: r, 0 => by simp [giveA]
  | k, o :: r, i + 1 => by
    simp only [giveA, List.getElem?_cons_succ, giveA_get f vs (k + 1) r i]
    rw [show k + 1 + i = k + (i + 1) by omega]
theorem giveA_length (f : PV → PV) (vs : List Nat) : ∀ (k : Nat) (e : Py.Env), (giveA f vs k e).length = e.length
  | _, [] => rfl
  | k, o :: r => by simp [giveA, giveA_length f vs (k + 1) r]
/-- what the slots vs own -/
def ownS (B : Nat → List Addr) (vs : List Nat) : List Addr := vs.flatMap B
theorem mem_ownS {vs : List Nat} {a : Addr} : a ∈ ownS B vs ↔ ∃ i ∈ vs, a ∈ B i := by simp [ownS]
theorem SV.own {vs : List Nat} (sv : SV K H0 G H e σ B) : (∀ a ∈ ownS B vs, ∃ xs, H a = some (.lst xs)) ∧ (∀ a ∈ ownS B vs, ¬ G.fz a) ∧ (∀ a ∈ ownS B vs, ¬ G.tz a) ∧ (∀ a ∈ ownS B vs, H0 a = none) ∧ ∀ a ∈ ownS B vs, ∀ q c, G.sr = some (q, c) → a ≠ c :=
  ⟨fun a h => let ⟨i, _, q⟩ := mem_ownS.mp h; sv.ls i a q, fun a h => let ⟨i, _, q⟩ := mem_ownS.mp h; (sv.fr i).nf a q, fun a h => let ⟨i, _, q⟩ := mem_ownS.mp h; (sv.fr i).nt a q, fun a h => let ⟨i, _, q⟩ := mem_ownS.mp h; (sv.fr i).new a q, fun a h => let ⟨i, _, q⟩ := mem_ownS.mp h; (sv.fr i).nc a q⟩
/-- the slots vs lent -/
theorem SV.lend {vs : List Nat} (n : Nw K H0 G0 H G s) (sv : SV K H0 G H e σ B) : Nw K H0 G0 H (G.addT (ownS B vs)) s ∧ ER K (G.addT (ownS B vs)) H (onlyE vs e) σ := by
  obtain ⟨h1, h2, h3, h4, h5⟩ := sv.own (vs := vs)
  refine ⟨⟨n.le.trans (H1 := H0) (fun _ x => x) (Le.addT h4), n.pr, n.sr.addT h1 h2 h5⟩, fun i v h => ?_, by simp [onlyE]; exact sv.len⟩
  rw [onlyE_get] at h
  cases he : e[i]? with
  | none => rw [he] at h; cases h
  | some o =>
    rw [he] at h
    by_cases hc : vs.contains i = true
    · simp only [Option.map_some, if_pos hc, Option.some.injEq] at h
      subst h
      obtain ⟨x, e1, r⟩ := sv.rv i v he
      exact ⟨x, e1, RV.rdv (r.keep (Keep.addT _ _)) fun a ha => .inr (mem_ownS.mpr ⟨i, List.contains_iff_mem.mp hc, ha⟩)⟩
    · simp only [Option.map_some, if_neg hc, Option.some.injEq] at h
      cases h
/-- where a statement stands behind an expression; C is the value's own -/
structure Af (K : W.Frag) (H0 : Hp) (G0 : Gh) (H : Hp) (G : Gh) (H' : Hp) (G' : Gh) (e' : Py.Env) (σ : L2.St) (B' : Nat → List Addr) (s' : Py.St) (C : List Addr) : Prop where
  nw : Nw K H0 G0 H' G' s'
  sv : SV K H0 G' H' e' σ B'
  kp : Keep K G G' H H' []
  pr : Pr G H H'
  fr : Fr H0 G' C
  off : ∀ i, ∀ a ∈ B' i, a ∉ C
  new : ∀ a ∈ C, H a = none
/-- taken back: nothing that was lent is kept -/
theorem SV.back {vs : List Nat} {C : List Addr} (n : Nw K H0 G0 H G s) (sv : SV K H0 G H e σ B) (n1 : Nw K H (G.addT (ownS B vs)) H1 G1 s') (fr : Fr H G1 C) : Af K H0 G0 H G H1 (G1.subT (ownS B vs)) e σ B s' C := by
  obtain ⟨h1, h2, h3, h4, h5⟩ := sv.own (vs := vs)
  have n2 := (sv.lend (vs := vs) n).1
  have n3 := n2.trans n1
  have srA : ∀ q, G.sr = some q → G1.sr = some q := fun q e => (n1.keep0 n2.sr).sr q e
  have hsc : G1.sc = G.sc := n1.le.sc
  have kp : Keep K G G1 H H1 [] := (Keep.addT (K := K) (ownS B vs) []).trans (n1.keep0 n2.sr)
  have tzi : ∀ i, ∀ a ∈ B i, a ∉ ownS B vs → ¬ G1.tz a := fun i a ha hn z => by
    rcases n1.le.nt a z with q | q
    · exact q.elim ((sv.fr i).nt a ha) hn
    · obtain ⟨xs, w⟩ := sv.ls i a ha
      rw [w] at q; cases q
  have fzi : ∀ i, ∀ a ∈ B i, ¬ G1.fz a := fun i a ha z => by
    rcases n1.le.nf a z with q | q
    · exact (sv.fr i).nf a ha q
    · obtain ⟨xs, w⟩ := sv.ls i a ha
      rw [w] at q; cases q
  have nci : ∀ i, ∀ a ∈ B i, ∀ q c, G1.sr = some (q, c) → a ≠ c := fun i a ha q c w z => by
    rcases n1.le.sr with w' | ⟨_, q', c', w', _, nn⟩
    · exact (sv.fr i).nc a ha q c (w'.symm.trans w) z
    · rw [w'] at w
      cases w
      obtain ⟨xs, w⟩ := sv.ls i a ha
      rw [z, nn] at w; cases w
  have l0 : Le H0 G0 (G1.subT (ownS B vs)) := n3.le.subT fun a ha q => h3 a ha (n.le.tz a q)
  refine ⟨⟨l0, n3.pr, n3.sr.subT⟩, ⟨fun i v h => ?_, sv.len, fun i => ⟨(sv.fr i).nd, (sv.fr i).new, fzi i, fun a ha z => ?_, nci i⟩, sv.dj, fun i a ha => ?_⟩, kp.subT h3, ⟨n1.pr.tup, n1.pr.frz, n1.pr.lst, n1.pr.dom⟩, ?_, fun i a ha hc => ?_, fr.new⟩
  · obtain ⟨x, e1, r⟩ := sv.rv i v h
    refine ⟨x, e1, r.keep ⟨kp.tup, kp.fz, fun a q => ⟨kp.tz a q, fun z => h3 a z q⟩, fun a xs w q => ?_, kp.ds, kp.sr, kp.sc, kp.frz⟩⟩
    rcases q with q | q | q
    · exact kp.lst a xs w (.inl q)
    · exact kp.lst a xs w (.inr (.inl q))
    · exact n1.pr.lst a xs w fun p c z => (sv.fr i).nc a q p c z
  · by_cases hm : a ∈ ownS B vs
    · exact z.2 hm
    · exact tzi i a ha hm z.1
  · obtain ⟨xs, w⟩ := sv.ls i a ha
    exact ⟨xs, n1.pr.lst a xs w fun p c z => (sv.fr i).nc a ha p c z⟩
  · exact ⟨fr.nd, fun a h => n.pr.dom a (fr.new a h), fr.nf, fun a h z => fr.nt a h z.1, fr.nc⟩
  · obtain ⟨xs, w⟩ := sv.ls i a ha
    rw [fr.new a hc] at w; cases w
/-- kept: the slots vs own nothing more -/
theorem SV.gone {vs : List Nat} {C : List Addr} (n : Nw K H0 G0 H G s) (sv : SV K H0 G H e σ B) (n1 : Nw K H (G.addT (ownS B vs)) H1 G1 s') (fr : Fr H G1 C) : Af K H0 G0 H G H1 G1 (giveA brw vs 0 e) σ (fun i => if vs.contains i then [] else B i) s' C := by
  obtain ⟨h1, h2, h3, h4, h5⟩ := sv.own (vs := vs)
  have n2 := (sv.lend (vs := vs) n).1
  have n3 := n2.trans n1
  have kp : Keep K G G1 H H1 [] := (Keep.addT (K := K) (ownS B vs) []).trans (n1.keep0 n2.sr)
  have out : ∀ i, vs.contains i ≠ true → ∀ a ∈ B i, a ∉ ownS B vs := fun i hi a ha z => by
    obtain ⟨j, hj, w⟩ := mem_ownS.mp z
    have hji : j ≠ i := fun e => hi (by rw [← e]; exact List.contains_iff_mem.mpr hj)
    exact sv.dj j i hji a w ha
  have lift : ∀ i, vs.contains i ≠ true → Fr H0 G1 (B i) := fun i hi => by
    refine ⟨(sv.fr i).nd, (sv.fr i).new, fun a ha z => ?_, fun a ha z => ?_, fun a ha q c w z => ?_⟩
    · rcases n1.le.nf a z with q | q
      · exact (sv.fr i).nf a ha q
      · obtain ⟨xs, w⟩ := sv.ls i a ha
        rw [w] at q; cases q
    · rcases n1.le.nt a z with q | q
      · exact q.elim ((sv.fr i).nt a ha) (out i hi a ha)
      · obtain ⟨xs, w⟩ := sv.ls i a ha
        rw [w] at q; cases q
    · rcases n1.le.sr with w' | ⟨_, q', c', w', _, nn⟩
      · exact (sv.fr i).nc a ha q c (w'.symm.trans w) z
      · rw [w'] at w
        cases w
        obtain ⟨xs, w⟩ := sv.ls i a ha
        rw [z, nn] at w; cases w
  refine ⟨n3, ⟨fun i v h => ?_, by rw [giveA_length]; exact sv.len, fun i => ?_, fun i j hij a ha => ?_, fun i a ha => ?_⟩, kp, ⟨n1.pr.tup, n1.pr.frz, n1.pr.lst, n1.pr.dom⟩, fr.back n.pr.dom, fun i a ha hc => ?_, fr.new⟩
  · rw [giveA_get, Nat.zero_add] at h
    cases he : e[i]? with
    | none => rw [he] at h; cases h
    | some o =>
      rw [he] at h
      by_cases hc : vs.contains i = true
      · simp only [Option.map_some, if_pos hc, Option.some.injEq] at h
        cases o with
        | none => cases h
        | some w =>
          cases h
          obtain ⟨x, e1, r⟩ := sv.rv i w he
          refine ⟨x, e1, ?_⟩
          rw [if_pos hc]
          have r1 : RV K (G.addT (ownS B vs)) H w x (B i) := r.keep (Keep.addT _ _)
          have r2 := r1.brw fun a ha => .inr (mem_ownS.mpr ⟨i, List.contains_iff_mem.mp hc, ha⟩)
          exact r2.keep (n1.keep0 n2.sr)
      · simp only [Option.map_some, if_neg hc, Option.some.injEq] at h
        subst h
        obtain ⟨x, e1, r⟩ := sv.rv i v he
        refine ⟨x, e1, ?_⟩
        rw [if_neg hc]
        refine r.keep ⟨kp.tup, kp.fz, kp.tz, fun a xs w q => ?_, kp.ds, kp.sr, kp.sc, kp.frz⟩
        rcases q with q | q | q
        · exact kp.lst a xs w (.inl q)
        · exact kp.lst a xs w (.inr (.inl q))
        · exact n1.pr.lst a xs w fun p c z => (sv.fr i).nc a q p c z
  · by_cases hc : vs.contains i = true
    · rw [if_pos hc]; exact Fr.nil
    · rw [if_neg hc]; exact lift i hc
  · by_cases hc : vs.contains i = true
    · rw [if_pos hc] at ha; cases ha
    · rw [if_neg hc] at ha
      by_cases hc2 : vs.contains j = true
      · rw [if_pos hc2]; simp
      · rw [if_neg hc2]; exact sv.dj i j hij a ha
  · by_cases hc : vs.contains i = true
    · rw [if_pos hc] at ha; cases ha
    · rw [if_neg hc] at ha
      obtain ⟨xs, w⟩ := sv.ls i a ha
      exact ⟨xs, n1.pr.lst a xs w fun p c z => (sv.fr i).nc a ha p c z⟩
  · by_cases hc' : vs.contains i = true
    · rw [if_pos hc'] at ha; cases ha
    · rw [if_neg hc'] at ha
      obtain ⟨xs, w⟩ := sv.ls i a ha
      rw [fr.new a hc] at w; cases w

variable {F : Nat → List PV → Py.St → R PV} {W : XW} {α β : Type} {rel2 : Rl α β} {Q : β → Hp → Prop}
abbrev VW (W : XW) : L2.St → XW := fun _ => W
/-- an expression first; what it does not name stays -/
theorem runX' {m : ME} {f : PV → Py.St → R α} (n : Nw K H0 G0 H G s) (sv : SV K H0 G H e σ B) (p : Post K H0 G0 rel2 W Q ((ev F m e s).bind f)) :
    rdE K F (VW W) m σ H (fun y H' => ∃ v s' G' B' C, Af K H0 G0 H G H' G' (esc v (fv m) e) σ B' s' C ∧ (∀ j, j ∉ fv m → B' j = B j) ∧ RV K G' H' v y C ∧ Post K H0 G0 rel2 W Q (f v s')) := by
  obtain ⟨n2, er⟩ := sv.lend (vs := fv m) n
  rw [ev_ag F m e _ s (onlyE_ag (fv m) e)] at p
  refine ⟨_, _, s, n2.sr, er, Post.mono (fun y H1 ⟨v, s1, G1, C, n1, rv, fr, p1⟩ => ?_) (Post.bind (rel := RV K) n2.le n2.pr p)⟩
  by_cases hn : nob v = true
  · refine ⟨v, s1, G1.subT (ownS B (fv m)), B, C, ?_, fun _ _ => rfl, rv.subT hn, p1⟩
    have : esc v (fv m) e = e := by unfold esc; rw [if_pos hn]
    rw [this]
    exact sv.back n n1 fr
  · refine ⟨v, s1, G1, fun i => if (fv m).contains i then [] else B i, C, ?_, fun j hj => if_neg (fun z => hj (List.contains_iff_mem.mp z)), rv, p1⟩
    have : esc v (fv m) e = giveA brw (fv m) 0 e := by unfold esc; rw [if_neg hn]
    rw [this]
    exact sv.gone n n1 fr
theorem runX {m : ME} {f : PV → Py.St → R α} (n : Nw K H0 G0 H G s) (sv : SV K H0 G H e σ B) (p : Post K H0 G0 rel2 W Q ((ev F m e s).bind f)) :
    rdE K F (VW W) m σ H (fun y H' => ∃ v s' G' B' C, Af K H0 G0 H G H' G' (esc v (fv m) e) σ B' s' C ∧ RV K G' H' v y C ∧ Post K H0 G0 rel2 W Q (f v s')) := by
  obtain ⟨G', e', s', a1, a2, a3⟩ := runX' n sv p
  exact ⟨G', e', s', a1, a2, Post.mono (fun y H1 ⟨v, s1, G1, B1, C, af, _, rv, p⟩ => ⟨v, s1, G1, B1, C, af, rv, p⟩) a3⟩
theorem runXs {m : List ME} {f : List PV → Py.St → R α} (n : Nw K H0 G0 H G s) (sv : SV K H0 G H e σ B) (p : Post K H0 G0 rel2 W Q ((evs F m e s).bind f)) :
    rdA K F (VW W) m σ H (fun y H' => ∃ v s' G' B' C, Af K H0 G0 H G H' G' (esc (.tup v) (fvs m) e) σ B' s' C ∧ RVs K G' H' v y C ∧ Post K H0 G0 rel2 W Q (f v s')) := by
  obtain ⟨n2, er⟩ := sv.lend (vs := fvs m) n
  rw [evs_ag F m e _ s (onlyE_ag (fvs m) e)] at p
  refine ⟨_, _, s, n2.sr, er, Post.mono (fun y H1 ⟨v, s1, G1, C, n1, rv, fr, p1⟩ => ?_) (Post.bind (rel := RVs K) n2.le n2.pr p)⟩
  by_cases hn : nobs v = true
  · refine ⟨v, s1, G1.subT (ownS B (fvs m)), B, C, ?_, rv.subT hn, p1⟩
    have : esc (.tup v) (fvs m) e = e := by unfold esc; rw [if_pos (by simpa only [nob] using hn)]
    rw [this]
    exact sv.back n n1 fr
  · refine ⟨v, s1, G1, fun i => if (fvs m).contains i then [] else B i, C, ?_, rv, p1⟩
    have : esc (.tup v) (fvs m) e = giveA brw (fvs m) 0 e := by unfold esc; rw [if_neg (by simpa only [nob] using hn)]
    rw [this]
    exact sv.gone n n1 fr
theorem runI {m : ME} {f : List PV × Bool → Py.St → R α} (n : Nw K H0 G0 H G s) (sv : SV K H0 G H e σ B) (p : Post K H0 G0 rel2 W Q ((evi F m e s).bind f)) :
    rdI K F (VW W) m σ H (fun J H' => ∃ q s' G' B', Af K H0 G0 H G H' G' (if q.2 then e else giveA brw (fv m) 0 e) σ B' s' [] ∧ Wk K G' H' J q.1 ∧ Post K H0 G0 rel2 W Q (f q s')) := by
  obtain ⟨n2, er⟩ := sv.lend (vs := fv m) n
  rw [evi_ag F m e _ s (onlyE_ag (fv m) e)] at p
  refine ⟨_, _, s, n2.sr, er, Post.mono (fun y H1 ⟨v, s1, G1, C, n1, ⟨hC, wk, wk2⟩, fr, p1⟩ => ?_) (Post.bind (rel := rWk K H) n2.le n2.pr p)⟩
  subst hC
  by_cases hn : v.2 = true
  · refine ⟨v, s1, G1.subT (ownS B (fv m)), B, ?_, wk2 hn _ fun a ha z => ?_, p1⟩
    · rw [if_pos hn]
      exact sv.back n n1 Fr.nil
    · obtain ⟨xs, w⟩ := (sv.own (vs := fv m)).1 a ha
      rw [w] at z; cases z
  · refine ⟨v, s1, G1, fun i => if (fv m).contains i then [] else B i, ?_, wk, p1⟩
    rw [if_neg hn]
    exact sv.gone n n1 Fr.nil
end
end Py
end

section
/-! PyT: statements, one by one. -/
namespace Py
open PySem L2 PyProof.Rows

/-- how a statement ends, at the layer -/
inductive FV where
  | nx (σ : L2.St)
  | rt (y : V)
  | bk (σ : L2.St)
  | ct (σ : L2.St)
def QD (D : Ends) : FV → Hp → Prop
  | .nx σ, H => D.nx σ H
  | .rt y, H => D.rt y H
  | .bk σ, H => D.bk σ H
  | .ct σ, H => D.ct σ H
def FRv (K : W.Frag) (H0 : Hp) (G : Gh) (H : Hp) : Fl → FV → Prop
  | .nx e, .nx σ => ∃ B, SV K H0 G H e σ B
  | .rt v, .rt y => ∃ C, RV K G H v y C ∧ Fr H0 G C
  | .bk e, .bk σ => ∃ B, SV K H0 G H e σ B
  | .ct e, .ct σ => ∃ B, SV K H0 G H e σ B
  | _, _ => False
def FR (K : W.Frag) (H0 : Hp) (Gl : Gh) (Hl : Hp) : Rl Fl FV := fun G H f y A => A = [] ∧ Keep K Gl G Hl H [] ∧ FRv K H0 G H f y

/-- where a statement begins -/
structure At (K : W.Frag) (H0 : Hp) (G0 : Gh) (Gl : Gh) (Hl : Hp) (H : Hp) (G : Gh) (e : Py.Env) (σ : L2.St) (B : Nat → List Addr) (s : Py.St) : Prop where
  nw : Nw K H0 G0 H G s
  sv : SV K H0 G H e σ B
  kp : Keep K Gl G Hl H []
section
variable (K : W.Frag) (W : XW)
def rdS (r : Py.Env → Py.St → R Fl) : TS := fun D σ H => ∃ (H0 : Hp) (G0 Gl : Gh) (Hl : Hp) (G : Gh) (e : Py.Env) (s : Py.St) (B : Nat → List Addr), At K H0 G0 Gl Hl H G e σ B s ∧ Post K H0 G0 (FR K H0 Gl Hl) W (QD D) (r e s)
end
section
variable {K : W.Frag} {W : XW} {H0 H H' Hl : Hp} {G0 G G' Gl : Gh} {e e' : Py.Env} {σ : L2.St} {B B' : Nat → List Addr} {s s' : Py.St} {D : Ends} {C : List Addr}
theorem At.af (a : At K H0 G0 Gl Hl H G e σ B s) (f : Af K H0 G0 H G H' G' e' σ B' s' C) : At K H0 G0 Gl Hl H' G' e' σ B' s' := ⟨f.nw, f.sv, a.kp.trans f.kp⟩
theorem At.nx (a : At K H0 G0 Gl Hl H G e σ B s) (p : Post K H0 G0 (FR K H0 Gl Hl) W (QD D) (.ok (.nx e) s)) : D.nx σ H := p.at (y := .nx σ) a.nw ⟨rfl, a.kp, B, a.sv⟩ Fr.nil
theorem At.bk (a : At K H0 G0 Gl Hl H G e σ B s) (p : Post K H0 G0 (FR K H0 Gl Hl) W (QD D) (.ok (.bk e) s)) : D.bk σ H := p.at (y := .bk σ) a.nw ⟨rfl, a.kp, B, a.sv⟩ Fr.nil
theorem At.ct (a : At K H0 G0 Gl Hl H G e σ B s) (p : Post K H0 G0 (FR K H0 Gl Hl) W (QD D) (.ok (.ct e) s)) : D.ct σ H := p.at (y := .ct σ) a.nw ⟨rfl, a.kp, B, a.sv⟩ Fr.nil
theorem At.rt {v : PV} {y : V} (a : At K H0 G0 Gl Hl H G e σ B s) (r : RV K G H v y C) (f : Fr H0 G C) (p : Post K H0 G0 (FR K H0 Gl Hl) W (QD D) (.ok (.rt v) s)) : D.rt y H := p.at (y := .rt y) a.nw ⟨rfl, a.kp, C, r, f⟩ Fr.nil
/-- a slot is stored -/
def updB (B : Nat → List Addr) (i : Nat) (C : List Addr) : Nat → List Addr := fun j => if j = i then C else B j
theorem SV.set {i : Nat} {v : PV} {y : V} (sv : SV K H0 G H e σ B) (r : RV K G H v y C) (f : Fr H0 G C) (off : ∀ j, j ≠ i → ∀ a ∈ B j, a ∉ C) : SV K H0 G H (e.set i (some v)) (σ.set i (some y)) (updB B i C) := by
  refine ⟨fun j w h => ?_, by simpa using sv.len, fun j => ?_, fun j k hjk a ha => ?_, fun j a ha => ?_⟩
  · by_cases hj : i = j
    · subst hj
      have hl : i < e.length := by
        have := (List.getElem?_eq_some_iff.mp h).1
        simpa using this
      rw [List.getElem?_set_self hl] at h
      cases h
      exact ⟨y, by rw [List.getElem?_set_self (by have := sv.len; omega)], by unfold updB; rw [if_pos rfl]; exact r⟩
    · rw [List.getElem?_set_ne hj] at h
      obtain ⟨x, e1, r1⟩ := sv.rv j w h
      exact ⟨x, by rw [List.getElem?_set_ne hj]; exact e1, by unfold updB; rw [if_neg (Ne.symm hj)]; exact r1⟩
  · unfold updB
    split
    · exact f
    · exact sv.fr j
  · unfold updB at ha ⊢
    by_cases h1 : j = i
    · rw [if_pos h1] at ha
      rw [if_neg (fun z => hjk (h1.trans z.symm))]
      exact fun z => off k (fun w => hjk (h1.trans w.symm)) a z ha
    · rw [if_neg h1] at ha
      by_cases h2 : k = i
      · rw [if_pos h2]; exact off j h1 a ha
      · rw [if_neg h2]; exact sv.dj j k hjk a ha
  · unfold updB at ha
    split at ha
    · exact r.lists a ha
    · exact sv.ls j a ha
end

section
variable {X : Cx} {T : Tb} {k : Nat} {W : XW} {ex e f g : Expr} {a b c : ME} {pos : Pos} {st : Stmt} {rest : List Stmt} {m : MS} {ms : List MS}
abbrev RS (X : Cx) (T : Tb) (W : XW) (m : MS) : TS := rdS X.K W (fun e s => Py.ex T.F m e s)
abbrev RSs (X : Cx) (T : Tb) (W : XW) (ms : List MS) : TS := rdS X.K W (fun e s => exs T.F ms e s)
theorem PS.imp {t t' : TS} (h : PS X st t) (w : ∀ D σ H, t' D σ H → t D σ H) : PS X st t' := ⟨fun pins s σ H D I q => h.run pins s σ H D I (w D σ H q)⟩
theorem PSs.imp {t t' : TS} (h : PSs X rest t) (w : ∀ D σ H, t' D σ H → t D σ H) : PSs X rest t' := ⟨fun pins s σ H D I q => h.run pins s σ H D I (w D σ H q)⟩
theorem s_nil : PSs X [] (RSs X T W []) := PSs.imp pss_nil fun D σ H ⟨H0, G0, Gl, Hl, G, e, s, B, a, p⟩ => a.nx p
/-- the first part of a way on, from another loop's point -/
theorem st_bind {r : Py.Env → Py.St → R Fl} {h : Fl → Py.St → R Fl} {D : Ends} {D' : Ends} {σ : L2.St} {H H0 Hl Hm : Hp} {G0 G Gl Gm : Gh} {en : Py.Env} {s : Py.St} {B : Nat → List Addr} (at' : At X.K H0 G0 Gm Hm H G en σ B s) (p : Post X.K H0 G0 (FR X.K H0 Gl Hl) W (QD D) ((r en s).bind h))
    (hnx : ∀ e' s' σ' H' G' B', At X.K H0 G0 Gm Hm H' G' e' σ' B' s' → Post X.K H0 G0 (FR X.K H0 Gl Hl) W (QD D) (h (.nx e') s') → D'.nx σ' H')
    (hrt : ∀ v s' y H' G' C, Nw X.K H0 G0 H' G' s' → Keep X.K Gm G' Hm H' [] → RV X.K G' H' v y C → Fr H0 G' C → Post X.K H0 G0 (FR X.K H0 Gl Hl) W (QD D) (h (.rt v) s') → D'.rt y H')
    (hbk : ∀ e' s' σ' H' G' B', At X.K H0 G0 Gm Hm H' G' e' σ' B' s' → Post X.K H0 G0 (FR X.K H0 Gl Hl) W (QD D) (h (.bk e') s') → D'.bk σ' H')
    (hct : ∀ e' s' σ' H' G' B', At X.K H0 G0 Gm Hm H' G' e' σ' B' s' → Post X.K H0 G0 (FR X.K H0 Gl Hl) W (QD D) (h (.ct e') s') → D'.ct σ' H') :
    rdS X.K W r D' σ H := by
  refine ⟨H0, G0, Gm, Hm, G, en, s, B, at', Post.mono (fun y H' ⟨f, s', G', A, n, ⟨hA, kp, fr⟩, _, q⟩ => ?_) (Post.bind (rel := FR X.K H0 Gm Hm) Le.refl Pr.refl p)⟩
  cases f <;> cases y <;> first
    | exact False.elim fr
    | skip
  · obtain ⟨B', sv⟩ := fr
    exact hnx _ s' _ H' G' B' ⟨n, sv, kp⟩ q
  · obtain ⟨C, rv, fc⟩ := fr
    exact hrt _ s' _ H' G' C n kp rv fc q
  · obtain ⟨B', sv⟩ := fr
    exact hbk _ s' _ H' G' B' ⟨n, sv, kp⟩ q
  · obtain ⟨B', sv⟩ := fr
    exact hct _ s' _ H' G' B' ⟨n, sv, kp⟩ q
theorem rt_at {K : PySem.W.Frag} {W : XW} {H0 Hl H : Hp} {G0 Gl G : Gh} {s : Py.St} {D : Ends} {v : PV} {y : L2.V} {C : List Addr} (n : Nw K H0 G0 H G s) (kp : Keep K Gl G Hl H []) (r : RV K G H v y C) (f : Fr H0 G C) (p : Post K H0 G0 (FR K H0 Gl Hl) W (QD D) (.ok (.rt v) s)) : D.rt y H := p.at (y := .rt y) n ⟨rfl, kp, C, r, f⟩ Fr.nil
theorem s_cons (h1 : PS X st (RS X T W m)) (h2 : PSs X rest (RSs X T W ms)) : PSs X (st :: rest) (RSs X T W (m :: ms)) := by
  refine PSs.imp (pss_cons h1 h2) fun D σ H ⟨H0, G0, Gl, Hl, G, e, s, B, a, p⟩ => ?_
  have p : Post X.K H0 G0 (FR X.K H0 Gl Hl) W (QD D) ((Py.ex T.F m e s).bind fun f s1 => match f with | .nx e1 => exs T.F ms e1 s1 | g => .ok g s1) := p
  exact st_bind a p (fun e' s' σ' H' G' B' a' q => ⟨H0, G0, Gl, Hl, G', _, s', B', a', q⟩) (fun v s' y H' G' C n kp r f q => rt_at (D := D) n kp r f q) (fun e' s' σ' H' G' B' a' q => At.bk (D := D) a' q) fun e' s' σ' H' G' B' a' q => At.ct (D := D) a' q
theorem s_pass : PS X (.Pass pos) (RS X T W .pass) := PS.imp ps_pass fun D σ H ⟨H0, G0, Gl, Hl, G, e, s, B, a, p⟩ => a.nx p
theorem s_brk : PS X (.Break pos) (RS X T W .brk) := PS.imp ps_break fun D σ H ⟨H0, G0, Gl, Hl, G, e, s, B, a, p⟩ => a.bk p
theorem s_cont : PS X (.Continue pos) (RS X T W .cont) := PS.imp ps_continue fun D σ H ⟨H0, G0, Gl, Hl, G, e, s, B, a, p⟩ => a.ct p
theorem s_exp (h : PE X ex (RE X T (VW W) a)) (hs : swapsWith ex none pos.line X.env = pure false) : PS X (.Expr ex pos) (RS X T W (.exp a)) := by
  refine PS.imp (ps_expr h hs) fun D σ H ⟨H0, G0, Gl, Hl, G, e, s, B, at', p⟩ => ?_
  have p : Post X.K H0 G0 (FR X.K H0 Gl Hl) W (QD D) ((ev T.F a e s).bind fun v s1 => .ok (.nx (esc v (fv a) e)) s1) := p
  obtain ⟨G', e', s', a1, a2, a3⟩ := runX at'.nw at'.sv p
  exact ⟨G', e', s', a1, a2, Post.mono (fun y H1 ⟨v, s1, G1, B1, C, af, rv, p⟩ => (at'.af af).nx p) a3⟩
/-- .. name = value -/
theorem s_asg {i : Nat} {st : Stmt} (h : PS X st (tAsg (RE X T (VW W) a) (gName i))) : PS X st (RS X T W (.asg i a)) := by
  refine PS.imp h fun D σ H ⟨H0, G0, Gl, Hl, G, e, s, B, at', p⟩ => ?_
  have p : Post X.K H0 G0 (FR X.K H0 Gl Hl) W (QD D) ((ev T.F a e s).bind fun v s1 => if i < e.length then .ok (.nx ((esc v (fv a) e).set i (some v))) s1 else .bad) := p
  obtain ⟨G', e', s', a1, a2, a3⟩ := runX at'.nw at'.sv p
  refine ⟨G', e', s', a1, a2, Post.mono (fun y H1 ⟨v, s1, G1, B1, C, af, rv, p⟩ => ?_) a3⟩
  by_cases hi : i < e.length
  · rw [if_pos hi] at p
    have a4 := at'.af af
    exact At.nx ⟨a4.nw, a4.sv.set rv af.fr (fun j _ x hx => af.off j x hx), a4.kp⟩ p
  · rw [if_neg hi] at p
    exact False.elim p
theorem s_ite {x y : List Stmt} {ma mb : List MS} (hc : PT X e (RT X T (VW W) c)) (ha : PSs X x (RSs X T W ma)) (hb : PSs X y (RSs X T W mb)) : PS X (.If e x y pos) (RS X T W (.ite c ma mb)) := by
  refine PS.imp (ps_if hc ha hb) fun D σ H ⟨H0, G0, Gl, Hl, G, e, s, B, at', p⟩ => ?_
  have p : Post X.K H0 G0 (FR X.K H0 Gl Hl) W (QD D) ((ev T.F c e s).bind fun x s1 => match x with | .bl true => exs T.F ma e s1 | .bl false => exs T.F mb e s1 | _ => .bad) := p
  obtain ⟨G', e', s', a1, a2, a3⟩ := runX at'.nw at'.sv p
  refine ⟨G', e', s', a1, a2, Post.mono (fun y H1 ⟨v, s1, G1, B1, C, af, rv, p⟩ => ?_) a3⟩
  cases v <;> first
    | exact False.elim p
    | skip
  rename_i d
  obtain rfl := rv.bl_of
  refine ⟨d, rfl, ?_⟩
  have a4 := at'.af af
  have : esc (.bl d) (fv c) e = e := rfl
  rw [this] at a4
  cases d with
  | true => exact ⟨H0, G0, Gl, Hl, G1, e, s1, B1, a4, p⟩
  | false => exact ⟨H0, G0, Gl, Hl, G1, e, s1, B1, a4, p⟩
/-- a value that is no slot's own name -/
theorem s_ret (ha : ∀ i, a ≠ .var i) (h : PE X ex (RE X T (VW W) a)) : PS X (.Return (some ex) pos) (RS X T W (.ret a)) := by
  refine PS.imp (ps_ret h) fun D σ H ⟨H0, G0, Gl, Hl, G, e, s, B, at', p⟩ => ?_
  have em : evm T.F a e s = ev T.F a e s := by cases a <;> first | rfl | exact absurd rfl (ha _)
  have p : Post X.K H0 G0 (FR X.K H0 Gl Hl) W (QD D) ((evm T.F a e s).bind fun v s1 => .ok (.rt v) s1) := p
  rw [em] at p
  obtain ⟨G', e', s', a1, a2, a3⟩ := runX at'.nw at'.sv p
  refine ⟨G', e', s', a1, a2, Post.mono (fun y H1 ⟨v, s1, G1, B1, C, af, rv, p⟩ => ?_) a3⟩
  exact (at'.af af).rt rv af.fr p
/-- a slot is given on -/
theorem s_retv {i : Nat} {x : Str} {p1 : Pos} (hN : X.N[i]? = some x) (hv : Vis X.env.scope x) (h1 : (x == ("__debug__" : Str)) = false) (h2 : (x == ("__classdict__" : Str)) = false) : PS X (.Return (some (.Name x p1)) pos) (RS X T W (.ret (.var i))) := by
  refine PS.imp (ps_ret (pe_var hN hv h1 h2)) fun D σ H ⟨H0, G0, Gl, Hl, G, e, s, B, at', p⟩ => ?_
  have p : Post X.K H0 G0 (FR X.K H0 Gl Hl) W (QD D) ((match e[i]? with | some (some v) => (.ok v s : R PV) | _ => .bad).bind fun v s1 => .ok (.rt v) s1) := p
  cases he : e[i]? with
  | none => rw [he] at p; exact False.elim p
  | some o =>
    cases o with
    | none => rw [he] at p; exact False.elim p
    | some v =>
      rw [he] at p
      obtain ⟨x, e1, rv⟩ := at'.sv.rv i v he
      exact ⟨x, e1, at'.rt rv (at'.sv.fr i) p⟩
end
end Py
end

section
/-! PyU: targets of several names; loops. -/
namespace Py
open PySem L2 PyProof.Rows

section
variable {K : W.Frag} {H0 H : Hp} {G : Gh} {e : Py.Env} {σ : L2.St}
theorem sv_sto {n : Nat} {own : List Nat} : ∀ {qs : List (Nat × PV)} {ps : List (Nat × V)} {e : Py.Env} {σ : L2.St} {B : Nat → List Addr}, Paired (StoP K G H n own) qs ps → SV K H0 G H e σ B → ∃ B', SV K H0 G H (stE e qs) (stS σ ps) B'
  | _, _, _, _, B, .nil, sv => ⟨B, sv⟩
  | _, _, _, _, _, .cons (a := a) (b := b) w t, sv => by
    obtain ⟨w1, _, _, w4⟩ := w
    simp only [stE, stS]
    rw [← w1]
    exact sv_sto t (sv.set w4 Fr.nil fun j _ x _ => by simp)
end

section
variable {X : Cx} {T : Tb} {k : Nat} {W : XW} {ex e f g : Expr} {a b c : ME} {pos : Pos} {st : Stmt} {rest : List Stmt} {m : MS} {ms : List MS} {tg : Tg}
/-- a value's own lists are lent for good -/
theorem At.lent {K : PySem.W.Frag} {H0 H Hl : Hp} {G0 G Gl : Gh} {e : Py.Env} {σ : L2.St} {B : Nat → List Addr} {s : Py.St} {C : List Addr} (a : At K H0 G0 Gl Hl H G e σ B s) (f : Fr H0 G C) (l : ∀ c ∈ C, ∃ xs, H c = some (.lst xs)) (off : ∀ i, ∀ c ∈ B i, c ∉ C) : At K H0 G0 Gl Hl H (G.addT C) e σ B s :=
  ⟨a.nw.addT f l, ⟨fun i v h => let ⟨x, x1, x2⟩ := a.sv.rv i v h; ⟨x, x1, x2.keep (Keep.addT C _)⟩, a.sv.len, fun i => ⟨(a.sv.fr i).nd, (a.sv.fr i).new, (a.sv.fr i).nf, fun c hc z => z.elim ((a.sv.fr i).nt c hc) (off i c hc), (a.sv.fr i).nc⟩, a.sv.dj, a.sv.ls⟩, a.kp.trans (Keep.addT C [])⟩
/-- names = value -/
theorem s_unp {st : Stmt} (h : PS X st (tAsg (RE X T (VW W) a) (gT (.t l)))) : PS X st (RS X T W (.unp (.t l) a)) := by
  refine PS.imp h fun D σ H ⟨H0, G0, Gl, Hl, G, e, s, B, at', p⟩ => ?_
  have p : Post X.K H0 G0 (FR X.K H0 Gl Hl) W (QD D) ((ev T.F a e s).bind fun v s1 => match bindT (.t l) (brw v) (esc v (fv a) e) with | some e1 => .ok (.nx e1) s1 | none => .bad) := p
  obtain ⟨G', e', s', a1, a2, a3⟩ := runX at'.nw at'.sv p
  refine ⟨G', e', s', a1, a2, Post.mono (fun y H1 ⟨v, s1, G1, B1, C, af, rv, p⟩ => ?_) a3⟩
  have a4 := (at'.af af).lent af.fr rv.lists af.off
  have rv4 := rv.brwT
  cases hb : bindT (.t l) (brw v) (esc v (fv a) e) with
  | none => rw [hb] at p; exact False.elim p
  | some e1 =>
    rw [hb] at p
    obtain ⟨ps, qs, bd, ee, pq⟩ := bind_ok _ _ _ _ _ hb rv4
    obtain ⟨B', sv⟩ := sv_sto pq a4.sv
    rw [← ee] at sv
    exact ⟨ps, bd, At.nx ⟨a4.nw, sv, a4.kp⟩ p⟩

theorem At.trans {K : PySem.W.Frag} {H0 H H1 Hl : Hp} {G0 G G1 Gl : Gh} {e : Py.Env} {σ : L2.St} {B : Nat → List Addr} {s : Py.St} (a : At K H0 G0 G1 H1 H G e σ B s) (kp : Keep K Gl G1 Hl H1 []) : At K H0 G0 Gl Hl H G e σ B s := ⟨a.nw, a.sv, kp.trans a.kp⟩

/-- a for at a turn -/
structure FoI (X : Cx) (T : Tb) (W : XW) (tg : Tg) (bd : List MS) (D : Ends) (H0 : Hp) (G0 : Gh) (Gl : Gh) (Hl : Hp) (H1 : Hp) (G1 : Gh) (xs : List PV) (i m : Nat) (σ : L2.St) (H : Hp) : Prop where
  out : ∃ (G : Gh) (e : Py.Env) (s : Py.St) (B : Nat → List Addr), m = xs.length - i ∧ i ≤ xs.length ∧ At X.K H0 G0 G1 H1 H G e σ B s ∧
    Post X.K H0 G0 (FR X.K H0 Gl Hl) W (QD D) (forL (fun x e1 s2 => match bindT tg x e1 with | some e2 => exs T.F bd e2 s2 | none => .bad) (xs.drop i) e s)
theorem s_for {iter tx : Expr} {it : ME} {body : List Stmt} {bd : List MS} (hp : PassesOwn (model X.prog X.w) X.A X.env X.xe) (hc : X.calm = true) (hi : PI X tx iter (rdI X.K T.F (VW W) it)) (hg : PG X tx (gT tg)) (hb : PSs X body (RSs X T W bd)) (hs : ∀ x, foldedSetIterable iter X.env x = pure x) :
    PS X (.For tx iter body [] pos) (RS X T W (.for tg it bd)) := by
  refine PS.imp (ps_for hp hc hi hg hb hs) fun D σ H ⟨H0, G0, Gl, Hl, G, e, s, B, at', p⟩ => ?_
  have p : Post X.K H0 G0 (FR X.K H0 Gl Hl) W (QD D) ((evi T.F it e s).bind fun q s1 => forL (fun x e1 s2 => match bindT tg x e1 with | some e2 => exs T.F bd e2 s2 | none => .bad) q.1 (if q.2 then e else giveA brw (fv it) 0 e) s1) := p
  obtain ⟨G', e', s', a1, a2, a3⟩ := runI at'.nw at'.sv p
  refine ⟨G', e', s', a1, a2, Post.mono (fun J H1 ⟨⟨xs, fl⟩, s1, G1, B1, af, wk, p⟩ => ?_) a3⟩
  have a4 := at'.af af
  dsimp only at p wk a4
  refine ⟨FoI X T W tg bd D H0 G0 Gl Hl H1 G1 xs, ⟨xs.length, G1, _, s1, B1, by simp, Nat.zero_le _, ⟨a4.nw, a4.sv, Keep.refl⟩, by simpa using p⟩, ?_⟩
  rintro i m σ2 H2 ⟨G2, e2, s2, B2, rfl, hle, a5, p5⟩
  by_cases hlt : i < xs.length
  case neg =>
    have ei : i = xs.length := by omega
    rw [ei, List.drop_length] at p5
    exact .inl ⟨wk.stop i G2 H2 a5.kp ei, (a5.trans a4.kp).nx p5⟩
  refine .inr ⟨wk.go i G2 H2 a5.kp hlt, FoI X T W tg bd D H0 G0 Gl Hl H1 G1 xs (i + 1) (xs.length - (i + 1)), fun σ' H' w => ⟨_, by omega, w⟩, fun x H3 hy => ?_⟩
  have hx : xs[i]? = some xs[i] := List.getElem?_eq_getElem hlt
  obtain ⟨stp, rx⟩ := wk.yld i G2 H2 x H3 _ a5.kp hx hy
  have n3 := stp.nw a5.nw
  have up : ∀ {A : List Addr}, Keep X.K G2 G2 H2 H3 A := Keep.up stp.up
  have sv3 : SV X.K H0 G2 H3 e2 σ2 B2 := ⟨fun j v h => let ⟨z, z1, z2⟩ := a5.sv.rv j v h; ⟨z, z1, z2.keep up⟩, a5.sv.len, a5.sv.fr, a5.sv.dj, fun j d hd => let ⟨z, z1⟩ := a5.sv.ls j d hd; ⟨z, stp.up _ _ z1⟩⟩
  rw [List.drop_eq_getElem_cons hlt] at p5
  have p6 : Post X.K H0 G0 (FR X.K H0 Gl Hl) W (QD D) ((match bindT tg xs[i] e2 with | some e3 => exs T.F bd e3 s2 | none => .bad).bind fun f s1 => match f with
    | .nx e1 => forL (fun x e1 s2 => match bindT tg x e1 with | some e2 => exs T.F bd e2 s2 | none => .bad) (xs.drop (i + 1)) e1 s1
    | .ct e1 => forL (fun x e1 s2 => match bindT tg x e1 with | some e2 => exs T.F bd e2 s2 | none => .bad) (xs.drop (i + 1)) e1 s1
    | .bk e1 => .ok (.nx e1) s1
    | .rt v => .ok (.rt v) s1) := p5
  cases hb : bindT tg xs[i] e2 with
  | none => rw [hb] at p6; exact False.elim p6
  | some e3 =>
    rw [hb] at p6
    obtain ⟨ps, qs, bdd, ee, pq⟩ := bind_ok _ _ _ _ _ hb rx
    obtain ⟨B', sv⟩ := sv_sto pq sv3
    rw [← ee] at sv
    have a6 : At X.K H0 G0 G1 H1 H3 G2 e3 (stS σ2 ps) B' s2 := ⟨n3, sv, a5.kp.trans up⟩
    refine ⟨ps, bdd, st_bind (r := fun e s => exs T.F bd e s) a6 p6 (fun e' s' σ' H' G' B' a' q => ⟨G', e', s', B', rfl, hlt, a', q⟩) (fun v s' y H' G' C n kp r f q => rt_at (D := D) n (a4.kp.trans kp) r f q) (fun e' s' σ' H' G' B' a' q => (a'.trans a4.kp).nx q) fun e' s' σ' H' G' B' a' q => ⟨G', e', s', B', rfl, hlt, a', q⟩⟩

/-- a while at a turn -/
structure WhI (X : Cx) (T : Tb) (W : XW) (c : ME) (bd : List MS) (D : Ends) (H0 : Hp) (G0 : Gh) (Gl : Gh) (Hl : Hp) (m : Nat) (σ : L2.St) (H : Hp) : Prop where
  out : ∃ (G : Gh) (e : Py.Env) (s : Py.St) (B : Nat → List Addr), At X.K H0 G0 Gl Hl H G e σ B s ∧ Post X.K H0 G0 (FR X.K H0 Gl Hl) W (QD D) (whileL (fun e1 s1 => ev T.F c e1 s1) (fun e1 s1 => exs T.F bd e1 s1) m e s)
theorem s_while {te : Expr} {body : List Stmt} {bd : List MS} (hp : PassesOwn (model X.prog X.w) X.A X.env X.xe) (hc : PT X te (RT X T (VW W) c)) (hb : PSs X body (RSs X T W bd)) : PS X (.While te body [] pos) (RS X T W (.while c bd)) := by
  refine PS.imp (ps_while hp hc hb) fun D σ H ⟨H0, G0, Gl, Hl, G, e, s, B, at', p⟩ => ?_
  refine ⟨WhI X T W c bd D H0 G0 Gl Hl, ⟨turns, G, e, s, B, at', p⟩, ?_⟩
  rintro m σ1 H1 ⟨G1, e1, s1, B1, a1, p1⟩
  cases m with
  | zero => exact False.elim p1
  | succ m =>
    have p1 : Post X.K H0 G0 (FR X.K H0 Gl Hl) W (QD D) ((ev T.F c e1 s1).bind fun d s2 => match d with
      | .bl false => .ok (.nx e1) s2
      | .bl true => (exs T.F bd e1 s2).bind fun f s3 => match f with
        | .nx e2 => whileL (fun e1 s1 => ev T.F c e1 s1) (fun e1 s1 => exs T.F bd e1 s1) m e2 s3
        | .ct e2 => whileL (fun e1 s1 => ev T.F c e1 s1) (fun e1 s1 => exs T.F bd e1 s1) m e2 s3
        | .bk e2 => .ok (.nx e2) s3
        | .rt v => .ok (.rt v) s3
      | _ => .bad) := p1
    obtain ⟨G', e', s', b1, b2, b3⟩ := runX a1.nw a1.sv p1
    refine ⟨G', e', s', b1, b2, Post.mono (fun y H2 ⟨v, s2, G2, B2, C, af, rv, p⟩ => ?_) b3⟩
    cases v <;> first
      | exact False.elim p
      | skip
    rename_i d
    obtain rfl := rv.bl_of
    refine ⟨d, rfl, ?_⟩
    have a4 := a1.af af
    have : esc (.bl d) (fv c) e1 = e1 := rfl
    rw [this] at a4
    cases d with
    | false => exact a4.nx p
    | true =>
      refine ⟨WhI X T W c bd D H0 G0 Gl Hl m, fun σ' H' w => ⟨m, Nat.lt_succ_self m, w⟩, ?_⟩
      exact st_bind (r := fun e s => exs T.F bd e s) a4 p (fun e' s' σ' H' G' B' a' q => ⟨G', e', s', B', a', q⟩) (fun v s' y H' G' C n kp r f q => rt_at (D := D) n kp r f q) (fun e' s' σ' H' G' B' a' q => a'.nx q) fun e' s' σ' H' G' B' a' q => ⟨G', e', s', B', a', q⟩
end
end Py
end

section
/-! PyV: places within owned lists. -/
namespace Py
open PySem L2 PyProof.Rows

/-- the list at the end of a path -/
def wlk (H : Hp) : V → List Int → Option Addr
  | .ref a, [] => match H a with
    | some (.lst _) => some a
    | _ => none
  | .ref a, k :: p => match H a with
    | some (.lst vs) => match (ixOf vs.length k).bind (vs[·]?) with
      | some y => wlk H y p
      | none => none
    | _ => none
  | _, _ => none
section
variable {K : W.Frag} {G : Gh} {H : Hp}
theorem RVs.split : ∀ {xs : List PV} {vs : List V} {A : List Addr} {j : Nat} {x : PV}, RVs K G H xs vs A → xs[j]? = some x → ∃ v A1 A2 A3, vs[j]? = some v ∧ RV K G H x v A2 ∧ A = A1 ++ (A2 ++ A3) ∧ RVs K G H (xs.take j) (vs.take j) A1 ∧ RVs K G H (xs.drop (j + 1)) (vs.drop (j + 1)) A3
  | [], _, _, _, _, _, h => by simp at h
  | y :: xs, _, _, 0, x, .cons (A := A) (B := B) r t, h => by
    simp only [List.getElem?_cons_zero, Option.some.injEq] at h
    subst h
    exact ⟨_, [], A, B, rfl, r, rfl, .nil, t⟩
  | y :: xs, _, _, j + 1, x, .cons (A := A) (B := B) r t, h => by
    obtain ⟨v, A1, A2, A3, h1, h2, h3, h4, h5⟩ := RVs.split t (by simpa using h)
    exact ⟨v, A ++ A1, A2, A3, by simpa using h1, h2, by rw [h3]; simp, by simpa using RVs.cons r h4, by simpa using h5⟩
theorem okP_wlk : ∀ {p : List Int} {x : PV} {v : V} {A : List Addr}, okP p x = true → RV K G H x v A → ∃ b ∈ A, wlk H v p = some b ∧ ∀ H' : Hp, (∀ a ∈ A, H' a = H a) → wlk H' v p = some b
  | [], x, v, A, h, r => by
    cases r <;> simp only [okP, Bool.false_eq_true] at h
    rename_i a xs vs A e r
    refine ⟨a, List.mem_cons_self, by simp [wlk, e], fun H' hh => by simp [wlk, hh a List.mem_cons_self, e]⟩
  | k :: p, x, v, A, h, r => by
    cases r <;> simp only [okP, Bool.false_eq_true] at h
    rename_i a xs vs A e r
    have hl := r.length
    cases hj : ixOf xs.length k with
    | none => rw [hj] at h; simp at h
    | some j =>
      rw [hj] at h
      simp only [Option.bind_some] at h
      cases hx : xs[j]? with
      | none => rw [hx] at h; simp at h
      | some x' =>
        rw [hx] at h
        obtain ⟨v', A1, A2, A3, h1, h2, rfl, _, _⟩ := r.split hx
        obtain ⟨b, hb, w, w'⟩ := okP_wlk h h2
        have hj' : ixOf vs.length k = some j := by rw [← hl]; exact hj
        refine ⟨b, List.mem_cons_of_mem _ (List.mem_append_right _ (List.mem_append_left _ hb)), by simp [wlk, e, hj', h1, w], fun H' hh => ?_⟩
        have : wlk H' v' p = some b := w' H' fun c hc => hh c (List.mem_cons_of_mem _ (List.mem_append_right _ (List.mem_append_left _ hc)))
        simp [wlk, hh a List.mem_cons_self, e, hj', h1, this]
theorem wlk_lst : ∀ {p : List Int} {v : V} {b : Addr}, wlk H v p = some b → ∃ vs, H b = some (.lst vs)
  | [], v, b, h => by
    cases v <;> simp only [wlk, reduceCtorEq] at h
    split at h
    · cases h; exact ⟨_, by assumption⟩
    · cases h
  | k :: p, v, b, h => by
    cases v <;> simp only [wlk, reduceCtorEq] at h
    split at h
    · split at h
      · exact wlk_lst h
      · cases h
    · cases h
theorem wlk_snoc : ∀ {p : List Int} {k : Int} {v : V} {b c : Addr}, wlk H v p = some b → wlk H v (p ++ [k]) = some c → ∃ vs j, H b = some (.lst vs) ∧ ixOf vs.length k = some j ∧ vs[j]? = some (.ref c)
  | [], k, v, b, c, h, h' => by
    cases v <;> simp only [wlk, reduceCtorEq] at h
    rename_i a
    split at h
    · rename_i vs e
      cases h
      simp only [List.nil_append, wlk, e] at h'
      cases hj : ixOf vs.length k with
      | none => rw [hj] at h'; simp at h'
      | some j =>
        rw [hj] at h'
        simp only [Option.bind_some] at h'
        cases hx : vs[j]? with
        | none => rw [hx] at h'; simp at h'
        | some y =>
          rw [hx] at h'
          cases y <;> simp only [wlk, reduceCtorEq] at h'
          split at h'
          · cases h'; exact ⟨vs, j, e, hj, hx⟩
          · cases h'
    · cases h
  | q :: p, k, v, b, c, h, h' => by
    cases v <;> simp only [wlk, List.cons_append, reduceCtorEq] at h h'
    rename_i a
    cases e : H a with
    | none => rw [e] at h; simp at h
    | some o =>
      cases o <;> (rw [e] at h h'; simp only [reduceCtorEq] at h h')
      rename_i vs
      cases hx : (ixOf vs.length q).bind (vs[·]?) with
      | none => rw [hx] at h; simp at h
      | some y =>
        rw [hx] at h h'
        exact wlk_snoc h h'
/-- an owned list within is changed -/
theorem modP_ok {f : List PV → Option (List PV)} : ∀ {p : List Int} {x y : PV} {v : V} {A : List Addr}, modP f p x = some y → RV K G H x v A → A.Nodup → (∀ a ∈ A, ¬ G.fz a) → (∀ a ∈ A, ¬ G.tz a) →
    ∃ (a : Addr) (xs ys : List PV) (vs : List V) (A2 : List Addr), wlk H v p = some a ∧ a ∈ A ∧ H a = some (.lst vs) ∧ RVs K G H xs vs A2 ∧ (∀ c ∈ A2, c ∈ A) ∧ (a :: A2).Nodup ∧ f xs = some ys ∧
      ∀ (vs' : List V) (C : List Addr), C.Nodup → (∀ c ∈ C, c ∈ A2 ∨ c ∉ A) → RVs K G (L2.upd H a (.lst vs')) ys vs' C → ∃ A', RV K G (L2.upd H a (.lst vs')) y v A' ∧ A'.Nodup ∧ ∀ c ∈ A', c ∈ A ∨ c ∈ C
  | [], x, y, v, A, h, r, nd, nf, nt => by
    cases r <;> simp only [modP, reduceCtorEq] at h
    rename_i a xs vs A e r
    cases hf : f xs with
    | none => rw [hf] at h; cases h
    | some ys =>
      rw [hf] at h
      cases h
      refine ⟨a, xs, ys, vs, A, by simp [wlk, e], List.mem_cons_self, e, r, fun c hc => List.mem_cons_of_mem _ hc, nd, hf, fun vs' C ndC hC rC => ⟨a :: C, .lo upd_same rC, ?_, fun c hc => ?_⟩⟩
      · refine List.nodup_cons.mpr ⟨fun z => ?_, ndC⟩
        rcases hC a z with q | q
        · exact (List.nodup_cons.mp nd).1 q
        · exact q List.mem_cons_self
      · rcases List.mem_cons.mp hc with q | q
        · exact .inl (q ▸ List.mem_cons_self)
        · exact .inr q
  | k :: p, x, y, v, A, h, r, nd, nf, nt => by
    cases r <;> simp only [modP, reduceCtorEq] at h
    rename_i a xs vs A e r
    have hl := r.length
    cases hj : ixOf xs.length k with
    | none => rw [hj] at h; cases h
    | some j =>
      rw [hj] at h
      simp only [Option.bind_some] at h
      cases hx : xs[j]? with
      | none => rw [hx] at h; cases h
      | some x' =>
        rw [hx] at h
        simp only [Option.bind_some] at h
        cases hm : modP f p x' with
        | none => rw [hm] at h; cases h
        | some z =>
          rw [hm] at h
          cases h
          obtain ⟨v', A1, A2, A3, h1, h2, rfl, h4, h5⟩ := r.split hx
          have nd' := List.nodup_cons.mp nd
          have ndA := List.nodup_append.mp nd'.2
          have ndB := List.nodup_append.mp ndA.2.1
          have m1 : ∀ c ∈ A1, c ∈ a :: (A1 ++ (A2 ++ A3)) := fun c hc => List.mem_cons_of_mem _ (List.mem_append_left _ hc)
          have m2 : ∀ c ∈ A2, c ∈ a :: (A1 ++ (A2 ++ A3)) := fun c hc => List.mem_cons_of_mem _ (List.mem_append_right _ (List.mem_append_left _ hc))
          have m3 : ∀ c ∈ A3, c ∈ a :: (A1 ++ (A2 ++ A3)) := fun c hc => List.mem_cons_of_mem _ (List.mem_append_right _ (List.mem_append_right _ hc))
          obtain ⟨b, us, ys, ws, B2, w, hb, eb, rb, sb, ndb, hf, up⟩ := modP_ok hm h2 ndB.1 (fun c hc => nf c (m2 c hc)) (fun c hc => nt c (m2 c hc))
          have hj' : ixOf vs.length k = some j := by rw [← hl]; exact hj
          have hba : b ≠ a := fun z => nd'.1 (by rw [← z]; exact List.mem_append_right _ (List.mem_append_left _ hb))
          refine ⟨b, us, ys, ws, B2, by simp [wlk, e, hj', h1, w], m2 b hb, eb, rb, fun c hc => m2 c (sb c hc), ndb, hf, fun vs' C ndC hC rC => ?_⟩
          obtain ⟨A', r', nd2, sub⟩ := up vs' C ndC (fun c hc => (hC c hc).imp id fun q z => q (m2 c z)) rC
          have kp : ∀ {D : List Addr}, b ∉ D → Keep K G G H (L2.upd H b (.lst vs')) D := fun hh => Keep.mut eb (nf b (m2 b hb)) (nt b (m2 b hb)) hh
          have b1 : b ∉ A1 := fun z => ndA.2.2 b z b (List.mem_append_left _ hb) rfl
          have b3 : b ∉ A3 := fun z => ndB.2.2 b hb b z rfl
          have hlt : j < xs.length := (List.getElem?_eq_some_iff.mp hx).1
          have ex : xs.set j z = xs.take j ++ z :: xs.drop (j + 1) := by rw [List.set_eq_take_append_cons_drop, if_pos hlt]
          have ev : vs = vs.take j ++ v' :: vs.drop (j + 1) := by
            have hlv : j < vs.length := by omega
            have : vs[j] = v' := by
              have := List.getElem?_eq_getElem hlv
              rw [h1] at this; cases this; rfl
            rw [← this, ← List.drop_eq_getElem_cons hlv, List.take_append_drop]
          have rr : RVs K G (L2.upd H b (.lst vs')) (xs.set j z) vs (A1 ++ (A' ++ A3)) := by
            rw [ex, ev]
            have q1 := h4.keep (kp b1)
            have q3 := h5.keep (kp b3)
            have hlv : (vs.take j ++ v' :: vs.drop (j + 1)).take j = vs.take j := by rw [← ev]
            have hdv : (vs.take j ++ v' :: vs.drop (j + 1)).drop (j + 1) = vs.drop (j + 1) := by rw [← ev]
            exact q1.append (.cons r' q3)
          refine ⟨a :: (A1 ++ (A' ++ A3)), .lo (by rw [upd_ne (Ne.symm hba)]; exact e) rr, ?_, fun c hc => ?_⟩
          · have in' : ∀ c ∈ A', c ∈ A2 ∨ (c ∈ C ∧ (c ∈ B2 ∨ c ∉ a :: (A1 ++ (A2 ++ A3)))) := fun c hc => (sub c hc).imp id fun q => ⟨q, hC c q⟩
            have off : ∀ c ∈ A', c ∈ A2 ∨ c ∉ a :: (A1 ++ (A2 ++ A3)) := fun c hc => by
              rcases in' c hc with q | ⟨_, q | q⟩
              · exact .inl q
              · exact .inl (sb c q)
              · exact .inr q
            refine List.nodup_cons.mpr ⟨fun q => ?_, List.nodup_append.mpr ⟨ndA.1, List.nodup_append.mpr ⟨nd2, ndB.2.1, fun c hc d hd q => ?_⟩, fun c hc d hd q => ?_⟩⟩
            · rcases List.mem_append.mp q with q | q
              · exact nd'.1 (List.mem_append_left _ q)
              · rcases List.mem_append.mp q with q | q
                · rcases off a q with q | q
                  · exact nd'.1 (List.mem_append_right _ (List.mem_append_left _ q))
                  · exact q List.mem_cons_self
                · exact nd'.1 (List.mem_append_right _ (List.mem_append_right _ q))
            · subst q
              rcases off c hc with q | q
              · exact ndB.2.2 c q c hd rfl
              · exact q (m3 c hd)
            · subst q
              rcases List.mem_append.mp hd with q | q
              · rcases off c q with q | q
                · exact ndA.2.2 c hc c (List.mem_append_left _ q) rfl
                · exact q (m1 c hc)
              · exact ndA.2.2 c hc c (List.mem_append_right _ q) rfl
          · rcases List.mem_cons.mp hc with q | q
            · exact .inl (q ▸ List.mem_cons_self)
            · rcases List.mem_append.mp q with q | q
              · exact .inl (m1 c q)
              · rcases List.mem_append.mp q with q | q
                · exact (sub c q).imp (m2 c) id
                · exact .inl (m3 c q)
end
end Py
end

section
/-! PyW: stores into owned lists. -/
namespace Py
open PySem L2 PyProof.Rows

section
variable {K : W.Frag} {H0 H Hl H' : Hp} {G0 G Gl G' : Gh} {e : Py.Env} {σ : L2.St} {B : Nat → List Addr} {s : Py.St} {i : Nat} {x y : PV} {x0 : L2.V} {p : List Int} {f : List PV → Option (List PV)}
/-- an owned list of a slot is changed -/
theorem At.mod (at' : At K H0 G0 Gl Hl H G e σ B s) (he : e[i]? = some (some x)) (h0 : σ[i]? = some (some x0)) (hm : modP f p x = some y) :
    ∃ (a : Addr) (xs ys : List PV) (vs : List V) (A2 : List Addr), wlk H x0 p = some a ∧ H a = some (.lst vs) ∧ RVs K G H xs vs A2 ∧ (∀ c ∈ A2, c ∈ B i) ∧ (a :: A2).Nodup ∧ (∀ C : List Addr, (∀ j, ∀ c ∈ B j, c ∉ C) → a ∉ C) ∧ (∀ D : List Addr, a ∉ D → ∀ vs', Keep K G G H (L2.upd H a (.lst vs')) D) ∧ f xs = some ys ∧
      ∀ (vs' : List V) (C : List Addr), C.Nodup → (∀ c ∈ C, c ∈ A2 ∨ ∀ j, c ∉ B j) → Fr H0 G C → (∀ c ∈ C, ∃ xs, H c = some (.lst xs)) → RVs K G (L2.upd H a (.lst vs')) ys vs' C →
        ∃ B', At K H0 G0 Gl Hl (L2.upd H a (.lst vs')) G (e.set i (some y)) σ B' s ∧ (∀ j, ∀ c ∈ B' j, c ∈ B j ∨ c ∈ C) ∧ (∀ j, j ≠ i → B' j = B j) ∧ a ∈ B i := by
  obtain ⟨z, hz, rv⟩ := at'.sv.rv i x he
  rw [h0] at hz
  cases hz
  have fi := at'.sv.fr i
  obtain ⟨a, xs, ys, vs, A2, w, ha, ea, rs, sub, nd, hf, up⟩ := modP_ok hm rv fi.nd fi.nf fi.nt
  have fa : Fr H0 G [a] := fi.sub (fun c hc => by rw [List.mem_singleton.mp hc]; exact ha) (by simp)
  have kp : ∀ D : List Addr, a ∉ D → ∀ vs', Keep K G G H (L2.upd H a (.lst vs')) D := fun D hD vs' => Keep.mut ea (fi.nf a ha) (fi.nt a ha) hD
  refine ⟨a, xs, ys, vs, A2, w, ea, rs, sub, nd, fun C hC z => hC i a ha z, kp, hf, fun vs' C ndC hC frC lsC rC => ?_⟩
  obtain ⟨A', r', nd', sub'⟩ := up vs' C ndC (fun c hc => (hC c hc).imp id fun q => q i) rC
  have hC' : ∀ c ∈ A', c ∈ B i ∨ ∀ j, c ∉ B j := fun c hc => by
    rcases sub' c hc with q | q
    · exact .inl q
    · exact (hC c q).imp (sub c) id
  have fr' : Fr H0 G A' := ⟨nd', fun c hc => (sub' c hc).elim (fi.new c) (frC.new c), fun c hc => (sub' c hc).elim (fi.nf c) (frC.nf c), fun c hc => (sub' c hc).elim (fi.nt c) (frC.nt c), fun c hc => (sub' c hc).elim (fi.nc c) (frC.nc c)⟩
  refine ⟨updB B i A', ⟨at'.nw.mut ea fa, ⟨fun j v hj => ?_, by simpa using at'.sv.len, fun j => ?_, fun j k hjk c hc => ?_, fun j c hc => ?_⟩, at'.kp.trans (kp [] (by simp) vs')⟩, fun j c hc => ?_, (fun j hj => by unfold updB; rw [if_neg hj]), ha⟩
  · by_cases hji : i = j
    · subst hji
      have hlen : i < e.length := (List.getElem?_eq_some_iff.mp he).1
      rw [List.getElem?_set_self hlen] at hj
      cases hj
      exact ⟨x0, h0, by unfold updB; rw [if_pos rfl]; exact r'⟩
    · rw [List.getElem?_set_ne hji] at hj
      obtain ⟨x1, e1, r1⟩ := at'.sv.rv j v hj
      refine ⟨x1, e1, ?_⟩
      unfold updB
      rw [if_neg (Ne.symm hji)]
      exact r1.keep (kp _ (fun z => at'.sv.dj i j hji a ha z) vs')
  · unfold updB
    split
    · exact fr'
    · exact at'.sv.fr j
  · unfold updB at hc ⊢
    by_cases h1 : j = i
    · rw [if_pos h1] at hc
      rw [if_neg (fun z => hjk (h1.trans z.symm))]
      rcases hC' c hc with q | q
      · exact at'.sv.dj i k (fun z => hjk (h1.trans z)) c q
      · exact q k
    · rw [if_neg h1] at hc
      by_cases h2 : k = i
      · rw [if_pos h2]
        intro z
        rcases hC' c z with q | q
        · exact at'.sv.dj j i h1 c hc q
        · exact q j hc
      · rw [if_neg h2]; exact at'.sv.dj j k hjk c hc
  · by_cases hca : c = a
    · rw [hca]; exact ⟨_, upd_same⟩
    · rw [upd_ne hca]
      unfold updB at hc
      split at hc
      · rcases sub' c hc with q | q
        · exact at'.sv.ls i c q
        · exact lsC c q
      · exact at'.sv.ls j c hc
  · unfold updB at hc
    split at hc
    · rename_i hji
      subst hji
      exact sub' c hc
    · exact .inl hc
end

/-! ### the list at the end of a path, as an expression -/
def chkP (M : Nm) (sc : Scope) (i : Nat) : List ME → Expr → Bool
  | [], .Name x _ => atB M.N i x && visB sc x && !(x == ("__debug__" : Str)) && !(x == ("__classdict__" : Str))
  | a :: r, .Subscript e f _ => chkP M sc i r e && chk M sc a f
  | _, _ => false
section
variable (K : W.Frag) (F : Nat → List PV → Py.St → R PV) (W : XW)
/-- behind a path: all as it was, the list found -/
structure PaI (H0 : Hp) (G : Gh) (H : Hp) (e : Py.Env) (σ : L2.St) (B : Nat → List Addr) (vs : List Nat) (i : Nat) (G' : Gh) (H' : Hp) (p : List Int) (o : V) : Prop where
  sv : ∃ B', SV K H0 G' H' e σ B' ∧ ∀ j, j ∉ vs → B' j = B j
  kp : Keep K G G' H H' []
  same : ∀ j, j ∉ vs → ∀ a ∈ B j, H' a = H a
  at' : ∃ x0 b, σ[i]? = some (some x0) ∧ o = .ref b ∧ wlk H' x0 p = some b
def rPa (H0 : Hp) (G : Gh) (H : Hp) (e : Py.Env) (σ : L2.St) (B : Nat → List Addr) (vs : List Nat) (i : Nat) (x : PV) : Rl (List Int) V := fun G' H' p o A => A = [] ∧ PaI K H0 G H e σ B vs i G' H' p o ∧ okP p x = true
def rdP (i : Nat) (path : List ME) : TE := fun σ H Q => ∃ (H0 : Hp) (G0 G : Gh) (e : Py.Env) (s : Py.St) (B : Nat → List Addr) (x : PV), Nw K H0 G0 H G s ∧ SV K H0 G H e σ B ∧ e[i]? = some (some x) ∧ Post K H0 G0 (rPa K H0 G H e σ B (fvs path) i x) W Q (evp F x path e s)
end
section
variable {X : Cx} {T : Tb} {k : Nat} {W : XW} {M : Nm}
theorem fvs_cons {a : ME} {r : List ME} (h : ∀ x, a ≠ .star x) : fvs (a :: r) = fv a ++ fvs r := by simp only [fvs]
theorem sv_same {K : PySem.W.Frag} {H0 H H' : Hp} {G G' : Gh} {e : Py.Env} {σ : L2.St} {B : Nat → List Addr} {i : Nat} (sv : SV K H0 G H e σ B) (pr : Pr G H H') : ∀ a ∈ B i, H' a = H a := fun a ha => by
  obtain ⟨xs, w⟩ := sv.ls i a ha
  rw [w]
  exact pr.lst a xs w fun q c z => (sv.fr i).nc a ha q c z
theorem k_path (lk : Lk M T) (px : PX T k X (VW W)) (hN : X.N = M.N) (i : Nat) : ∀ (path : List ME) (ex : Expr), chkP M X.env.scope i path ex = true → PE X ex (rdP X.K T.F W i path)
  | [], ex, h => by
    cases ex <;> simp only [chkP, Bool.false_eq_true] at h
    simp only [Bool.and_eq_true, atB, decide_eq_true_eq, Bool.not_eq_true'] at h
    refine PE.imp (pe_var (by rw [hN]; exact h.1.1.1) (visB_ok h.1.1.2) h.1.2 h.2) fun σ H Q ⟨H0, G0, G, e, s, B, x, n, sv, he, p⟩ => ?_
    obtain ⟨x0, h0, rv⟩ := sv.rv i x he
    have p : Post X.K H0 G0 (rPa X.K H0 G H e σ B (fvs []) i x) W Q (if okP [] x then .ok [] s else .bad) := p
    by_cases ho : okP [] x = true
    · rw [if_pos ho] at p
      obtain ⟨b, _, w, _⟩ := okP_wlk ho rv
      have hx : x0 = .ref b := by
        cases x0 <;> simp only [wlk, reduceCtorEq] at w
        split at w
        · cases w; rfl
        · cases w
      exact ⟨x0, h0, p.at (A := []) n ⟨rfl, ⟨⟨B, sv, fun _ _ => rfl⟩, Keep.refl, fun _ _ _ _ => rfl, x0, b, h0, hx, w⟩, ho⟩ Fr.nil⟩
    · rw [if_neg ho] at p
      exact False.elim p
  | a :: r, ex, h => by
    cases ex <;> simp only [chkP, Bool.false_eq_true] at h
    rename_i e f pos
    rw [Bool.and_eq_true] at h
    have ih := k_path lk px hN i r e h.1
    have hf := (cE lk a X (VW W) f px hN h.2).pe
    refine PE.imp (pe_ix ix_list ih hf (plain_ix (noSlice_chk h.2))) fun σ H Q ⟨H0, G0, G, e, s, B, x, n, sv, he, p⟩ => ?_
    have p : Post X.K H0 G0 (rPa X.K H0 G H e σ B (fvs (a :: r)) i x) W Q ((evp T.F x r e s).bind fun z s1 => (ev T.F a e s1).bind fun y s2 => (intP y s2).bind fun i s3 => if okP (z ++ [i]) x then .ok (z ++ [i]) s3 else .bad) := p
    refine ⟨H0, G0, G, e, s, B, x, n, sv, he, Post.mono (fun o H1 ⟨z, s1, G1, A, n1, ⟨hA, pa, hok⟩, _, p1⟩ => ?_) (Post.bind (rel := rPa X.K H0 G H e σ B (fvs r) i x) Le.refl Pr.refl p)⟩
    obtain ⟨B1, sv1, ot1⟩ := pa.sv
    obtain ⟨G', e', s', a1, a2, a3⟩ := runX' n1 sv1 p1
    refine ⟨G', e', s', a1, a2, Post.mono (fun y H2 ⟨v, s2, G2, B2, C, af, ot2, rv, p2⟩ => ?_) a3⟩
    cases v <;> first
      | exact False.elim p2
      | skip
    rename_i j
    obtain rfl := rv.int_of
    have p2 : Post X.K H0 G0 (rPa X.K H0 G H e σ B (fvs (a :: r)) i x) W Q (if okP (z ++ [j]) x then .ok (z ++ [j]) s2 else .bad) := p2
    by_cases ho : okP (z ++ [j]) x = true
    · rw [if_pos ho] at p2
      have sv2 : SV X.K H0 G2 H2 e σ B2 := af.sv
      obtain ⟨x0, b, h0, rfl, w⟩ := pa.at'
      obtain ⟨x1, h1, rv1⟩ := sv1.rv i x he
      rw [h0] at h1
      cases h1
      obtain ⟨b1, _, w1, w2⟩ := okP_wlk hok rv1
      rw [w] at w1
      cases w1
      have w3 : wlk H2 x0 z = some b := w2 H2 (sv_same (G' := G2) sv1 af.pr)
      obtain ⟨x1, h1, rv2⟩ := sv2.rv i x he
      rw [h0] at h1
      cases h1
      obtain ⟨c, _, w4, _⟩ := okP_wlk ho rv2
      obtain ⟨vs, jj, eb, hj, hv⟩ := wlk_snoc w3 w4
      refine ⟨b, vs, j, .ref c, rfl, rfl, .inl (.inl eb), by unfold atI; rw [← ixOf_eq, hj]; exact hv, p2.at (A := []) af.nw ⟨rfl, ⟨⟨B2, sv2, fun j hj => ?_⟩, pa.kp.trans af.kp, fun j hj d hd => ?_, x0, c, h0, rfl, w4⟩, ho⟩ Fr.nil⟩
      all_goals rw [fvs_cons (m_noStar h.2)] at hj
      rotate_left
      · have q1 := ot1 j fun z => hj (List.mem_append_right _ z)
        rw [sv_same (G' := G2) (i := j) sv1 af.pr d (by rw [q1]; exact hd)]
        exact pa.same j (fun z => hj (List.mem_append_right _ z)) d hd
      rw [ot2 j fun z => hj (List.mem_append_left _ z), ot1 j fun z => hj (List.mem_append_right _ z)]
    · rw [if_neg ho] at p2
      exact False.elim p2
end
end Py
end

section
/-! PyX: append, extend, pop, x[i] = v. -/
namespace Py
open PySem L2 PyProof.Rows

section
variable {X : Cx} {T : Tb} {k : Nat} {W : XW} {M : Nm} {ex o ae : Expr} {a b ix : ME} {path : List ME} {i : Nat} {pos cpos apos : Pos}

theorem esc_one (h : ∀ x, a ≠ .star x) (v : PV) (e : Py.Env) : esc (.tup [v]) (fvs [a]) e = esc v (fv a) e := by
  unfold esc
  rw [fvs_cons h]
  simp only [nob, nobs, fvs, Bool.and_true, List.append_nil]
theorem top_of : ∀ L : List Nat, ∃ m, ∀ x ∈ L, x ≤ m
  | [] => ⟨0, fun _ h => nomatch h⟩
  | y :: L => by
    obtain ⟨m, h⟩ := top_of L
    refine ⟨y + m, fun x hx => ?_⟩
    rcases List.mem_cons.mp hx with q | q
    · omega
    · have := h x q; omega
theorem find_out (n : Nat) (L : List Nat) : ∃ j, n ≤ j ∧ j ∉ L := by
  obtain ⟨m, h⟩ := top_of L
  exact ⟨n + m + 1, by omega, fun z => by have := h _ z; omega⟩
theorem path_base {env : PySem.Env} {sc : Scope} (h : chkP M sc i path o = true) (nm : Str) (w : Sem Value) : attributeBase o nm env w = w := by
  cases path <;> cases o <;> first
    | rfl
    | simp only [chkP, Bool.false_eq_true] at h

theorem noOs_own {K : PySem.W.Frag} {G : Gh} {H : Hp} : ∀ {xs : List PV} {vs : List L2.V} {A : List Addr}, RVs K G H xs vs A → xs.all noO = true → A = []
  | _, _, _, .nil, _ => rfl
  | _, _, _, .cons r rs, h => by
    rw [List.all_cons, Bool.and_eq_true] at h
    rw [noOs_own rs h.2]
    cases r <;> first | rfl | (have := h.1; simp [noO] at this)
theorem RV.lst_no {K : PySem.W.Frag} {G : Gh} {H : Hp} {md : Md} {xs : List PV} {y : L2.V} {A : List Addr} (r : RV K G H (.lst md xs) y A) (h : xs.all noO = true) : ∃ b zs, y = .ref b ∧ H b = some (.lst zs) ∧ RVs K G H (brws xs) zs [] := by
  cases r with
  | lf e f rs => exact ⟨_, _, rfl, e, rs.brw fun _ q => nomatch q⟩
  | lb e f rs => exact ⟨_, _, rfl, e, rs.brw fun _ q => nomatch q⟩
  | lt e f rs => exact ⟨_, _, rfl, e, rs.brw fun _ q => nomatch q⟩
  | lo e rs =>
    have := noOs_own rs h
    subst this
    exact ⟨_, _, rfl, e, rs.brw fun _ q => nomatch q⟩
/-- x[..].append(v) -/
theorem s_app (lk : Lk M T) (px : PX T k X (VW W)) (hN : X.N = M.N) (hp : chkP M X.env.scope i path o = true) (ha : chk M X.env.scope a ae = true) (hl : (apos.endLine == cpos.line) = true) :
    PS X (.Expr (.Call (.Attribute o "append" apos) [ae] [] cpos) pos) (RS X T W (.app i path a)) := by
  have pp := k_path lk px hN i path o hp
  have pa := ka_cons (m_noStar ha) (noStar_chk ha) (cE lk a X (VW W) ae px hN ha).pe (ka_nil (T := T) (V := VW W))
  have st := star_of (es := []) (noStar_chk ha) X.env
  have few : ((backTo cpos (starEach [ae] X.env)).all (fun x => !x.1) && (backToKw cpos (keywordEach [] X.env)).all (fun x => x.1.isSome) && decide (([ae] : List Expr).length + ([] : List Keyword).length + (if ([] : List Keyword).isEmpty then 0 else 1) < 30)) = true := by
    rw [st]; rfl
  refine PS.imp (ps_expr (pe_bm PySem.F.plainAttrs_list PySem.F.slot_list_append PySem.F.type_list_append mt_append pp pa (path_base hp _ _) few hl st rfl)) fun D σ H ⟨H0, G0, Gl, Hl, G, e, s, B, at', p⟩ => ?_
  have p : Post X.K H0 G0 (FR X.K H0 Gl Hl) W (QD D) (match e[i]? with
    | some (some x) => (evp T.F x path e s).bind fun p s0 => (ev T.F a e s0).bind fun v s1 => match (esc v (fv a) e)[i]? with
      | some (some x1) => match modP (appF v) p x1 with
        | some y => .ok (.nx ((esc v (fv a) e).set i (some y))) s1
        | none => .bad
      | _ => .bad
    | _ => .bad) := p
  cases he : e[i]? with
  | none => rw [he] at p; exact False.elim p
  | some ox =>
    cases ox with
    | none => rw [he] at p; exact False.elim p
    | some x =>
      rw [he] at p
      refine ⟨H0, G0, G, e, s, B, x, at'.nw, at'.sv, he, Post.mono (fun ov H1 ⟨z, s1, G1, A, n1, ⟨hA, pa, hok⟩, _, p1⟩ => ?_) (Post.bind (rel := rPa X.K H0 G H e σ B (fvs path) i x) Le.refl Pr.refl p)⟩
      obtain ⟨B1, sv1, _⟩ := pa.sv
      obtain ⟨x0, bb, h0, rfl, w⟩ := pa.at'
      obtain ⟨vs0, eb⟩ := wlk_lst w
      refine ⟨.inl ⟨rfl, vs0, .inl (.inl eb)⟩, ?_⟩
      have a1 : At X.K H0 G0 Gl Hl H1 G1 e σ B1 s1 := ⟨n1, sv1, at'.kp.trans pa.kp⟩
      rw [evs_one (m_noStar ha)] at p1
      obtain ⟨G', e', s', b1, b2, b3⟩ := runXs n1 sv1 p1
      refine ⟨G', e', s', b1, b2, Post.mono (fun ys H2 ⟨vs, s2, G2, B2, C, af, rvs, p2⟩ => ?_) b3⟩
      rcases vs with _ | ⟨v, _ | ⟨_, _⟩⟩ <;> first
        | exact False.elim p2
        | skip
      obtain ⟨yv, rfl, rv⟩ := rvs.one
      rw [esc_one (m_noStar ha)] at af
      have a2 := a1.af af
      dsimp only at p2
      cases he2 : (esc v (fv a) e)[i]? with
      | none => rw [he2] at p2; exact False.elim p2
      | some ox =>
        cases ox with
        | none => rw [he2] at p2; exact False.elim p2
        | some x1 =>
          rw [he2] at p2
          dsimp only at p2
          cases hm : modP (appF v) z x1 with
          | none => rw [hm] at p2; exact False.elim p2
          | some y =>
            rw [hm] at p2
            obtain ⟨c, xs, ys, us, A2, w2, ec, rs, sub, nd, cC, kp, hf, fin⟩ := a2.mod he2 h0 hm
            obtain ⟨x2, q1, rv1⟩ := sv1.rv i x he
            rw [h0] at q1
            cases q1
            obtain ⟨b', _, w3, w4⟩ := okP_wlk hok rv1
            rw [w] at w3
            cases w3
            have := w4 H2 (sv_same (G' := G2) sv1 af.pr)
            rw [w2] at this
            cases this
            unfold appF at hf
            split at hf
            case isFalse => cases hf
            case isTrue hz =>
              cases hf
              have hlen := rs.length
              have ndA := List.nodup_cons.mp nd
              have hcC : bb ∉ C := cC C fun j d hd => af.off j d hd
              refine ⟨bb, us, yv, rfl, rfl, ec, by omega, ?_⟩
              obtain ⟨B', at3, _⟩ := fin (us ++ [yv]) (A2 ++ C) (List.nodup_append.mpr ⟨ndA.2, af.fr.nd, fun d hd d' hd' q => by
                  subst q
                  exact af.off i d (sub d hd) hd'⟩) (fun d hd => (List.mem_append.mp hd).imp id fun q j z => af.off j d z q) ((a2.sv.fr i).sub (fun d hd => sub d hd) ndA.2 |>.append af.fr fun d hd z => af.off i d (sub d hd) z) (fun d hd => (List.mem_append.mp hd).elim (rs.lists d) (rv.lists d))
                ((rs.keep (kp A2 ndA.1 _)).snoc (rv.keep (kp C hcC _)))
              exact at3.nx p2
theorem rem1_at (k : Int) : ∀ ns : List Int, ns.contains k = true → ∃ j, ns[j]? = some k ∧ (∀ m : Nat, m < j → ns[m]? ≠ some k) ∧ ns.eraseIdx j = rem1 k ns
  | [], h => by simp at h
  | y :: r, h => by
    by_cases hy : y = k
    · subst hy
      exact ⟨0, rfl, fun m hm => absurd hm (Nat.not_lt_zero _), by unfold rem1; rw [if_pos rfl]; rfl⟩
    · have h' : r.contains k = true := by
        simp only [List.contains_cons, Bool.or_eq_true, beq_iff_eq] at h
        exact h.resolve_left fun z => hy z.symm
      obtain ⟨j, h1, h2, h3⟩ := rem1_at k r h'
      refine ⟨j + 1, h1, fun m hm => ?_, ?_⟩
      · cases m with
        | zero => intro z; exact hy (Option.some.inj z)
        | succ m => exact h2 m (by omega)
      · unfold rem1
        rw [if_neg hy, List.eraseIdx_cons_succ, h3]
/-- x[..].remove(v), ints -/
theorem s_rem (lk : Lk M T) (px : PX T k X (VW W)) (hN : X.N = M.N) (hp : chkP M X.env.scope i path o = true) (ha : chk M X.env.scope a ae = true) (hl : (apos.endLine == cpos.line) = true) :
    PS X (.Expr (.Call (.Attribute o "remove" apos) [ae] [] cpos) pos) (RS X T W (.rem i path a)) := by
  have pp := k_path lk px hN i path o hp
  have pa := ka_cons (m_noStar ha) (noStar_chk ha) (cE lk a X (VW W) ae px hN ha).pe (ka_nil (T := T) (V := VW W))
  have st := star_of (es := []) (noStar_chk ha) X.env
  have few : ((backTo cpos (starEach [ae] X.env)).all (fun x => !x.1) && (backToKw cpos (keywordEach [] X.env)).all (fun x => x.1.isSome) && decide (([ae] : List Expr).length + ([] : List Keyword).length + (if ([] : List Keyword).isEmpty then 0 else 1) < 30)) = true := by
    rw [st]; rfl
  refine PS.imp (ps_expr (pe_bm PySem.F.plainAttrs_list PySem.F.slot_list_remove PySem.F.type_list_remove mt_remove pp pa (path_base hp _ _) few hl st rfl)) fun D σ H ⟨H0, G0, Gl, Hl, G, e, s, B, at', p⟩ => ?_
  have p : Post X.K H0 G0 (FR X.K H0 Gl Hl) W (QD D) (match e[i]? with
    | some (some x) => (evp T.F x path e s).bind fun p s0 => (ev T.F a e s0).bind fun v s1 => match v with
      | .int k => match (esc v (fv a) e)[i]? with
        | some (some x1) => match modP (remF k) p x1 with
          | some y => .ok (.nx ((esc v (fv a) e).set i (some y))) s1
          | none => .bad
        | _ => .bad
      | _ => .bad
    | _ => .bad) := p
  cases he : e[i]? with
  | none => rw [he] at p; exact False.elim p
  | some ox =>
    cases ox with
    | none => rw [he] at p; exact False.elim p
    | some x =>
      rw [he] at p
      refine ⟨H0, G0, G, e, s, B, x, at'.nw, at'.sv, he, Post.mono (fun ov H1 ⟨z, s1, G1, A, n1, ⟨hA, pa, hok⟩, _, p1⟩ => ?_) (Post.bind (rel := rPa X.K H0 G H e σ B (fvs path) i x) Le.refl Pr.refl p)⟩
      obtain ⟨B1, sv1, _⟩ := pa.sv
      obtain ⟨x0, bb, h0, rfl, w⟩ := pa.at'
      obtain ⟨vs0, eb⟩ := wlk_lst w
      refine ⟨.inl ⟨rfl, vs0, .inl (.inl eb)⟩, ?_⟩
      have a1 : At X.K H0 G0 Gl Hl H1 G1 e σ B1 s1 := ⟨n1, sv1, at'.kp.trans pa.kp⟩
      rw [evs_one (m_noStar ha)] at p1
      obtain ⟨G', e', s', b1, b2, b3⟩ := runXs n1 sv1 p1
      refine ⟨G', e', s', b1, b2, Post.mono (fun ys H2 ⟨vs, s2, G2, B2, C, af, rvs, p2⟩ => ?_) b3⟩
      rcases vs with _ | ⟨v, _ | ⟨_, _⟩⟩ <;> first
        | exact False.elim p2
        | skip
      obtain ⟨yv, rfl, rv⟩ := rvs.one
      rw [esc_one (m_noStar ha)] at af
      have a2 := a1.af af
      cases v <;> first
        | exact False.elim p2
        | skip
      rename_i k
      obtain rfl := rv.int_of
      dsimp only at p2
      cases he2 : (esc (PV.int k) (fv a) e)[i]? with
      | none => rw [he2] at p2; exact False.elim p2
      | some ox =>
        cases ox with
        | none => rw [he2] at p2; exact False.elim p2
        | some x1 =>
          rw [he2] at p2
          dsimp only at p2
          cases hm : modP (remF k) z x1 with
          | none => rw [hm] at p2; exact False.elim p2
          | some y =>
            rw [hm] at p2
            obtain ⟨c, xs, ys, us, A2, w2, ec, rs, sub, nd, cC, kp, hf, fin⟩ := a2.mod he2 h0 hm
            obtain ⟨x2, q1, rv1⟩ := sv1.rv i x he
            rw [h0] at q1
            cases q1
            obtain ⟨b', _, w3, w4⟩ := okP_wlk hok rv1
            rw [w] at w3
            cases w3
            have := w4 H2 (sv_same (G' := G2) sv1 af.pr)
            rw [w2] at this
            cases this
            unfold remF at hf
            cases hi : intsOf xs with
            | none => rw [hi] at hf; cases hf
            | some ns =>
              rw [hi] at hf
              dsimp only at hf
              split at hf
              case isFalse => cases hf
              case isTrue hc =>
                cases hf
                obtain rfl := ints_rv rs hi
                obtain ⟨j, j1, j2, j3⟩ := rem1_at k ns hc
                refine ⟨bb, ns, k, j, rfl, rfl, ec, j1, j2, ?_⟩
                rw [j3]
                obtain ⟨B', at3, _⟩ := fin ((rem1 k ns).map V.int) [] List.nodup_nil (fun d hd => nomatch hd) Fr.nil (fun d hd => nomatch hd) (intsV _)
                exact at3.nx p2
/-- x[..].extend(v) -/
theorem s_ext (lk : Lk M T) (px : PX T k X (VW W)) (hN : X.N = M.N) (hp : chkP M X.env.scope i path o = true) (ha : chk M X.env.scope a ae = true) (hl : (apos.endLine == cpos.line) = true) :
    PS X (.Expr (.Call (.Attribute o "extend" apos) [ae] [] cpos) pos) (RS X T W (.ext i path a)) := by
  have pp := k_path lk px hN i path o hp
  have pa := ka_cons (m_noStar ha) (noStar_chk ha) (cE lk a X (VW W) ae px hN ha).pe (ka_nil (T := T) (V := VW W))
  have st := star_of (es := []) (noStar_chk ha) X.env
  have few : ((backTo cpos (starEach [ae] X.env)).all (fun x => !x.1) && (backToKw cpos (keywordEach [] X.env)).all (fun x => x.1.isSome) && decide (([ae] : List Expr).length + ([] : List Keyword).length + (if ([] : List Keyword).isEmpty then 0 else 1) < 30)) = true := by
    rw [st]; rfl
  refine PS.imp (ps_expr (pe_bm PySem.F.plainAttrs_list PySem.F.slot_list_extend PySem.F.type_list_extend mt_extend pp pa (path_base hp _ _) few hl st rfl)) fun D σ H ⟨H0, G0, Gl, Hl, G, e, s, B, at', p⟩ => ?_
  have p : Post X.K H0 G0 (FR X.K H0 Gl Hl) W (QD D) (match e[i]? with
    | some (some x) => (evp T.F x path e s).bind fun p s0 => (ev T.F a e s0).bind fun v s1 => match v with
      | .lst _ ys => if ys.all noO then match (esc v (fv a) e)[i]? with
        | some (some x1) => match modP (extF (brws ys)) p x1 with
          | some y => .ok (.nx ((esc v (fv a) e).set i (some y))) s1
          | none => .bad
        | _ => .bad else .bad
      | _ => .bad
    | _ => .bad) := p
  cases he : e[i]? with
  | none => rw [he] at p; exact False.elim p
  | some ox =>
    cases ox with
    | none => rw [he] at p; exact False.elim p
    | some x =>
      rw [he] at p
      refine ⟨H0, G0, G, e, s, B, x, at'.nw, at'.sv, he, Post.mono (fun ov H1 ⟨z, s1, G1, A, n1, ⟨hA, pa, hok⟩, _, p1⟩ => ?_) (Post.bind (rel := rPa X.K H0 G H e σ B (fvs path) i x) Le.refl Pr.refl p)⟩
      obtain ⟨B1, sv1, _⟩ := pa.sv
      obtain ⟨x0, bb, h0, rfl, w⟩ := pa.at'
      obtain ⟨vs0, eb⟩ := wlk_lst w
      refine ⟨.inl ⟨rfl, vs0, .inl (.inl eb)⟩, ?_⟩
      have a1 : At X.K H0 G0 Gl Hl H1 G1 e σ B1 s1 := ⟨n1, sv1, at'.kp.trans pa.kp⟩
      rw [evs_one (m_noStar ha)] at p1
      obtain ⟨G', e', s', b1, b2, b3⟩ := runXs n1 sv1 p1
      refine ⟨G', e', s', b1, b2, Post.mono (fun ys H2 ⟨vs, s2, G2, B2, C, af, rvs, p2⟩ => ?_) b3⟩
      rcases vs with _ | ⟨v, _ | ⟨_, _⟩⟩ <;> first
        | exact False.elim p2
        | skip
      obtain ⟨yv, rfl, rv⟩ := rvs.one
      rw [esc_one (m_noStar ha)] at af
      have a2 := a1.af af
      cases v <;> first
        | exact False.elim p2
        | skip
      rename_i md yl
      dsimp only at p2
      by_cases hno : yl.all noO = true
      case neg => rw [if_neg hno] at p2; exact False.elim p2
      rw [if_pos hno] at p2
      generalize hv : PV.lst md yl = v at *
      cases he2 : (esc v (fv a) e)[i]? with
      | none => rw [he2] at p2; exact False.elim p2
      | some ox =>
        cases ox with
        | none => rw [he2] at p2; exact False.elim p2
        | some x1 =>
          rw [he2] at p2
          dsimp only at p2
          cases hm : modP (extF (brws yl)) z x1 with
          | none => rw [hm] at p2; exact False.elim p2
          | some y =>
            rw [hm] at p2
            obtain ⟨c, xs, ys, us, A2, w2, ec, rs, sub, nd, cC, kp, hf, fin⟩ := a2.mod he2 h0 hm
            obtain ⟨x2, q1, rv1⟩ := sv1.rv i x he
            rw [h0] at q1
            cases q1
            obtain ⟨b', _, w3, w4⟩ := okP_wlk hok rv1
            rw [w] at w3
            cases w3
            have := w4 H2 (sv_same (G' := G2) sv1 af.pr)
            rw [w2] at this
            cases this
            unfold extF at hf
            split at hf
            case isFalse => cases hf
            case isTrue hz =>
              cases hf
              have hlen := rs.length
              have ndA := List.nodup_cons.mp nd
              subst hv
              obtain ⟨b0, zs, rfl, hb, rz⟩ := rv.lst_no hno
              refine ⟨bb, b0, us, zs, rfl, rfl, ec, hb, by rw [brws_length] at hz; rw [← rz.length, brws_length]; omega, ?_⟩
              obtain ⟨B', at3, _⟩ := fin (us ++ zs) A2 ndA.2 (fun d hd => .inl hd) ((a2.sv.fr i).sub (fun d hd => sub d hd) ndA.2) (fun d hd => rs.lists d hd)
                (by have := (rs.keep (kp A2 ndA.1 (us ++ zs))).append (rz.keep (kp [] (by simp) (us ++ zs))); rw [List.append_nil] at this; exact this)
              exact at3.nx p2
end
end Py
end

section
/-! PyY: x[i] = v. -/
namespace Py
open PySem L2 PyProof.Rows

section
variable {K : W.Frag} {H0 H H1 Hl : Hp} {G0 G G1 Gl : Gh} {e : Py.Env} {σ : L2.St} {B : Nat → List Addr} {s : Py.St} {C : List Addr} {j : Nat}
/-- a value held beside the slots -/
theorem SV.hold (hj : e.length ≤ j) (sv : SV K H0 G H e σ B) (f : Fr H0 G C) (l : ∀ c ∈ C, ∃ xs, H c = some (.lst xs)) (off : ∀ i, ∀ a ∈ B i, a ∉ C) : SV K H0 G H e σ (updB B j C) := by
  refine ⟨fun i v h => ?_, sv.len, fun i => ?_, fun i q hiq a ha => ?_, fun i a ha => ?_⟩
  · obtain ⟨x, e1, r⟩ := sv.rv i v h
    have hi : i < e.length := (List.getElem?_eq_some_iff.mp h).1
    exact ⟨x, e1, by unfold updB; rw [if_neg (by omega)]; exact r⟩
  · unfold updB
    split
    · exact f
    · exact sv.fr i
  · unfold updB at ha ⊢
    by_cases h1 : i = j
    · rw [if_pos h1] at ha
      rw [if_neg (fun z => hiq (h1.trans z.symm))]
      exact fun z => off q a z ha
    · rw [if_neg h1] at ha
      by_cases h2 : q = j
      · rw [if_pos h2]; exact off i a ha
      · rw [if_neg h2]; exact sv.dj i q hiq a ha
  · unfold updB at ha
    split at ha
    · exact l a ha
    · exact sv.ls i a ha
/-- .. and let go -/
theorem SV.free (hj : e.length ≤ j) (sv : SV K H0 G H e σ B) : SV K H0 G H e σ (updB B j []) ∧ ∀ i, ∀ a ∈ updB B j [] i, a ∉ B j := by
  refine ⟨⟨fun i v h => ?_, sv.len, fun i => ?_, fun i q hiq a ha => ?_, fun i a ha => ?_⟩, fun i a ha => ?_⟩
  · obtain ⟨x, e1, r⟩ := sv.rv i v h
    have hi : i < e.length := (List.getElem?_eq_some_iff.mp h).1
    exact ⟨x, e1, by unfold updB; rw [if_neg (by omega)]; exact r⟩
  · unfold updB
    split
    · exact Fr.nil
    · exact sv.fr i
  · unfold updB at ha ⊢
    by_cases h1 : i = j
    · rw [if_pos h1] at ha; cases ha
    · rw [if_neg h1] at ha
      by_cases h2 : q = j
      · rw [if_pos h2]; simp
      · rw [if_neg h2]; exact sv.dj i q hiq a ha
  · unfold updB at ha
    split at ha
    · cases ha
    · exact sv.ls i a ha
  · unfold updB at ha
    by_cases h1 : i = j
    · rw [if_pos h1] at ha; cases ha
    · rw [if_neg h1] at ha
      exact sv.dj i j h1 a ha
theorem keepC (kp : Keep K G G1 H H1 []) (hs : ∀ a ∈ C, H1 a = H a) : Keep K G G1 H H1 C := ⟨kp.tup, kp.fz, kp.tz, fun a xs w q => by
  rcases q with q | q | q
  · exact kp.lst a xs w (.inl q)
  · exact kp.lst a xs w (.inr (.inl q))
  · rw [hs a q]; exact w, kp.ds, kp.sr, kp.sc, kp.frz⟩
theorem noO_own {v : PV} {y : L2.V} {A : List Addr} (r : RV K G H v y A) (h : noO v = true) : A = [] := by
  cases r <;> first
    | rfl
    | (simp only [noO, Bool.false_eq_true] at h)
theorem kds_nob : ∀ {xs : List PV}, xs.all kd1 = true → nobs xs = true
  | [], _ => by simp only [nobs]
  | x :: xs, h => by
    simp only [List.all_cons, Bool.and_eq_true] at h
    simp only [nobs, kd1_nob h.1, kds_nob h.2, Bool.and_self]
theorem kd_nob {k : PV} (h : kd k ≠ 0) : nob k = true := by
  cases k with
  | int i => rfl
  | str x => rfl
  | tup xs =>
    rw [show kd (.tup xs) = if xs.all kd1 then 2 else 0 from rfl] at h
    split at h
    · rename_i hall
      have := kds_nob hall
      simpa only [nob] using this
    · exact absurd rfl h
  | _ => exact absurd rfl h
theorem kdOk_kd {k : PV} {d : List (PV × PV)} (h : kdOk k d = true) : kd k ≠ 0 := by
  cases d with
  | nil => simpa [kdOk] using h
  | cons p r =>
    obtain ⟨p1, p2⟩ := p
    simp [kdOk] at h
    exact h.1
theorem dput_nob {k v : PV} (hv : nob v = true) {d : List (PV × PV)} (h : ∀ p ∈ d, nob p.2 = true) : ∀ p ∈ dput k v d, nob p.2 = true := fun p hp => by
  unfold dput at hp
  split at hp
  · obtain ⟨q, hq, rfl⟩ := List.mem_map.mp hp
    split
    · exact hv
    · exact h q hq
  · rcases List.mem_append.mp hp with q | q
    · exact h p q
    · rw [List.mem_singleton.mp q]; exact hv
end

/-- a store into a dict that PyA knows -/
def rSetK (K : W.Frag) : TSet := fun o i v H Q => ∃ (H0 : Hp) (G0 G : Gh) (t : Py.St) (n : Nat) (a : Addr) (d : List (PV × PV)) (kp vp : PV) (B : List Addr), Nw K H0 G0 H G t ∧ G.ds[n]? = some a ∧ o = .ref a ∧ t.ds[n]? = some d ∧ kdOk kp d = true ∧ RV K G H kp i B ∧ RV K G H vp v [] ∧ nob vp = true ∧ d.length < sizeLine ∧
  ∀ H', Nw K H0 G0 H' G (t.dset n (dput kp vp d)) → (∀ A, Keep K G G H H' A) → Q H'
def rSetR (K : W.Frag) : TSet := fun o i v H Q => rSetL o i v H Q ∨ rSetK K o i v H Q
theorem set_any {X : Cx} (cx : Cxt X) : PSet X (rSetR X.K) := by
  intro pins s σ H o i v ov iv u Q I ro ri rv h
  rcases h with h | ⟨H0, G0, G, t, n, a, d, kpv, vp, B, nw, ea, rfl, ed, hk, rk, rvp, hnb, hz, q⟩
  · exact set_list pins s σ H o i v ov iv u Q I ro ri rv h
  · obtain ⟨a', H1, ea', I1, n1, kp, _, put⟩ := dask I nw ed hk rk
    rw [ea] at ea'
    cases ea'
    obtain ⟨ob, dp, di⟩ := put vp v (rvp.keep (kp [])) hz
    have hu := (n1.sr.dat n d a ed ea).isDcU (no_mk hk)
    have hd := (n1.sr.dat n d a ed ea).isDc
    refine set_dict (by have := cx.hu; omega) pins s σ H1 (.ref a) i v ov iv u Q I1 ro ri rv ⟨a, _, rfl, dp, q _ (Nw.dict hu n1 ed ea di (dput_nob hnb (n1.sr.nb d (List.mem_of_getElem? ed)))) fun A => (kp A).trans (Keep.dict hu)⟩
end Py
end

section
/-! PyY2: x[..][i] = v as a statement. -/
namespace Py
open PySem L2 PyProof.Rows

section
variable {X : Cx} {T : Tb} {k : Nat} {W : XW} {M : Nm} {ex o f : Expr} {a ix : ME} {path : List ME} {i : Nat} {pos tpos : Pos}
/-- a path's end, or a name alone -/
def rdP2 (K : PySem.W.Frag) (F : Nat → List PV → Py.St → R PV) (W : XW) (i : Nat) (path : List ME) : TE := fun σ H Q => rdP K F W i path σ H Q ∨ (path = [] ∧ ∃ x0, σ[i]? = some (some x0) ∧ Q x0 H)
theorem k_path2 (lk : Lk M T) (px : PX T k X (VW W)) (hN : X.N = M.N) (h : chkP M X.env.scope i path o = true) : PE X o (rdP2 X.K T.F W i path) := by
  have hp := k_path lk px hN i path o h
  cases path with
  | cons a r => exact PE.imp hp fun σ H Q q => q.elim id fun z => nomatch z.1
  | nil =>
    cases o <;> simp only [chkP, Bool.false_eq_true] at h
    simp only [Bool.and_eq_true, atB, decide_eq_true_eq, Bool.not_eq_true'] at h
    refine PE.imp (pe_var (by rw [hN]; exact h.1.1.1) (visB_ok h.1.1.2) h.1.2 h.2) fun σ H Q q => ?_
    rcases q with ⟨H0, G0, G, e, s, B, x, n, sv, he, p⟩ | ⟨_, x0, h0, q⟩
    · obtain ⟨x0, h0, rv⟩ := sv.rv i x he
      have p : Post X.K H0 G0 (rPa X.K H0 G H e σ B (fvs []) i x) W Q (if okP [] x then .ok [] s else .bad) := p
      by_cases ho : okP [] x = true
      · rw [if_pos ho] at p
        obtain ⟨b, _, w, _⟩ := okP_wlk ho rv
        have hx : x0 = .ref b := by
          cases x0 <;> simp only [wlk, reduceCtorEq] at w
          split at w
          · cases w; rfl
          · cases w
        exact ⟨x0, h0, p.at (A := []) n ⟨rfl, ⟨⟨B, sv, fun _ _ => rfl⟩, Keep.refl, fun _ _ _ _ => rfl, x0, b, h0, hx, w⟩, ho⟩ Fr.nil⟩
      · rw [if_neg ho] at p
        exact False.elim p
    · exact ⟨x0, h0, q⟩
theorem RVs.setAt {K : PySem.W.Frag} {G : Gh} {H : Hp} {xs : List PV} {vs : List L2.V} {A C : List Addr} {j : Nat} {v : PV} {y : L2.V} (r : RVs K G H xs vs A) (hj : j < xs.length) (rv : RV K G H v y C) : ∃ A1 A2 A3, A = A1 ++ (A2 ++ A3) ∧ RVs K G H (xs.set j v) (vs.set j y) (A1 ++ (C ++ A3)) := by
  obtain ⟨v', A1, A2, A3, h1, h2, h3, h4, h5⟩ := r.split (List.getElem?_eq_getElem hj)
  have hl := r.length
  refine ⟨A1, A2, A3, h3, ?_⟩
  rw [List.set_eq_take_append_cons_drop, if_pos hj, List.set_eq_take_append_cons_drop, if_pos (by omega)]
  exact h4.append (.cons rv h5)

theorem dct_of {K : PySem.W.Frag} {G : Gh} {H : Hp} {n : Nat} {x : L2.V} {A : List Addr} (r : RV K G H (.dct n) x A) : ∃ a, x = .ref a ∧ G.ds[n]? = some a := by
  cases r with | dct e => exact ⟨_, rfl, e⟩
/-- a store, the value held at the slot j that none names -/
theorem stor_rd (lk : Lk M T) (px : PX T k X (VW W)) {D : Ends} {σ : L2.St} {H H0 Hl : Hp} {G0 G Gl : Gh} {e : Py.Env} {s : Py.St} {B : Nat → List Addr} {C : List Addr} {v : PV} {y : L2.V} {r : Py.Env → Py.St → R Fl} (at' : At X.K H0 G0 Gl Hl H G e σ B s) (rv : RV X.K G H v y C) (frC : Fr H0 G C) (off : ∀ i, ∀ c ∈ B i, c ∉ C) {Q : L2.St → Hp → Prop}
    (p : Post X.K H0 G0 (FR X.K H0 Gl Hl) W (QD D) ((stor T.F i path ix v e s).bind r))
    {mm : Nat} (hmm : e.length ≤ mm) (hq : ∀ H' G' e' s' B', At X.K H0 G0 Gl Hl H' G' e' σ B' s' → e'.length = e.length → (∀ q, e.length ≤ q → q < mm → q ∉ fvs path ++ fv ix → B' q = B q ∧ ∀ c ∈ B q, H' c = H c) → Keep X.K G G' H H' [] → Post X.K H0 G0 (FR X.K H0 Gl Hl) W (QD D) (r e' s') → Q σ H') :
    gSub (rdP2 X.K T.F W i path) (RE X T (VW W) ix) (rSetR X.K) y σ H Q := by
  unfold stor at p
  cases he : e[i]? with
  | none => rw [he] at p; exact False.elim p
  | some ox =>
    cases ox with
    | none => rw [he] at p; exact False.elim p
    | some x =>
      rw [he] at p
      by_cases hd : ∃ n, x = .dct n
      · obtain ⟨n, rfl⟩ := hd
        cases path with
        | cons _ _ => exact False.elim p
        | nil =>
          have p : Post X.K H0 G0 (FR X.K H0 Gl Hl) W (QD D) (((ev T.F ix e s).bind fun kk s1 => match s1.dat n with
            | some d => if kdOk kk d && nob v && noO v && decide (d.length < sizeLine) then .ok e (s1.dset n (dput kk v d)) else .bad
            | none => .bad).bind r) := p
          rw [bind_assoc] at p
          obtain ⟨x0, h0, r0⟩ := at'.sv.rv i _ he
          refine .inr ⟨rfl, x0, h0, ?_⟩
          obtain ⟨G', e', s', b1, b2, b3⟩ := runX' at'.nw at'.sv p
          refine ⟨G', e', s', b1, b2, Post.mono (fun z H2 ⟨w, s2, G2, B2, C2, af, ot, rw', p2⟩ => ?_) b3⟩
          cases hs : s2.dat n with
          | none => rw [hs] at p2; exact False.elim p2
          | some d =>
            rw [hs] at p2
            dsimp only at p2
            split at p2
            case isFalse => exact False.elim p2
            case isTrue hc =>
              simp only [Bool.and_eq_true, decide_eq_true_eq] at hc
              obtain ⟨⟨⟨c1, c2⟩, c3⟩, c4⟩ := hc
              have a4 := at'.af af
              have ee : esc w (fv ix) e = e := by unfold esc; rw [if_pos (kd_nob (kdOk_kd c1))]
              rw [ee] at a4
              obtain rfl := noO_own rv c3
              obtain ⟨x1, h1, r1⟩ := a4.sv.rv i _ he
              rw [h0] at h1
              cases h1
              obtain ⟨ad, rfl, ea⟩ := dct_of r1
              · refine .inr ⟨H0, G0, G2, s2, n, ad, d, w, v, C2, a4.nw, ea, rfl, hs, c1, rw', rv.keep af.kp, c2, c4, fun H' n' kp => ?_⟩
                exact hq H' G2 e _ B2 ⟨n', ⟨fun q u hu => let ⟨x1, h1, r1⟩ := a4.sv.rv q u hu; ⟨x1, h1, r1.keep (kp _)⟩, a4.sv.len, a4.sv.fr, a4.sv.dj, fun q c hc => by
                  obtain ⟨xs, w⟩ := a4.sv.ls q c hc
                  exact ⟨xs, (kp (B2 q)).lst c xs w (.inr (.inr hc))⟩⟩, a4.kp.trans (kp [])⟩ rfl (fun q h1 _ h3 => by
                  have h4 := ot q fun z => h3 (List.mem_append_right _ z)
                  refine ⟨h4, fun c hc => ?_⟩
                  have h5 := sv_same (G' := G2) (i := q) at'.sv af.pr c hc
                  obtain ⟨xs, w⟩ := at'.sv.ls q c hc
                  rw [(kp (B2 q)).lst c xs (by rw [h5]; exact w) (.inr (.inr (by rw [h4]; exact hc))), w]) (af.kp.trans (kp [])) p2
      · have p : Post X.K H0 G0 (FR X.K H0 Gl Hl) W (QD D) (((evp T.F x path e s).bind fun p s1 => (ev T.F ix e s1).bind fun kk s2 => (intP kk s2).bind fun j s3 => match modP (setF j v) p x with
            | some y => .ok (e.set i (some y)) s3
            | none => .bad).bind r) := by
          cases x <;> first
            | exact absurd ⟨_, rfl⟩ hd
            | exact p
        rw [bind_assoc] at p
        obtain ⟨j, hjm, hjn⟩ := find_out mm (fvs path ++ fv ix)
        have hj : e.length ≤ j := Nat.le_trans hmm hjm
        have svh := at'.sv.hold hj frC rv.lists off
        refine .inl ⟨H0, G0, G, e, s, updB B j C, x, at'.nw, svh, he, Post.mono (fun ov H1 ⟨z, s1, G1, A, n1, ⟨hA, pa, hok⟩, _, p1⟩ => ?_) (Post.bind (rel := rPa X.K H0 G H e σ (updB B j C) (fvs path) i x) Le.refl Pr.refl p)⟩
        obtain ⟨B1, sv1, ot1⟩ := pa.sv
        obtain ⟨x0, bb, h0, rfl, w⟩ := pa.at'
        have hjp : j ∉ fvs path := fun q => hjn (List.mem_append_left _ q)
        have hjx : j ∉ fv ix := fun q => hjn (List.mem_append_right _ q)
        have hB : updB B j C j = C := by unfold updB; rw [if_pos rfl]
        have e1 : B1 j = C := (ot1 j hjp).trans hB
        have same1 : ∀ c ∈ C, H1 c = H c := fun c hc => pa.same j hjp c (by rw [hB]; exact hc)
        have rv1 := rv.keep (keepC pa.kp same1)
        rw [bind_assoc] at p1
        obtain ⟨G', e', s', b1, b2, b3⟩ := runX' n1 sv1 p1
        refine ⟨G', e', s', b1, b2, Post.mono (fun kv H2 ⟨kw, s2, G2, B2, C2, af, ot2, rk, p2⟩ => ?_) b3⟩
        cases kw <;> first
          | exact False.elim p2
          | skip
        rename_i ki
        obtain rfl := rk.int_of
        have sv2 : SV X.K H0 G2 H2 e σ B2 := af.sv
        have e2 : B2 j = C := (ot2 j hjx).trans e1
        have rv2 := rv1.keep (keepC af.kp fun c hc => sv_same (G' := G2) (i := j) sv1 af.pr c (by rw [e1]; exact hc))
        have p2 : Post X.K H0 G0 (FR X.K H0 Gl Hl) W (QD D) ((match modP (setF ki v) z x with | some y => (R.ok (e.set i (some y)) s2 : R Py.Env) | none => .bad).bind r) := p2
        cases hm : modP (setF ki v) z x with
        | none => rw [hm] at p2; exact False.elim p2
        | some yy =>
          rw [hm] at p2
          obtain ⟨sv3, off3⟩ := sv2.free hj
          have a3 : At X.K H0 G0 Gl Hl H2 G2 e σ (updB B2 j []) s2 := ⟨af.nw, sv3, (at'.kp.trans pa.kp).trans af.kp⟩
          have frC2 : Fr H0 G2 C := by have := sv2.fr j; rw [e2] at this; exact this
          have off3' : ∀ i, ∀ c ∈ updB B2 j [] i, c ∉ C := fun i c hc => by rw [← e2]; exact off3 i c hc
          obtain ⟨c, xs, ys, us, A2, w2, ec, rs, sub, nd, cC, kp, hf, fin⟩ := a3.mod he h0 hm
          obtain ⟨x2, q1, r1⟩ := sv1.rv i x he
          rw [h0] at q1
          cases q1
          obtain ⟨b', _, w3, w4⟩ := okP_wlk hok r1
          rw [w] at w3
          cases w3
          have := w4 H2 (sv_same (G' := G2) sv1 af.pr)
          rw [w2] at this
          cases this
          unfold setF at hf
          cases hx : ixOf xs.length ki with
          | none => rw [hx] at hf; cases hf
          | some jj =>
            rw [hx] at hf
            cases hf
            have hlen := rs.length
            have hjj : jj < xs.length := by
              unfold ixOf at hx
              split at hx
              · split at hx
                · cases hx; omega
                · cases hx
              · split at hx
                · cases hx; omega
                · cases hx
            have ndA := List.nodup_cons.mp nd
            have hcC : bb ∉ C := cC C fun q d hd => off3' q d hd
            obtain ⟨A1, A3, A4, hA2, rset⟩ := (rs.keep (kp A2 ndA.1 (us.set jj y))).setAt hjj (rv2.keep (kp C hcC (us.set jj y)))
            subst hA2
            refine .inl ⟨bb, us, ki, jj, rfl, rfl, ec, by rw [← ixOf_eq, ← hlen]; exact hx, ?_⟩
            have n1 := List.nodup_append.mp ndA.2
            have n2 := List.nodup_append.mp n1.2.1
            have m1 : ∀ d ∈ A1, d ∈ A1 ++ (A3 ++ A4) := fun d hd => List.mem_append_left _ hd
            have m4 : ∀ d ∈ A4, d ∈ A1 ++ (A3 ++ A4) := fun d hd => List.mem_append_right _ (List.mem_append_right _ hd)
            have oC : ∀ d ∈ A1 ++ (A3 ++ A4), d ∉ C := fun d hd => off3' i d (sub d hd)
            have nd' : (A1 ++ (C ++ A4)).Nodup := List.nodup_append.mpr ⟨n1.1, List.nodup_append.mpr ⟨frC2.nd, n2.2.1, fun d hd d' hd' q => by subst q; exact oC d (m4 d hd') hd⟩, fun d hd d' hd' q => by
              subst q
              rcases List.mem_append.mp hd' with q | q
              · exact oC d (m1 d hd) q
              · exact n1.2.2 d hd d (List.mem_append_right _ q) rfl⟩
            have inn : ∀ d ∈ A1 ++ (C ++ A4), d ∈ A1 ++ (A3 ++ A4) ∨ d ∈ C := fun d hd => by
              rcases List.mem_append.mp hd with q | q
              · exact .inl (m1 d q)
              · rcases List.mem_append.mp q with q | q
                · exact .inr q
                · exact .inl (m4 d q)
            have fi := a3.sv.fr i
            obtain ⟨B', a5, _, eqB, aB⟩ := fin (us.set jj y) (A1 ++ (C ++ A4)) nd' (fun d hd => (inn d hd).imp id fun q u z => off3' u d z q)
              ⟨nd', fun d hd => (inn d hd).elim (fun q => fi.new d (sub d q)) (frC2.new d), fun d hd => (inn d hd).elim (fun q => fi.nf d (sub d q)) (frC2.nf d), fun d hd => (inn d hd).elim (fun q => fi.nt d (sub d q)) (frC2.nt d), fun d hd => (inn d hd).elim (fun q => fi.nc d (sub d q)) (frC2.nc d)⟩
              (fun d hd => (inn d hd).elim (rs.lists d) (rv2.lists d)) rset
            refine hq _ G2 _ s2 B' a5 (List.length_set ..) (fun q h1 h2 h3 => ?_) ((pa.kp.trans af.kp).trans (kp [] (by simp) _)) p2
            have hqj : q ≠ j := by omega
            have hqi : q ≠ i := fun z => by
              have := (List.getElem?_eq_some_iff.mp he).1
              omega
            have n1' : q ∉ fvs path := fun z => h3 (List.mem_append_left _ z)
            have n2' : q ∉ fv ix := fun z => h3 (List.mem_append_right _ z)
            have hBq : updB B j C q = B q := by unfold updB; rw [if_neg hqj]
            have hB2 : updB B2 j [] q = B2 q := by unfold updB; rw [if_neg hqj]
            have u1 := (ot1 q n1').trans hBq
            have u2 := (ot2 q n2').trans u1
            refine ⟨(eqB q hqi).trans (hB2.trans u2), fun c hc => ?_⟩
            have cne : c ≠ bb := fun z => by
              subst z
              exact a3.sv.dj i q (Ne.symm hqi) c aB (by rw [hB2, u2]; exact hc)
            rw [upd_ne cne, sv_same (G' := G2) (i := q) sv1 af.pr c (by rw [u1]; exact hc)]
            exact pa.same q n1' c (by rw [hBq]; exact hc)

/-- x[..][i] = v -/
theorem s_set (lk : Lk M T) (px : PX T k X (VW W)) (hN : X.N = M.N) (hp : chkP M X.env.scope i path o = true) (hi : chk M X.env.scope ix f = true) (ha : chk M X.env.scope a ex = true) :
    PS X (.Assign [.Subscript o f tpos] ex pos) (RS X T W (.set i path ix a)) := by
  have h1 := (cE lk a X (VW W) ex px hN ha).pe
  have h2 := k_path2 lk px hN hp
  have h3 := (cE lk ix X (VW W) f px hN hi).pe
  refine PS.imp (ps_asg h1 (pg_sub h2 h3 (set_any px.cx) (fun v => by have ns := noSlice_chk hi; cases f <;> first | rfl | exact absurd rfl (ns _ _ _ _))) (by cases ex <;> rfl) (by cases ex <;> rfl)) fun D σ H ⟨H0, G0, Gl, Hl, G, e, s, B, at', p⟩ => ?_
  have p : Post X.K H0 G0 (FR X.K H0 Gl Hl) W (QD D) ((ev T.F a e s).bind fun v s1 => (stor T.F i path ix v (esc v (fv a) e) s1).bind fun e1 s2 => .ok (.nx e1) s2) := p
  obtain ⟨G', e', s', a1, a2, a3⟩ := runX at'.nw at'.sv p
  refine ⟨G', e', s', a1, a2, Post.mono (fun y H1 ⟨v, s1, G1, B1, C, af, rv, p⟩ => ?_) a3⟩
  exact stor_rd lk px (at'.af af) rv af.fr af.off p (Nat.le_refl _) fun H' G' e' s' B' a5 _ _ _ q => a5.nx q
end
end Py
end

section
/-! PyY3: several names at once. -/
namespace Py
open PySem L2 PyProof.Rows

section
variable {X : Cx} {T : Tb} {k : Nat} {W : XW} {M : Nm} {a b c : Expr} {x y z : Str} {px py pz pt pt2 pos : Pos} {kt k2 : Nat} {es : List ME} {i j l : Nat}
def starB : Expr → Bool
  | .Starred _ _ => true
  | _ => false
theorem star_none : ∀ {es : List Expr}, (∀ e ∈ es, noStar e) → (es.any fun | .Starred .. => true | _ => false) = false
  | [], _ => rfl
  | e :: es, h => by
    have h1 := h e List.mem_cons_self
    rw [List.any_cons, star_none fun q hq => h q (List.mem_cons_of_mem _ hq), Bool.or_false]
    cases e <;> first | rfl | exact absurd rfl (h1 _ _)
theorem swap2 (hb : X.env.blockKind = .function) (hx : X.env.kindOf x = some .local) (hy : X.env.kindOf y = some .local) (hl : py.line = px.line) (hxy : x ≠ y) (hs : ∀ e ∈ [a, b], noStar e) (hf : [a, b].all (foldedForSure 8) = false) (hc : [a, b].all (constantsAlone 8) = false) :
    swappedStores [.Tuple [.Name x px, .Name y py] kt pt] (.Tuple [a, b] k2 pt2) X.env = pure (some [x, y]) := by
  unfold swappedStores
  simp only [hb]
  refine (if_neg (by simp)).trans ?_
  refine (if_neg (fun h => Bool.false_ne_true ((star_none hs).symm.trans h))).trans ?_
  have hyx : (y == x) = false := beq_eq_false_iff_ne.mpr (Ne.symm hxy)
  have hfm : List.filterMap (fun e => match e with | Expr.Name id pos => if (X.env.kindOf id == some NameKind.local && pos.line == px.line) = true then some id else none | _ => none) [Expr.Name x px, Expr.Name y py] = [x, y] := by simp [hx, hy, hl]
  simp [hx, hy, hl, hf, hc, Expr.pos, List.eraseDups_cons, hyx, List.filter]
theorem swapC2 (hf : [a, b].all (foldedForSure 8) = true) (hs : ∀ e ∈ [a, b], noStar e) : swappedStores [.Tuple [.Name x px, .Name y py] kt pt] (.Tuple [a, b] k2 pt2) X.env = pure none := by
  unfold swappedStores
  simp only []
  split
  · rfl
  · refine (if_neg (fun h => Bool.false_ne_true ((star_none hs).symm.trans h))).trans ?_
    split
    · rfl
    · first
        | rfl
        | exact if_pos hf
end

section
variable {X : Cx} {a b : Expr} {x y : Str} {px py pt pt2 : Pos} {kt k2 : Nat}
/-- a name that is a cell: by a tuple -/
theorem swapN2 (h : ¬ (X.env.kindOf x = some .local) ∨ ¬ (X.env.kindOf y = some .local)) (hs : ∀ e ∈ [a, b], noStar e) : swappedStores [.Tuple [.Name x px, .Name y py] kt pt] (.Tuple [a, b] k2 pt2) X.env = pure none := by
  unfold swappedStores
  simp only []
  split
  · rfl
  · refine (if_neg (fun h => Bool.false_ne_true ((star_none hs).symm.trans h))).trans ?_
    refine if_pos ?_
    rcases h with h | h
    · by_cases hy : X.env.kindOf y = some .local <;> simp [h, hy, List.filterMap_cons] <;> (try split) <;> simp
    · by_cases hx : X.env.kindOf x = some .local <;> simp [h, hx, List.filterMap_cons] <;> (try split) <;> simp
end
/-! ### the statement's readings -/
section
variable {X : Cx} {T : Tb} {k : Nat} {W : XW} {M : Nm} {es : List ME} {i j l : Nat} {st : Stmt}
theorem At.set {K : PySem.W.Frag} {H0 H Hl : Hp} {G0 G Gl : Gh} {e : Py.Env} {σ : L2.St} {B : Nat → List Addr} {s : Py.St} {C : List Addr} {v : PV} {y : L2.V} (a : At K H0 G0 Gl Hl H G e σ B s) (r : RV K G H v y C) (f : Fr H0 G C) (off : ∀ j, j ≠ i → ∀ c ∈ B j, c ∉ C) : At K H0 G0 Gl Hl H G (e.set i (some v)) (σ.set i (some y)) (updB B i C) s := ⟨a.nw, a.sv.set r f off, a.kp⟩
theorem off_upd {B : Nat → List Addr} {i : Nat} {C D : List Addr} (h : ∀ j, ∀ c ∈ B j, c ∉ D) (hd : ∀ c ∈ C, c ∉ D) : ∀ j, ∀ c ∈ updB B i C j, c ∉ D := fun j c hc => by
  unfold updB at hc
  split at hc
  · exact hd c hc
  · exact h j c hc
/-- two names, one after another -/
theorem names2 {D : Ends} {σ : L2.St} {H1 H0 Hl : Hp} {G0 G1 Gl : Gh} {e0 : Py.Env} {s1 : Py.St} {B1 : Nat → List Addr} {C : List Addr} {vs : List PV} {ys : List L2.V} (a4 : At X.K H0 G0 Gl Hl H1 G1 e0 σ B1 s1) (rvs : RVs X.K G1 H1 vs ys C) (frC : Fr H0 G1 C) (off : ∀ q, ∀ c ∈ B1 q, c ∉ C)
    (p : Post X.K H0 G0 (FR X.K H0 Gl Hl) W (QD D) ((plcs T.F [.v i, .v j] vs e0 s1).bind fun e1 s2 => .ok (.nx e1) s2)) : ∃ v w, ys = [v, w] ∧ D.nx ((σ.set i (some v)).set j (some w)) H1 := by
  rcases vs with _ | ⟨v, _ | ⟨w, _ | ⟨u, vs⟩⟩⟩
  · exact False.elim p
  · exfalso
    simp only [plcs, plc] at p
    by_cases hi : i < e0.length
    · rw [if_pos hi] at p; exact p
    · rw [if_neg hi] at p; exact p
  · obtain ⟨y, z, C1, C2, rfl, rfl, r1, r2⟩ := rvs.two
    refine ⟨y, z, rfl, ?_⟩
    simp only [plcs, plc] at p
    by_cases hi : i < e0.length
    · rw [if_pos hi] at p
      have p : Post X.K H0 G0 (FR X.K H0 Gl Hl) W (QD D) (((if j < (e0.set i (some v)).length then (R.ok ((e0.set i (some v)).set j (some w)) s1 : R Py.Env) else .bad).bind fun e1 s2 => .ok e1 s2).bind fun e1 s2 => .ok (.nx e1) s2) := p
      by_cases hj : j < (e0.set i (some v)).length
      · rw [if_pos hj] at p
        have nd := List.nodup_append.mp frC.nd
        have o1 : ∀ q, ∀ c ∈ B1 q, c ∉ C1 := fun q c hc z => off q c hc (List.mem_append_left _ z)
        have o2 : ∀ q, ∀ c ∈ B1 q, c ∉ C2 := fun q c hc z => off q c hc (List.mem_append_right _ z)
        have a5 := a4.set (i := i) r1 frC.left fun q _ c hc => o1 q c hc
        have a6 := a5.set (i := j) r2 frC.right fun q _ c hc => off_upd o2 (fun c hc z => nd.2.2 c hc c z rfl) q c hc
        exact a6.nx p
      · rw [if_neg hj] at p; exact False.elim p
    · rw [if_neg hi] at p; exact False.elim p
  · exfalso
    simp only [plcs, plc] at p
    by_cases hi : i < e0.length
    · rw [if_pos hi] at p
      have p : Post X.K H0 G0 (FR X.K H0 Gl Hl) W (QD D) (((if j < (e0.set i (some v)).length then (R.ok ((e0.set i (some v)).set j (some w)) s1 : R Py.Env) else .bad).bind fun e1 s2 => (R.bad : R Py.Env)).bind fun e1 s2 => .ok (.nx e1) s2) := p
      by_cases hj : j < (e0.set i (some v)).length
      · rw [if_pos hj] at p; exact p
      · rw [if_neg hj] at p; exact p
    · rw [if_neg hi] at p; exact p
/-- two names, from the right -/
theorem s_par2 (h : PS X st (tPar i j (RA X T (VW W) es))) : PS X st (RS X T W (.par [.v i, .v j] es)) := by
  refine PS.imp h fun D σ H ⟨H0, G0, Gl, Hl, G, e, s, B, at', p⟩ => ?_
  have p : Post X.K H0 G0 (FR X.K H0 Gl Hl) W (QD D) ((evs T.F es e s).bind fun vs s1 => (plcs T.F [.v i, .v j] vs (esc (.tup vs) (fvs es) e) s1).bind fun e1 s2 => .ok (.nx e1) s2) := p
  obtain ⟨G', e', s', a1, a2, a3⟩ := runXs at'.nw at'.sv p
  exact ⟨G', e', s', a1, a2, Post.mono (fun ys H1 ⟨vs, s1, G1, B1, C, af, rvs, p⟩ => names2 (at'.af af) rvs af.fr af.off p) a3⟩
/-- .. by a tuple -/
theorem s_parT (h : PS X st (tAsg (tTup (RA X T (VW W) es)) (gTup X.K 2 (gCons (gName i) (gCons (gName j) gNil))))) : PS X st (RS X T W (.par [.v i, .v j] es)) := by
  refine PS.imp h fun D σ H ⟨H0, G0, Gl, Hl, G, e, s, B, at', p⟩ => ?_
  have p : Post X.K H0 G0 (FR X.K H0 Gl Hl) W (QD D) ((evs T.F es e s).bind fun vs s1 => (plcs T.F [.v i, .v j] vs (esc (.tup vs) (fvs es) e) s1).bind fun e1 s2 => .ok (.nx e1) s2) := p
  obtain ⟨G', e', s', a1, a2, a3⟩ := runXs at'.nw at'.sv p
  refine ⟨G', e', s', a1, a2, Post.mono (fun ys H1 ⟨vs, s1, G1, B1, C, af, rvs, p⟩ => ?_) a3⟩
  obtain ⟨y0, z0, e0, _⟩ := names2 (at'.af af) rvs af.fr af.off p
  refine ⟨by rw [e0]; show 2 ≤ sizeLine; decide, fun q hq => ⟨q, ys, rfl, .inl (.inl upd_same), by rw [e0]; rfl, ?_⟩⟩
  have a4 := at'.af af
  have kl : ∀ {A : List Addr}, Keep X.K G1 G1 H1 (L2.upd H1 q (.tup ys)) A := Keep.lay hq
  have a5 : At X.K H0 G0 Gl Hl (L2.upd H1 q (.tup ys)) G1 _ σ B1 s1 := ⟨a4.nw.lay hq, ⟨fun i v h => let ⟨x, x1, x2⟩ := a4.sv.rv i v h; ⟨x, x1, x2.keep kl⟩, a4.sv.len, a4.sv.fr, a4.sv.dj, fun i c hc => let ⟨xs, w⟩ := a4.sv.ls i c hc; ⟨xs, upd_some hq w⟩⟩, a4.kp.trans kl⟩
  obtain ⟨y, z, e1, q1⟩ := names2 a5 (rvs.keep kl) af.fr af.off p
  exact ⟨y, [z], e1, z, [], rfl, rfl, q1⟩
end

/-! ### any places at once, by a tuple -/
/-- values held beside the slots, one by one -/
def Hd (K : PySem.W.Frag) (G : Gh) (H : Hp) (B : Nat → List Addr) : Nat → List PV → List L2.V → Prop
  | _, [], [] => True
  | j, v :: vs, y :: ys => RV K G H v y (B j) ∧ Hd K G H B (j + 1) vs ys
  | _, _, _ => False
theorem Hd.same {K : PySem.W.Frag} {G G' : Gh} {H H' : Hp} {B B' : Nat → List Addr} : ∀ {vs : List PV} {ys : List L2.V} {j : Nat}, Hd K G H B j vs ys → (∀ q, j ≤ q → q < j + vs.length → B' q = B q ∧ Keep K G G' H H' (B q)) → Hd K G' H' B' j vs ys
  | [], [], _, _, _ => trivial
  | v :: vs, y :: ys, j, h, k => by
    obtain ⟨k1, k2⟩ := k j (Nat.le_refl _) (by simp only [List.length_cons]; omega)
    refine ⟨?_, h.2.same fun q h1 h2 => k q (by omega) (by simp only [List.length_cons]; omega)⟩
    rw [k1]
    exact h.1.keep k2
theorem Hd.len {K : PySem.W.Frag} {G : Gh} {H : Hp} {B : Nat → List Addr} : ∀ {vs : List PV} {ys : List L2.V} {j : Nat}, Hd K G H B j vs ys → ys.length = vs.length
  | [], [], _, _ => rfl
  | v :: vs, y :: ys, j, h => by rw [List.length_cons, List.length_cons, h.2.len]
theorem hold_all {K : PySem.W.Frag} {H0 H : Hp} {G : Gh} {e : Py.Env} {σ : L2.St} : ∀ {vs : List PV} {ys : List L2.V} {C : List Addr} {B : Nat → List Addr} {j : Nat}, RVs K G H vs ys C → e.length ≤ j → SV K H0 G H e σ B → (∀ q, ∀ c ∈ B q, c ∉ C) → Fr H0 G C →
    ∃ B', SV K H0 G H e σ B' ∧ Hd K G H B' j vs ys ∧ ∀ q, q < j → B' q = B q
  | _, _, _, B, j, .nil, _, sv, _, _ => ⟨B, sv, trivial, fun _ _ => rfl⟩
  | _, _, _, B, j, .cons (A := A) (B := D) r rs, hj, sv, off, fr => by
    have nd := List.nodup_append.mp fr.nd
    have sv1 := sv.hold hj fr.left r.lists fun i a ha z => off i a ha (List.mem_append_left _ z)
    obtain ⟨B', sv', hd, eq⟩ := hold_all (j := j + 1) rs (by omega) sv1 (fun q c hc z => by
      unfold updB at hc
      split at hc
      · exact nd.2.2 c hc c z rfl
      · exact off q c hc (List.mem_append_right _ z)) fr.right
    have e1 : B' j = A := by rw [eq j (by omega)]; unfold updB; rw [if_pos rfl]
    refine ⟨B', sv', ⟨by rw [e1]; exact r, hd⟩, fun q hq => ?_⟩
    rw [eq q (by omega)]
    unfold updB
    rw [if_neg (by omega)]
def plF : Pl → List Nat
  | .v _ => []
  | .s _ path ix => fvs path ++ fv ix
section
variable {X : Cx} {T : Tb} {k : Nat} {W : XW} {M : Nm}
def gPl (X : Cx) (T : Tb) (W : XW) : Pl → TG
  | .v i => gName i
  | .s i path ix => gSub (rdP2 X.K T.F W i path) (RE X T (VW W) ix) (rSetR X.K)
def gPls (X : Cx) (T : Tb) (W : XW) : List Pl → TGs
  | [] => gNil
  | p :: r => gCons (gPl X T W p) (gPls X T W r)
theorem plcs_rd (lk : Lk M T) (px : PX T k X (VW W)) {D : Ends} {Hl H0 : Hp} {G0 Gl : Gh} {r : Py.Env → Py.St → R Fl} {Q : L2.St → Hp → Prop}
    (hq : ∀ H' G' e' s' B' σ', At X.K H0 G0 Gl Hl H' G' e' σ' B' s' → Post X.K H0 G0 (FR X.K H0 Gl Hl) W (QD D) (r e' s') → Q σ' H') :
    ∀ (ps : List Pl) (vs : List PV) (ys : List L2.V) (σ : L2.St) (H : Hp) (G : Gh) (e : Py.Env) (s : Py.St) (B : Nat → List Addr) (j : Nat), At X.K H0 G0 Gl Hl H G e σ B s → e.length ≤ j → (∀ p ∈ ps, ∀ q ∈ plF p, q < j) → Hd X.K G H B j vs ys →
      Post X.K H0 G0 (FR X.K H0 Gl Hl) W (QD D) ((plcs T.F ps vs e s).bind r) → gPls X T W ps ys σ H Q
  | [], [], [], σ, H, G, e, s, B, j, at', hj, hp, hd, p => ⟨rfl, hq H G e s B σ at' p⟩
  | [], v :: vs, ys, σ, H, G, e, s, B, j, at', hj, hp, hd, p => False.elim p
  | pl :: ps, [], ys, σ, H, G, e, s, B, j, at', hj, hp, hd, p => by cases pl <;> exact False.elim p
  | [], [], y :: ys, σ, H, G, e, s, B, j, at', hj, hp, hd, p => False.elim hd
  | pl :: ps, v :: vs, [], σ, H, G, e, s, B, j, at', hj, hp, hd, p => False.elim hd
  | .v i :: ps, v :: vs, y :: ys, σ, H, G, e, s, B, j, at', hj, hp, hd, p => by
    have p : Post X.K H0 G0 (FR X.K H0 Gl Hl) W (QD D) (((if i < e.length then (R.ok (e.set i (some v)) s : R Py.Env) else .bad).bind fun e1 s1 => plcs T.F ps vs e1 s1).bind r) := p
    by_cases hi : i < e.length
    · rw [if_pos hi] at p
      obtain ⟨sv1, off⟩ := at'.sv.free hj
      have a1 : At X.K H0 G0 Gl Hl H G e σ (updB B j []) s := ⟨at'.nw, sv1, at'.kp⟩
      have a2 := a1.set (i := i) hd.1 (at'.sv.fr j) fun q _ c hc => off q c hc
      refine ⟨y, ys, rfl, plcs_rd lk px hq ps vs ys _ H G _ s _ (j + 1) a2 (by rw [List.length_set]; omega) (fun p' hp' q hq' => by have := hp p' (List.mem_cons_of_mem _ hp') q hq'; omega) (hd.2.same fun q h1 _ => ⟨?_, Keep.refl⟩) p⟩
      unfold updB
      rw [if_neg (by omega), if_neg (by omega)]
    · rw [if_neg hi] at p; exact False.elim p
  | .s i path ix :: ps, v :: vs, y :: ys, σ, H, G, e, s, B, j, at', hj, hp, hd, p => by
    have p : Post X.K H0 G0 (FR X.K H0 Gl Hl) W (QD D) (((stor T.F i path ix v e s).bind fun e1 s1 => plcs T.F ps vs e1 s1).bind r) := p
    rw [bind_assoc] at p
    obtain ⟨sv1, off⟩ := at'.sv.free hj
    have a1 : At X.K H0 G0 Gl Hl H G e σ (updB B j []) s := ⟨at'.nw, sv1, at'.kp⟩
    refine ⟨y, ys, rfl, (show gSub (rdP2 X.K T.F W i path) (RE X T (VW W) ix) (rSetR X.K) y σ H (fun σ' H' => gPls X T W ps ys σ' H' Q) from stor_rd (Q := fun σ' H' => gPls X T W ps ys σ' H' Q) lk px a1 hd.1 (at'.sv.fr j) off p (mm := j + 1 + vs.length) (by omega) fun H' G' e' s' B' a2 hl same kp p2 => ?_)⟩
    refine plcs_rd lk px hq ps vs ys σ H' G' e' s' B' (j + 1) a2 (by omega) (fun p' hp' q hq' => by have := hp p' (List.mem_cons_of_mem _ hp') q hq'; omega) (hd.2.same fun q h1 h2 => ?_) p2
    obtain ⟨q1, q2⟩ := same q (by omega) (by omega) fun z => by have := hp (.s i path ix) List.mem_cons_self q z; omega
    have q3 : updB B j [] q = B q := by unfold updB; rw [if_neg (by omega)]
    rw [q3] at q1 q2
    exact ⟨q1, keepC kp q2⟩

/-! the number of values -/
def Leaf {α : Type} (P : α → Prop) : R α → Prop
  | .ok a _ => P a
  | .ex _ _ => True
  | .bad => True
  | .ask _ k => ∀ i, Leaf P (k i)
theorem Leaf.bind {α β : Type} {P : β → Prop} {f : α → Py.St → R β} : ∀ {r : R α}, (∀ a s, Leaf P (f a s)) → Leaf P (r.bind f)
  | .ok a s, h => h a s
  | .ex _ _, _ => trivial
  | .bad, _ => trivial
  | .ask _ k, h => fun i => Leaf.bind h
theorem Leaf.then {α β : Type} {P : α → Prop} {P2 : β → Prop} {f : α → Py.St → R β} : ∀ {r : R α}, Leaf P r → (∀ a s, P a → Leaf P2 (f a s)) → Leaf P2 (r.bind f)
  | .ok a s, q, h => h a s q
  | .ex _ _, _, _ => trivial
  | .bad, _, _ => trivial
  | .ask _ k, q, h => fun i => Leaf.then (q i) h
theorem evs_leaf {F : Nat → List PV → Py.St → R PV} : ∀ (es : List ME) (e : Py.Env) (s : Py.St), plainB es = true → Leaf (fun vs => vs.length = es.length) (evs F es e s)
  | [], e, s, _ => rfl
  | a :: r, e, s, h => by
    have q : evs F (a :: r) e s = (ev F a e s).bind fun x s1 => (evs F r e s1).bind fun zs s2 => .ok (x :: zs) s2 := by
      cases a <;> first | rfl | (simp [plainB] at h)
    rw [q]
    refine Leaf.bind fun x s1 => Leaf.then (evs_leaf r e s1 (by cases a <;> first | exact h | (simp [plainB] at h))) fun zs s2 hz => ?_
    show (x :: zs).length = (a :: r).length
    rw [List.length_cons, List.length_cons, hz]
theorem Post.leaf {K : PySem.W.Frag} {H0 : Hp} {G0 : Gh} {P : List PV → Prop} {Q : List L2.V → Hp → Prop} {n : Nat} : ∀ {r : R (List PV)}, Post K H0 G0 (RVs K) W Q r → Leaf (fun vs => vs.length = n) r → Post K H0 G0 (RVs K) W (fun ys H => ys.length = n ∧ Q ys H) r
  | .ok a s, h, l => fun G y H A l1 p r q f => ⟨by rw [← q.length]; exact l, h G y H A l1 p r q f⟩
  | .ex _ _, h, _ => h
  | .bad, h, _ => h
  | .ask _ _, h, l => fun i hi => Post.leaf (P := P) (h i hi) (l i)
/-- places at once, by a tuple -/
theorem s_parG (lk : Lk M T) (px : PX T k X (VW W)) {st : Stmt} {ps : List Pl} {es : List ME} {n : Nat} (hn : es.length = n) (hn2 : n ≤ 100) (hpl : plainB es = true) (h : PS X st (tAsg (tTup (RA X T (VW W) es)) (gTup X.K n (gPls X T W ps)))) : PS X st (RS X T W (.par ps es)) := by
  refine PS.imp h fun D σ H ⟨H0, G0, Gl, Hl, G, e, s, B, at', p⟩ => ?_
  have p : Post X.K H0 G0 (FR X.K H0 Gl Hl) W (QD D) ((evs T.F es e s).bind fun vs s1 => (plcs T.F ps vs (esc (.tup vs) (fvs es) e) s1).bind fun e1 s2 => .ok (.nx e1) s2) := p
  obtain ⟨G', e', s', a1, a2, a3⟩ := runXs at'.nw at'.sv p
  refine ⟨G', e', s', a1, a2, Post.mono (fun ys H1 ⟨hlen, vs, s1, G1, B1, C, af, rvs, p⟩ => ?_) (Post.leaf (P := fun _ => True) a3 (evs_leaf es e' s' hpl))⟩
  refine ⟨by rw [hlen, hn]; exact Nat.le_trans hn2 (by show 100 ≤ 2 ^ 24; decide), fun q hq => ⟨q, ys, rfl, .inl (.inl upd_same), by rw [hlen, hn], ?_⟩⟩
  have a4 := at'.af af
  have kl : ∀ {A : List Addr}, Keep X.K G1 G1 H1 (L2.upd H1 q (.tup ys)) A := Keep.lay hq
  have a5 : At X.K H0 G0 Gl Hl (L2.upd H1 q (.tup ys)) G1 _ σ B1 s1 := ⟨a4.nw.lay hq, ⟨fun i v h => let ⟨x, x1, x2⟩ := a4.sv.rv i v h; ⟨x, x1, x2.keep kl⟩, a4.sv.len, a4.sv.fr, a4.sv.dj, fun i c hc => let ⟨xs, w⟩ := a4.sv.ls i c hc; ⟨xs, upd_some hq w⟩⟩, a4.kp.trans kl⟩
  obtain ⟨m, hm⟩ := top_of (ps.flatMap plF)
  obtain ⟨B', sv', hd, _⟩ := hold_all (j := max (esc (.tup vs) (fvs es) e).length (m + 1)) (rvs.keep kl) (by omega) a5.sv af.off af.fr
  refine plcs_rd lk px (fun H' G' e' s' B' σ' a q => a.nx q) ps vs ys σ _ G1 _ s1 B' _ ⟨a5.nw, sv', a5.kp⟩ (by omega) (fun p' hp' q hq' => ?_) hd p
  have := hm q (List.mem_flatMap.mpr ⟨p', hp', hq'⟩)
  omega
end

section
variable {X : Cx} {T : Tb} {k : Nat} {W : XW} {M : Nm}
/-- three names, from the right -/
theorem s_par3 (lk : Lk M T) (px : PX T k X (VW W)) {st : Stmt} {es : List ME} {i j l : Nat} (h : PS X st (tPar3 i j l (RA X T (VW W) es))) : PS X st (RS X T W (.par [.v i, .v j, .v l] es)) := by
  refine PS.imp h fun D σ H ⟨H0, G0, Gl, Hl, G, e, s, B, at', p⟩ => ?_
  have p : Post X.K H0 G0 (FR X.K H0 Gl Hl) W (QD D) ((evs T.F es e s).bind fun vs s1 => (plcs T.F [.v i, .v j, .v l] vs (esc (.tup vs) (fvs es) e) s1).bind fun e1 s2 => .ok (.nx e1) s2) := p
  obtain ⟨G', e', s', a1, a2, a3⟩ := runXs at'.nw at'.sv p
  refine ⟨G', e', s', a1, a2, Post.mono (fun ys H1 ⟨vs, s1, G1, B1, C, af, rvs, p⟩ => ?_) a3⟩
  have a4 := at'.af af
  obtain ⟨B', sv', hd, _⟩ := hold_all (j := (esc (.tup vs) (fvs es) e).length) rvs (Nat.le_refl _) a4.sv af.off af.fr
  obtain ⟨u, _, rfl, v, _, rfl, w, _, rfl, rfl, q⟩ := plcs_rd (Q := D.nx) lk px (fun H' G' e' s' B' σ' a q => a.nx q) [.v i, .v j, .v l] vs ys σ H1 G1 _ s1 B' _ ⟨a4.nw, sv', a4.kp⟩ (Nat.le_refl _) (fun p' hp' q hq' => by
    simp only [List.mem_cons, List.not_mem_nil, or_false] at hp'
    rcases hp' with rfl | rfl | rfl <;> cases hq') hd p
  exact ⟨u, v, w, rfl, q⟩
end
/-! ### how the stores go -/
def outB (sc : Scope) (ts as : List Expr) : Bool :=
  !(ts.length == 2 || ts.length == 3) || ts.any (fun t => match t with | .Name x _ => !(sc.names.lookup x == some .local) | _ => true) || as.all (foldedForSure 8)
theorem filterMap_lt {α β : Type} {f : α → Option β} : ∀ {l : List α}, (∃ x ∈ l, f x = none) → (l.filterMap f).length < l.length
  | [], h => by obtain ⟨x, hx, _⟩ := h; cases hx
  | y :: r, h => by
    have q := List.length_filterMap_le f r
    rw [List.filterMap_cons]
    cases hy : f y with
    | none => simp only [List.length_cons]; omega
    | some z =>
      have : ∃ x ∈ r, f x = none := by
        obtain ⟨x, hx, e⟩ := h
        rcases List.mem_cons.mp hx with rfl | hx
        · rw [hy] at e; cases e
        · exact ⟨x, hx, e⟩
      have := filterMap_lt this
      simp only [List.length_cons]; omega
section
variable {X : Cx} {ts as : List Expr} {a b c : Expr} {x y z : Str} {px py pz pt pt2 : Pos} {kt k2 : Nat}
theorem swapG (hs : ∀ e ∈ as, noStar e) (h : outB X.env.scope ts as = true) : swappedStores [.Tuple ts kt pt] (.Tuple as k2 pt2) X.env = pure none := by
  unfold swappedStores
  simp only []
  split
  · rfl
  · rename_i h1
    refine (if_neg (fun h => Bool.false_ne_true ((star_none hs).symm.trans h))).trans ?_
    unfold outB at h
    simp only [Bool.or_eq_true] at h
    rcases h with (h | h) | h
    · exfalso
      apply h1
      rw [Bool.or_eq_true, Bool.or_eq_true]
      exact .inl (.inl (by simpa using h))
    · obtain ⟨t, ht, e⟩ := List.any_eq_true.mp h
      refine if_pos ?_
      rw [Bool.or_eq_true]
      refine .inl ?_
      rw [bne_iff_ne]
      refine Nat.ne_of_lt (filterMap_lt ⟨t, ht, ?_⟩)
      cases t <;> first
        | rfl
        | skip
      simp only [Bool.not_eq_true'] at e
      refine if_neg fun w => ?_
      rw [Bool.and_eq_true] at w
      have w1 := w.1
      have e' : (X.env.kindOf _ == some NameKind.local) = false := e
      rw [e'] at w1
      cases w1
    · split
      · rfl
      · first | rfl | exact if_pos h
theorem swap3 (hb : X.env.blockKind = .function) (hx : X.env.kindOf x = some .local) (hy : X.env.kindOf y = some .local) (hz : X.env.kindOf z = some .local) (hl : py.line = px.line) (hl2 : pz.line = px.line) (hxy : x ≠ y) (hxz : x ≠ z) (hyz : y ≠ z) (hs : ∀ e ∈ [a, b, c], noStar e) (hf : [a, b, c].all (foldedForSure 8) = false) (hc : [a, b, c].all (constantsAlone 8) = false) :
    swappedStores [.Tuple [.Name x px, .Name y py, .Name z pz] kt pt] (.Tuple [a, b, c] k2 pt2) X.env = pure (some [x, y, z]) := by
  unfold swappedStores
  simp only [hb]
  refine (if_neg (by simp)).trans ?_
  refine (if_neg (fun h => Bool.false_ne_true ((star_none hs).symm.trans h))).trans ?_
  have h1 : (y == x) = false := beq_eq_false_iff_ne.mpr (Ne.symm hxy)
  have h2 : (z == x) = false := beq_eq_false_iff_ne.mpr (Ne.symm hxz)
  have h3 : (z == y) = false := beq_eq_false_iff_ne.mpr (Ne.symm hyz)
  simp [hx, hy, hz, hl, hl2, hf, hc, Expr.pos, List.eraseDups_cons, h1, h2, h3, List.filter]
end
end Py
end

section
/-! PyY4: a slot's value moved; a slot lent. -/
namespace Py
open PySem L2 PyProof.Rows

theorem SV.drop {K : PySem.W.Frag} {H0 H : Hp} {G : Gh} {e : Py.Env} {σ : L2.St} {B : Nat → List Addr} {j : Nat} (sv : SV K H0 G H e σ B) : SV K H0 G H (e.set j none) σ (updB B j []) ∧ ∀ i, ∀ a ∈ updB B j [] i, a ∉ B j := by
  refine ⟨⟨fun i v h => ?_, by rw [List.length_set]; exact sv.len, fun i => ?_, fun i q hiq a ha => ?_, fun i a ha => ?_⟩, fun i a ha => ?_⟩
  · by_cases hij : j = i
    · subst hij
      by_cases hl : j < e.length
      · rw [List.getElem?_set_self hl] at h; cases h
      · rw [List.getElem?_eq_none (by rw [List.length_set]; omega)] at h; cases h
    · rw [List.getElem?_set_ne hij] at h
      obtain ⟨x, e1, r⟩ := sv.rv i v h
      exact ⟨x, e1, by unfold updB; rw [if_neg (Ne.symm hij)]; exact r⟩
  · unfold updB
    split
    · exact Fr.nil
    · exact sv.fr i
  · unfold updB at ha ⊢
    by_cases h1 : i = j
    · rw [if_pos h1] at ha; cases ha
    · rw [if_neg h1] at ha
      by_cases h2 : q = j
      · rw [if_pos h2]; simp
      · rw [if_neg h2]; exact sv.dj i q hiq a ha
  · unfold updB at ha
    split at ha
    · cases ha
    · exact sv.ls i a ha
  · unfold updB at ha
    by_cases h1 : i = j
    · rw [if_pos h1] at ha; cases ha
    · rw [if_neg h1] at ha
      exact sv.dj i j h1 a ha
section
variable {X : Cx} {T : Tb} {k : Nat} {W : XW} {M : Nm} {i j : Nat} {st : Stmt}
theorem s_mov {tv : TE} (hv : ∀ σ H Q x0, σ[j]? = some (some x0) → Q x0 H → tv σ H Q) (h : PS X st (tAsg tv (gName i))) : PS X st (RS X T W (.mov i j)) := by
  refine PS.imp h fun D σ H ⟨H0, G0, Gl, Hl, G, e, s, B, at', p⟩ => ?_
  have p : Post X.K H0 G0 (FR X.K H0 Gl Hl) W (QD D) (match e[j]? with
    | some (some v) => if i < e.length ∧ i ≠ j then .ok (.nx ((e.set j none).set i (some v))) s else .bad
    | _ => .bad) := p
  cases he : e[j]? with
  | none => rw [he] at p; exact False.elim p
  | some ox =>
    cases ox with
    | none => rw [he] at p; exact False.elim p
    | some v =>
      rw [he] at p
      dsimp only at p
      split at p
      case isFalse => exact False.elim p
      case isTrue hc =>
        obtain ⟨x0, h0, rv⟩ := at'.sv.rv j v he
        obtain ⟨sv1, off⟩ := at'.sv.drop (j := j)
        have a1 : At X.K H0 G0 Gl Hl H G (e.set j none) σ (updB B j []) s := ⟨at'.nw, sv1, at'.kp⟩
        have a2 := a1.set (i := i) rv (at'.sv.fr j) fun q _ c hc => off q c hc
        exact hv σ H _ x0 h0 (a2.nx p)
theorem s_lnd {x : List Stmt} {ms : List MS} (h : PSs X x (RSs X T W ms)) : PSs X x (RSs X T W (.lnd i :: ms)) := by
  refine PSs.imp h fun D σ H ⟨H0, G0, Gl, Hl, G, e, s, B, at', p⟩ => ?_
  have p : Post X.K H0 G0 (FR X.K H0 Gl Hl) W (QD D) (exs T.F ms (giveA brw [i] 0 e) s) := p
  obtain ⟨n2, _⟩ := at'.sv.lend (vs := [i]) at'.nw
  have af := SV.gone (vs := [i]) (C := []) at'.nw at'.sv (Nw.refl n2.sr) Fr.nil
  exact ⟨H0, G0, Gl, Hl, _, _, s, _, at'.af af, p⟩
end
end Py
end

section
/-! PyDi: loops over a dict, which is locked meanwhile. -/
namespace Py
open PySem L2 PyProof.Rows

section
variable {K : W.Frag} {G : Gh} {H H' : Hp}
mutual
theorem RV.hup (ht : ∀ a xs, H a = some (.tup xs) → H' a = some (.tup xs)) (hl : ∀ a xs, H a = some (.lst xs) → H' a = some (.lst xs)) : ∀ {x : PV} {v : V} {A : List Addr}, RV K G H x v A → RV K G H' x v A
  | _, _, _, .non => .non
  | _, _, _, .bl b => .bl b
  | _, _, _, .int i => .int i
  | _, _, _, .str x => .str x
  | _, _, _, .tup h r => .tup (ht _ _ h) (RVs.hup ht hl r)
  | _, _, _, .lf h f r => .lf (hl _ _ h) f (RVs.hup ht hl r)
  | _, _, _, .lb h f r => .lb (hl _ _ h) f (RVs.hup ht hl r)
  | _, _, _, .lt h f r => .lt (hl _ _ h) f (RVs.hup ht hl r)
  | _, _, _, .lo h r => .lo (hl _ _ h) (RVs.hup ht hl r)
  | _, _, _, .dct h => .dct h
  | _, _, _, .src h => .src h
  | _, _, _, .scr => .scr
theorem RVs.hup (ht : ∀ a xs, H a = some (.tup xs) → H' a = some (.tup xs)) (hl : ∀ a xs, H a = some (.lst xs) → H' a = some (.lst xs)) : ∀ {x : List PV} {v : List V} {A : List Addr}, RVs K G H x v A → RVs K G H' x v A
  | _, _, _, .nil => .nil
  | _, _, _, .cons h r => .cons (RV.hup ht hl h) (RVs.hup ht hl r)
end
theorem DIs.hup {a : Addr} {d : List (PV × PV)} (ht : ∀ a xs, H a = some (.tup xs) → H' a = some (.tup xs)) (hl : ∀ a xs, H a = some (.lst xs) → H' a = some (.lst xs)) (ha : H' a = H a) (h : DIs K G H a d) : DIs K G H' a d := by
  cases h with
  | k e r => exact .k (ha.trans e) (Paired.imp r fun p q z => ⟨z.1.hup ht hl, z.2.hup ht hl⟩)
  | t e r => exact .t (ha.trans e) (Paired.imp r fun p q ⟨⟨ks, e1, z1⟩, z⟩ => ⟨⟨ks, e1, z1.hup ht hl⟩, z.hup ht hl⟩)
  | fk e r => exact .fk (ha.trans e) (Paired.imp r fun p q z => ⟨z.1.hup ht hl, z.2.hup ht hl⟩)
  | ft e r => exact .ft (ha.trans e) (Paired.imp r fun p q ⟨⟨ks, e1, z1⟩, z⟩ => ⟨⟨ks, e1, z1.hup ht hl⟩, z.hup ht hl⟩)
end

/-- the ends while the dict at d is locked -/
def lkE (d : Addr) (od : Obj) (u : HO) (D : Ends) : Ends := ⟨fun σ' H' => H' d = some (.frz od u) ∧ D.nx σ' (upd H' d u), fun v H' => H' d = some (.frz od u) ∧ D.rt v (upd H' d u), fun σ' H' => H' d = some (.frz od u) ∧ D.bk σ' (upd H' d u), fun σ' H' => H' d = some (.frz od u) ∧ D.ct σ' (upd H' d u)⟩
def IsDK (u : HO) : Prop := (∃ kvs, u = .dK kvs) ∨ ∃ kvs, u = .dT kvs
section
variable {K : W.Frag} {H0 H Hl : Hp} {G0 G Gl : Gh} {e : Py.Env} {σ : L2.St} {B : Nat → List Addr} {s : Py.St} {W : XW} {D : Ends} {n : Nat} {dl : List (PV × PV)} {d : Addr} {u : HO} {od : Obj}
theorem IsDK.ul {H : Hp} {d : Addr} {u : HO} (h : IsDK u) (hd : H d = some u) : IsDcU H d := by
  rcases h with ⟨kvs, rfl⟩ | ⟨kvs, rfl⟩
  · exact .inl ⟨_, hd⟩
  · exact .inr ⟨_, hd⟩
theorem post_lock (a0 : At K H0 G0 Gl Hl H G e σ B s) (hn : s.ds[n]? = some dl) (ha : G.ds[n]? = some d) (hd : H d = some u) (hk : IsDK u)
    (new : ∀ G' H'', Keep K G G' H H'' [] → H'' d = some u → DIs K G' H'' d dl) :
    ∀ {r : R Fl}, Post K H0 G0 (FR K H0 Gl Hl) W (QD D) (lockR n dl r) → Post K H0 G0 (FR K H0 G (upd H d (.frz od u))) W (QD (lkE d od u D)) r
  | .bad, h => h
  | .ex _ _, h => False.elim h
  | .ask _ _, h => fun i hi => post_lock a0 hn ha hd hk new (h i hi)
  | .ok f s', h => by
    intro G' y H' A l p r hF hfr
    obtain ⟨hA, kp, fr⟩ := hF
    have hu : IsDcU H d := hk.ul hd
    have h1 : H' d = some (.frz od u) := kp.frz _ _ _ upd_same
    have hnl : ∀ xs, u ≠ .lst xs := fun xs z => by rcases hk with ⟨_, q⟩ | ⟨_, q⟩ <;> (rw [q] at z; cases z)
    have nt : ∀ a xs, H' a = some (.tup xs) → a ≠ d := fun a xs q z => by rw [z, h1] at q; cases q
    have nl : ∀ a xs, H' a = some (.lst xs) → a ≠ d := fun a xs q z => by rw [z, h1] at q; cases q
    have ht : ∀ a xs, H' a = some (.tup xs) → upd H' d u a = some (.tup xs) := fun a xs q => by rw [upd_ne (nt a xs q)]; exact q
    have hl : ∀ a xs, H' a = some (.lst xs) → upd H' d u a = some (.lst xs) := fun a xs q => by rw [upd_ne (nl a xs q)]; exact q
    have nf : ∀ a o v, H a = some (.frz o v) → a ≠ d := fun a o v q => hu.ne_frz q
    have kH : Keep K G G' H (upd H' d u) [] := by
      refine ⟨fun a xs q => ht _ _ (kp.tup _ _ ?_), kp.fz, kp.tz, fun a xs q z => hl _ _ (kp.lst _ _ ?_ z), kp.ds, kp.sr, kp.sc, fun a o v q => ?_⟩
      · rw [upd_ne (IsDc.ne_tup (.inl hu) q)]; exact q
      · rw [upd_ne (IsDc.ne_lst (.inl hu) q)]; exact q
      · rw [upd_ne (nf a o v q)]
        exact kp.frz _ _ _ (by rw [upd_ne (nf a o v q)]; exact q)
    have ea : G'.ds[n]? = some d := kp.ds _ _ ha
    have mem : d ∈ G'.ds := List.mem_of_getElem? ea
    have hlen : n < s'.ds.length := by rw [r.len]; exact (List.getElem?_eq_some_iff.mp ea).1
    have pr : Pr G0 H0 (upd H' d u) := by
      refine ⟨fun a xs q => ht _ _ (p.tup _ _ q), fun a o v q => ?_, fun a xs q z => hl _ _ (p.lst _ _ q z), fun a q => ?_⟩
      · rw [upd_ne (nf a o v (a0.nw.pr.frz _ _ _ q))]
        exact p.frz _ _ _ q
      · by_cases z : a = d
        · rw [z, upd_same] at q; cases q
        · rw [upd_ne z] at q; exact p.dom a q
    have sr : SR K G' (upd H' d u) (s'.dset n dl) := by
      refine ⟨by simp [St.dset, r.len], r.nd, fun m d1 b q1 q2 => ?_, fun b f => ?_, fun b f => ?_, r.ft, r.op, fun b c q => ?_, ?_, fun d1 q => ?_⟩
      · by_cases z : m = n
        · subst z
          simp only [St.dset, List.getElem?_set_self hlen] at q1
          cases q1
          rw [ea] at q2
          cases q2
          exact new G' _ kH upd_same
        · simp only [St.dset, List.getElem?_set_ne (Ne.symm z)] at q1
          have hb : b ≠ d := by
            rintro rfl
            obtain ⟨l1, g1⟩ := List.getElem?_eq_some_iff.mp ea
            obtain ⟨l2, g2⟩ := List.getElem?_eq_some_iff.mp q2
            exact z ((List.getElem_inj r.nd).mp (g2.trans g1.symm))
          exact DIs.hup ht hl (upd_ne hb) (r.dat m d1 b q1 q2)
      · obtain ⟨xs, q⟩ := r.fl b f
        exact ⟨xs, hl _ _ q⟩
      · obtain ⟨xs, q⟩ := r.tl b f
        exact ⟨xs, hl _ _ q⟩
      · obtain ⟨⟨n0, kvs, ns, l', m, t, q1, q2, q3⟩, nb, n1, n2⟩ := r.si b c q
        have hb : b ≠ d := fun z => nb (z ▸ mem)
        exact ⟨⟨n0, kvs, ns, l', m, t, by rw [upd_ne hb]; exact q1, hl _ _ q2, q3⟩, nb, n1, n2⟩
      · obtain ⟨ns, nl', x⟩ := r.sc
        refine ⟨ns, nl', x.imp id fun ⟨y, x⟩ => ⟨y, ?_⟩⟩
        rw [upd_ne (fun z => by rw [z, h1] at x; have x := Option.some.inj x; injection x with x1 x2; exact hnl _ x2)]; exact x
      · rcases List.mem_or_eq_of_mem_set q with q | q
        · exact r.nb d1 q
        · rw [q]; exact a0.nw.sr.nb dl (List.mem_of_getElem? hn)
    have fin : ∀ {y : FV}, FRv K H0 G' (upd H' d u) f y → QD D y (upd H' d u) := fun {y} w => h G' y _ [] l pr sr ⟨rfl, a0.kp.trans kH, w⟩ Fr.nil
    have sv : ∀ {e σ}, (∃ B, SV K H0 G' H' e σ B) → ∃ B, SV K H0 G' (upd H' d u) e σ B := fun ⟨B, v⟩ => ⟨B, ⟨fun i v' q => let ⟨x, x1, x2⟩ := v.rv i v' q; ⟨x, x1, x2.hup ht hl⟩, v.len, v.fr, v.dj, fun i b hb => let ⟨xs, q⟩ := v.ls i b hb; ⟨xs, hl _ _ q⟩⟩⟩
    cases f <;> cases y <;> first
      | exact False.elim fr
      | skip
    · exact ⟨h1, fin (y := .nx _) (sv fr)⟩
    · obtain ⟨C, q1, q2⟩ := fr
      exact ⟨h1, fin (y := .rt _) ⟨C, q1.hup ht hl, q2⟩⟩
    · exact ⟨h1, fin (y := .bk _) (sv fr)⟩
    · exact ⟨h1, fin (y := .ct _) (sv fr)⟩
end

/-! ### the walk -/
section
variable {K : W.Frag} {G : Gh} {H : Hp} {d : Addr} {od : Obj}
theorem paired_get {α β : Type} {F : α → β → Prop} : ∀ {l : List α} {m : List β}, Paired F l m → ∀ (i : Nat) (b : β), m[i]? = some b → ∃ a, l[i]? = some a ∧ F a b
  | _, _, .nil, i, b, h => by simp at h
  | _, _, .cons r t, 0, b, h => ⟨_, rfl, by simp at h; rw [← h]; exact r⟩
  | _, _, .cons r t, i + 1, b, h => paired_get t i b (by simpa using h)
theorem wk_keys {kvs : List (Key × V)} {dl : List (PV × PV)} (hd : H d = some (.frz od (.dK kvs))) (q : Paired (fun (p : PV × PV) (q : Key × V) => RV K G H p.1 (kV q.1) [] ∧ RV K G H p.2 q.2 []) dl kvs) :
    Wk K G H (Itk d od kvs) (dl.map fun p => p.1) := by
  have hl : dl.length = kvs.length := Paired.length q
  refine ⟨fun i G' H' kp hi => ⟨kp.frz _ _ _ hd, ?_⟩, fun i G' H' kp hi => ⟨kp.frz _ _ _ hd, ?_⟩, fun i G' H' x H'' p kp hp hy => ?_⟩
  · rw [List.length_map] at hi; omega
  · rw [List.length_map] at hi; omega
  · obtain ⟨rfl, k, v, hk, rfl⟩ := hy
    obtain ⟨a, ha, r1, _⟩ := paired_get q i _ hk
    rw [List.getElem?_map, ha] at hp
    cases hp
    exact ⟨.inl rfl, r1.keep kp⟩
theorem wk_keysT {kvs : List (List Key × V)} {dl : List (PV × PV)} (hd : H d = some (.frz od (.dT kvs))) (q : Paired (fun (p : PV × PV) (q : List Key × V) => (∃ ks, p.1 = .tup ks ∧ RVs K G H ks (q.1.map kV) []) ∧ RV K G H p.2 q.2 []) dl kvs) :
    Wk K G H (Itkt d od kvs) (dl.map fun p => p.1) := by
  have hl : dl.length = kvs.length := Paired.length q
  refine ⟨fun i G' H' kp hi => ⟨kp.frz _ _ _ hd, ?_⟩, fun i G' H' kp hi => ⟨kp.frz _ _ _ hd, ?_⟩, fun i G' H' x H'' p kp hp hy => ?_⟩
  · rw [List.length_map] at hi; omega
  · rw [List.length_map] at hi; omega
  · obtain ⟨rfl, k, v, b, hk, rfl, hb⟩ := hy
    obtain ⟨a, ha, ⟨ks, e1, r1⟩, _⟩ := paired_get q i _ hk
    rw [List.getElem?_map, ha] at hp
    cases hp
    show Stp H'' H'' ∧ RV K G' H'' a.1 (V.ref b) []
    rw [e1]
    exact ⟨.inl rfl, .tup hb (r1.keep kp)⟩
theorem wk_items {kvs : List (Key × V)} {dl : List (PV × PV)} (hd : H d = some (.frz od (.dK kvs))) (q : Paired (fun (p : PV × PV) (q : Key × V) => RV K G H p.1 (kV q.1) [] ∧ RV K G H p.2 q.2 []) dl kvs) :
    Wk K G H (Iti d od kvs) (dl.map fun p => PV.tup [p.1, p.2]) := by
  have hl : dl.length = kvs.length := Paired.length q
  refine ⟨fun i G' H' kp hi => ⟨kp.frz _ _ _ hd, ?_⟩, fun i G' H' kp hi => ⟨kp.frz _ _ _ hd, ?_⟩, fun i G' H' x H'' p kp hp hy => ?_⟩
  · rw [List.length_map] at hi; omega
  · rw [List.length_map] at hi; omega
  · obtain ⟨T, k, v, hk, rfl, hT, rfl⟩ := hy
    obtain ⟨a, ha, r1, r2⟩ := paired_get q i _ hk
    rw [List.getElem?_map, ha] at hp
    cases hp
    exact ⟨.inr (.inl ⟨_, _, hT, rfl⟩), rv_pair hT (r1.keep kp) (r2.keep kp)⟩
end

section
variable {X : Cx} {T : Tb} {k : Nat} {W : XW} {pos : Pos} {tg : Tg} {bd : List MS}
/-- the turns of a walk -/
theorem fo_run {D : Ends} {H0 Hl H1 : Hp} {G0 Gl G1 : Gh} {e : Py.Env} {s : Py.St} {σ : L2.St} {B : Nat → List Addr} {J : It} {xs : List PV} (wk : Wk X.K G1 H1 J xs) (a4 : At X.K H0 G0 Gl Hl H1 G1 e σ B s)
    (p : Post X.K H0 G0 (FR X.K H0 Gl Hl) W (QD D) (forL (fun x e1 s2 => match bindT tg x e1 with | some e2 => exs T.F bd e2 s2 | none => .bad) xs e s)) :
    ∃ W' : Nat → Nat → L2.St → Hp → Prop, (∃ m, W' 0 m σ H1) ∧ ∀ i m σ H, W' i m σ H →
      (J.stop i H ∧ D.nx σ H) ∨ (J.go i H ∧ ∃ N : L2.St → Hp → Prop, (∀ σ' H', N σ' H' → ∃ m', m' < m ∧ W' (i + 1) m' σ' H') ∧ ∀ x H', J.yld i H x H' → gT tg x σ H' fun σ2 H2 => RSs X T W bd { D with nx := N, ct := N, bk := D.nx } σ2 H2) := by
  refine ⟨FoI X T W tg bd D H0 G0 Gl Hl H1 G1 xs, ⟨xs.length, G1, _, s, B, by simp, Nat.zero_le _, ⟨a4.nw, a4.sv, Keep.refl⟩, p⟩, ?_⟩
  rintro i m σ2 H2 ⟨G2, e2, s2, B2, rfl, hle, a5, p5⟩
  by_cases hlt : i < xs.length
  case neg =>
    have ei : i = xs.length := by omega
    rw [ei, List.drop_length] at p5
    exact .inl ⟨wk.stop i G2 H2 a5.kp ei, (a5.trans a4.kp).nx p5⟩
  refine .inr ⟨wk.go i G2 H2 a5.kp hlt, FoI X T W tg bd D H0 G0 Gl Hl H1 G1 xs (i + 1) (xs.length - (i + 1)), fun σ' H' w => ⟨_, by omega, w⟩, fun x H3 hy => ?_⟩
  have hx : xs[i]? = some xs[i] := List.getElem?_eq_getElem hlt
  obtain ⟨stp, rx⟩ := wk.yld i G2 H2 x H3 _ a5.kp hx hy
  have n3 := stp.nw a5.nw
  have up : ∀ {A : List Addr}, Keep X.K G2 G2 H2 H3 A := Keep.up stp.up
  have sv3 : SV X.K H0 G2 H3 e2 σ2 B2 := ⟨fun j v h => let ⟨z, z1, z2⟩ := a5.sv.rv j v h; ⟨z, z1, z2.keep up⟩, a5.sv.len, a5.sv.fr, a5.sv.dj, fun j d hd => let ⟨z, z1⟩ := a5.sv.ls j d hd; ⟨z, stp.up _ _ z1⟩⟩
  rw [List.drop_eq_getElem_cons hlt] at p5
  have p6 : Post X.K H0 G0 (FR X.K H0 Gl Hl) W (QD D) ((match bindT tg xs[i] e2 with | some e3 => exs T.F bd e3 s2 | none => .bad).bind fun f s1 => match f with
    | .nx e1 => forL (fun x e1 s2 => match bindT tg x e1 with | some e2 => exs T.F bd e2 s2 | none => .bad) (xs.drop (i + 1)) e1 s1
    | .ct e1 => forL (fun x e1 s2 => match bindT tg x e1 with | some e2 => exs T.F bd e2 s2 | none => .bad) (xs.drop (i + 1)) e1 s1
    | .bk e1 => .ok (.nx e1) s1
    | .rt v => .ok (.rt v) s1) := p5
  cases hb : bindT tg xs[i] e2 with
  | none => rw [hb] at p6; exact False.elim p6
  | some e3 =>
    rw [hb] at p6
    obtain ⟨ps, qs, bdd, ee, pq⟩ := bind_ok _ _ _ _ _ hb rx
    obtain ⟨B', sv⟩ := sv_sto pq sv3
    rw [← ee] at sv
    have a6 : At X.K H0 G0 G1 H1 H3 G2 e3 (stS σ2 ps) B' s2 := ⟨n3, sv, a5.kp.trans up⟩
    refine ⟨ps, bdd, st_bind (r := fun e s => exs T.F bd e s) a6 p6 (fun e' s' σ' H' G' B' a' q => ⟨G', e', s', B', rfl, hlt, a', q⟩) (fun v s' y H' G' C n kp r f q => rt_at (D := D) n (a4.kp.trans kp) r f q) (fun e' s' σ' H' G' B' a' q => (a'.trans a4.kp).nx q) fun e' s' σ' H' G' B' a' q => ⟨G', e', s', B', rfl, hlt, a', q⟩⟩

/-- what the rule asks, where the statement begins -/
theorem fdi_in {it : Bool} {i : Nat} {D : Ends} {H0 Hl H : Hp} {G0 Gl G : Gh} {e : Py.Env} {s : Py.St} {σ : L2.St} {B : Nat → List Addr} (at' : At X.K H0 G0 Gl Hl H G e σ B s)
    (p : Post X.K H0 G0 (FR X.K H0 Gl Hl) W (QD D) (Py.ex T.F (.fdi tg it i bd) e s)) {wi : TI}
    (hw : ∀ d od u dl G H R, IsDK u → H d = some (.frz od u) → σ[i]? = some (some (.ref d)) → (it = true → ∃ kvs, u = .dK kvs) →
      (∀ kvs, u = .dK kvs → it = true → R (Iti d od kvs) H) → (∀ kvs, u = .dK kvs → it = false → R (Itk d od kvs) H) → (∀ kvs, u = .dT kvs → it = false → R (Itkt d od kvs) H) → DIs X.K G H d (mkd dl) → wi σ H R) :
    tLock (tFor wi (gT tg) (RSs X T W bd)) D σ H := by
  have p : Post X.K H0 G0 (FR X.K H0 Gl Hl) W (QD D) (match e[i]? with
    | some (some (.dct n)) => match s.dat n with
      | some d => if !isMk d && (!it || (!d.isEmpty && d.all fun p => kd1 p.1)) then lockR n d (forL (fun x e1 s2 => match bindT tg x e1 with
        | some e2 => exs T.F bd e2 s2
        | none => .bad) (d.map fun p => if it then .tup [p.1, p.2] else p.1) e (s.dset n (mkd d))) else .bad
      | none => .bad
    | _ => .bad) := p
  cases he : e[i]? with
  | none => rw [he] at p; exact False.elim p
  | some ox =>
  cases ox with
  | none => rw [he] at p; exact False.elim p
  | some x =>
  rw [he] at p
  cases x <;> first
    | exact False.elim p
    | skip
  rename_i n
  dsimp only at p
  cases hdat : s.dat n with
  | none => rw [hdat] at p; exact False.elim p
  | some dl =>
  rw [hdat] at p
  dsimp only at p
  by_cases hc : (!isMk dl && (!it || (!dl.isEmpty && dl.all fun p => kd1 p.1))) = true
  case neg => rw [if_neg hc] at p; exact False.elim p
  rw [if_pos hc] at p
  rw [Bool.and_eq_true, Bool.not_eq_true'] at hc
  obtain ⟨hm, hk⟩ := hc
  obtain ⟨x, hσ, rv⟩ := at'.sv.rv i _ he
  obtain ⟨d, rfl, ha⟩ := dct_of rv
  have dis := at'.nw.sr.dat n dl d hdat ha
  -- what holds for either kind
  have go : ∀ u, H d = some u → IsDK u → (∀ od, DIs X.K G (upd H d (.frz od u)) d (mkd dl)) → (∀ G' H'', Keep X.K G G' H H'' [] → H'' d = some u → DIs X.K G' H'' d dl) → (it = true → ∃ kvs, u = .dK kvs) →
      (∀ od kvs, u = .dK kvs → it = true → Wk X.K G (upd H d (.frz od u)) (Iti d od kvs) (dl.map fun p => if it then .tup [p.1, p.2] else p.1)) →
      (∀ od kvs, u = .dK kvs → it = false → Wk X.K G (upd H d (.frz od u)) (Itk d od kvs) (dl.map fun p => if it then .tup [p.1, p.2] else p.1)) →
      (∀ od kvs, u = .dT kvs → it = false → Wk X.K G (upd H d (.frz od u)) (Itkt d od kvs) (dl.map fun p => if it then .tup [p.1, p.2] else p.1)) → tLock (tFor wi (gT tg) (RSs X T W bd)) D σ H := by
    intro u hd hu dlk back hit w1 w2 w3
    refine ⟨d, u, hd, by rcases hu with ⟨_, rfl⟩ | ⟨_, rfl⟩ <;> trivial, fun od => ?_⟩
    have hU : IsDcU H d := hu.ul hd
    have kp : ∀ {A}, Keep X.K G G H (upd H d (.frz od u)) A := Keep.dict hU
    have hb : ∀ p ∈ mkd dl, nob p.2 = true := fun p hp => by
      rcases List.mem_cons.mp hp with e | hp
      · rw [e]; simp [nob]
      · exact at'.nw.sr.nb dl (List.mem_of_getElem? hdat) p hp
    have a1 : At X.K H0 G0 G (upd H d (.frz od u)) (upd H d (.frz od u)) G e σ B (s.dset n (mkd dl)) :=
      ⟨Nw.dict hU at'.nw hdat ha (dlk od) hb, ⟨fun j v h => let ⟨z, z1, z2⟩ := at'.sv.rv j v h; ⟨z, z1, z2.keep kp⟩, at'.sv.len, at'.sv.fr, at'.sv.dj, fun j b hb' => let ⟨zs, z⟩ := at'.sv.ls j b hb'; ⟨zs, by rw [upd_ne (IsDc.ne_lst (.inl hU) z)]; exact z⟩⟩, Keep.refl⟩
    have p1 := post_lock (od := od) at' hdat ha hd hu back p
    exact hw d od u dl G _ _ hu upd_same hσ hit (fun kvs e1 e2 => fo_run (w1 od kvs e1 e2) a1 p1) (fun kvs e1 e2 => fo_run (w2 od kvs e1 e2) a1 p1) (fun kvs e1 e2 => fo_run (w3 od kvs e1 e2) a1 p1) (dlk od)
  cases dis with
  | k ed q =>
    rename_i kvs
    have hU : IsDcU H d := .inl ⟨_, ed⟩
    have q' : ∀ od, Paired (fun (p : PV × PV) (q : Key × V) => RV X.K G (upd H d (.frz od (.dK kvs))) p.1 (kV q.1) [] ∧ RV X.K G (upd H d (.frz od (.dK kvs))) p.2 q.2 []) dl kvs := fun od => Paired.imp q fun p q z => ⟨z.1.keep (Keep.dict hU), z.2.keep (Keep.dict hU)⟩
    refine go (.dK kvs) ed (.inl ⟨_, rfl⟩) (fun od => .fk upd_same (q' od)) (fun G' H'' kp h => .k h (Paired.imp q fun p q z => ⟨z.1.keep kp, z.2.keep kp⟩)) (fun _ => ⟨_, rfl⟩) (fun od kvs' e1 e2 => ?_) (fun od kvs' e1 e2 => ?_) (fun od kvs' e1 e2 => by cases e1)
    · cases e1
      rw [e2]
      exact wk_items upd_same (q' od)
    · cases e1
      rw [e2]
      exact wk_keys upd_same (q' od)
  | t ed q =>
    rename_i kvs
    have hU : IsDcU H d := .inr ⟨_, ed⟩
    have hf : it = false := by
      cases it with
      | false => rfl
      | true =>
        exfalso
        simp only [Bool.not_true, Bool.false_or, Bool.and_eq_true] at hk
        cases dl with
        | nil => cases hk.1
        | cons pr r =>
          cases q with
          | cons w _ =>
          obtain ⟨⟨ks, e1, _⟩, _⟩ := w
          have := List.all_eq_true.mp hk.2 pr List.mem_cons_self
          rw [e1] at this
          cases this
    have q' : ∀ od, Paired (fun (p : PV × PV) (q : List Key × V) => (∃ ks, p.1 = .tup ks ∧ RVs X.K G (upd H d (.frz od (.dT kvs))) ks (q.1.map kV) []) ∧ RV X.K G (upd H d (.frz od (.dT kvs))) p.2 q.2 []) dl kvs := fun od => Paired.imp q fun p q ⟨⟨ks, e1, z1⟩, z⟩ => ⟨⟨ks, e1, z1.keep (Keep.dict hU)⟩, z.keep (Keep.dict hU)⟩
    refine go (.dT kvs) ed (.inr ⟨_, rfl⟩) (fun od => .ft upd_same (q' od)) (fun G' H'' kp h => .t h (Paired.imp q fun p q ⟨⟨ks, e1, z1⟩, z⟩ => ⟨⟨ks, e1, z1.keep kp⟩, z.keep kp⟩)) (fun z => by rw [hf] at z; cases z) (fun od kvs' e1 e2 => by cases e1) (fun od kvs' e1 e2 => by cases e1) (fun od kvs' e1 e2 => ?_)
    cases e1
    rw [e2]
    exact wk_keysT upd_same (q' od)
  | fk ed q => cases hm
  | ft ed q => cases hm
theorem s_fdk {iter tx : Expr} {i : Nat} {body : List Stmt} (hp : PassesOwn (model X.prog X.w) X.A X.env X.xe) (hc : X.calm = true) (hv : PE X iter (tVar i)) (hg : PG X tx (gT tg)) (hb : PSs X body (RSs X T W bd)) (hs : ∀ x, foldedSetIterable iter X.env x = pure x) :
    PS X (.For tx iter body [] pos) (RS X T W (.fdi tg false i bd)) := by
  refine PS.imp (ps_lock (ps_for hp hc (pi_keys hv) hg hb hs)) fun D σ H ⟨H0, G0, Gl, Hl, G, e, s, B, at', p⟩ => ?_
  refine fdi_in at' p fun d od u dl G H R hu hd hσ _ _ w2 w3 _ => ⟨_, hσ, d, od, rfl, ?_⟩
  rcases hu with ⟨kvs, rfl⟩ | ⟨kvs, rfl⟩
  · exact .inl ⟨kvs, hd, w2 kvs rfl rfl⟩
  · exact .inr ⟨kvs, hd, w3 kvs rfl rfl⟩
theorem s_fdv {o : Expr} {apos cpos tpos : Pos} {elts : List Expr} {kk : Nat} {i : Nat} {body : List Stmt} (hp : PassesOwn (model X.prog X.w) X.A X.env X.xe) (hc : X.calm = true) (hv : PE X o (tVar i)) (hg : PG X (.Tuple elts kk tpos) (gT tg)) (hb : PSs X body (RSs X T W bd))
    (hbase : attributeBase o "items" X.env (eval o X.env) = eval o X.env) (hline : (apos.endLine == cpos.line) = true) (hs : ∀ x, foldedSetIterable (.Call (.Attribute o "items" apos) [] [] cpos) X.env x = pure x) :
    PS X (.For (.Tuple elts kk tpos) (.Call (.Attribute o "items" apos) [] [] cpos) body [] pos) (RS X T W (.fdi tg true i bd)) := by
  refine PS.imp (ps_lock (ps_for hp hc (pi_items hv hbase hline) hg hb hs)) fun D σ H ⟨H0, G0, Gl, Hl, G, e, s, B, at', p⟩ => ?_
  refine fdi_in at' p fun d od u dl G H R hu hd hσ hi w1 _ _ _ => ?_
  obtain ⟨kvs, rfl⟩ := hi rfl
  exact ⟨_, hσ, d, od, kvs, rfl, hd, w1 kvs rfl rfl⟩
end
end Py
end

section
/-! PyPu: x = xs.pop(), d.update(e). -/
namespace Py
open PySem L2 PyProof.Rows

section
variable {K : W.Frag} {G : Gh} {H : Hp}
theorem PD.mergeK : ∀ {d' : List (PV × PV)} {more : List (Key × V)} {d : List (PV × PV)} {kvs : List (Key × V)}, PD K G H (SK K G H) d' more → PD K G H (SK K G H) d kvs → PD K G H (SK K G H) (d'.foldl (fun d p => dput p.1 p.2 d) d) (mergeK kvs more)
  | [], [], _, _, _, h => h
  | (k, v) :: d', (q, y) :: more, d, kvs, .cons w t, h => by
    show PD K G H (SK K G H) (d'.foldl (fun d p => dput p.1 p.2 d) (dput k v d)) (L2.mergeK (putK kvs q y) more)
    exact PD.mergeK t (PD.put (F := SK K G H) (fun x y p q => sk_uniq) w.1 w.2 h)
theorem fold_nob : ∀ {d' d : List (PV × PV)}, (∀ p ∈ d', nob p.2 = true) → (∀ p ∈ d, nob p.2 = true) → ∀ p ∈ d'.foldl (fun d p => dput p.1 p.2 d) d, nob p.2 = true
  | [], _, _, h => h
  | (k, v) :: d', d, h', h => fold_nob (d' := d') (fun p hp => h' p (List.mem_cons_of_mem _ hp)) (dput_nob (h' (k, v) List.mem_cons_self) h)
end
/-- d.update(e), of flat keys -/
def rUpdK (K : W.Frag) : V → List V → Hp → VK → Prop := fun x xs H Q => ∃ (H0 : Hp) (G0 G : Gh) (t : Py.St) (n m : Nat) (a b : Addr) (d d' : List (PV × PV)), Nw K H0 G0 H G t ∧ G.ds[n]? = some a ∧ G.ds[m]? = some b ∧ x = .ref a ∧ xs = [.ref b] ∧ t.ds[n]? = some d ∧ t.ds[m]? = some d' ∧ n ≠ m ∧
  d.length + d'.length ≤ sizeLine ∧ d.all (fun p => kd1 p.1) = true ∧ d'.all (fun p => kd1 p.1) = true ∧ ∀ H', Nw K H0 G0 H' G (t.dset n (d'.foldl (fun d p => dput p.1 p.2 d) d)) → (∀ A, Keep K G G H H' A) → Q .non H'
section
variable {X : Cx} {pins : List (Addr × Obj)} {σ : L2.St} {H H0 : Hp} {G0 G : Gh} {s : Shared} {t : Py.St}
/-- a dict of flat keys stands as one -/
theorem flatK {n : Nat} {d : List (PV × PV)} (I : Inv X pins σ H s) (n0 : Nw X.K H0 G0 H G t) (e1 : t.ds[n]? = some d) (hf : d.all (fun p => kd1 p.1) = true) {a : Addr} (e2 : G.ds[n]? = some a) :
    ∃ H1 kvs, Inv X pins σ H1 s ∧ Nw X.K H0 G0 H1 G t ∧ (∀ A, Keep X.K G G H H1 A) ∧ H1 a = some (.dK kvs) ∧ PD X.K G H1 (SK X.K G H1) d kvs ∧ ∀ c, c ≠ a → H1 c = H c := by
  have hd := n0.sr.dat n d a e1 e2
  cases hd with
  | k ea r => exact ⟨H, _, I, n0, fun A => Keep.up fun _ _ h => h, ea, r, fun _ _ => rfl⟩
  | t ea r =>
    cases d with
    | nil =>
      cases r
      have n1 : Nw X.K H0 G0 (upd H a (.dK [])) G t := by
        have := Nw.dict (o := .dK []) (.inr ⟨_, ea⟩) n0 e1 e2 (.k upd_same .nil) (fun _ h => nomatch h)
        rw [dset_same e1] at this
        exact this
      exact ⟨_, [], toK I ea, n1, fun A => Keep.dict (.inr ⟨_, ea⟩), upd_same, .nil, fun c hc => upd_ne hc⟩
    | cons pr d2 =>
      exfalso
      cases r with
      | cons w _ =>
      obtain ⟨⟨ks, e3, _⟩, _⟩ := w
      have := List.all_eq_true.mp hf pr List.mem_cons_self
      rw [e3] at this
      cases this
  | fk ea r => cases hf
  | ft ea r => cases hf
theorem mt_upd (cx : Cxt X) : MtR X "dict.update" (rUpdK X.K) := by
  intro pins s σ H x xs v us Q I rx rs ⟨H0, G0, G, t, n, m, a, b, d, d', nw, ea, eb, hx, hxs, ed, ed', hnm, hz, hf, hf', q⟩
  subst hx hxs
  obtain ⟨u, rfl, ru⟩ := Vals.one rs
  cases (show v = Value.ref a from rx)
  cases (show u = Value.ref b from ru)
  obtain ⟨H1, kvs5, I1, n1, k1, e1, r1, _⟩ := flatK I nw ed hf ea
  obtain ⟨H4, more', I4, n4, k4, e4, r4, o4⟩ := flatK I1 n1 ed' hf' eb
  have hab : a ≠ b := by
    rintro rfl
    obtain ⟨l1, g1⟩ := List.getElem?_eq_some_iff.mp ea
    obtain ⟨l2, g2⟩ := List.getElem?_eq_some_iff.mp eb
    exact hnm ((List.getElem_inj nw.sr.nd).mp (g1.trans g2.symm))
  have e5 : H4 a = some (.dK kvs5) := (o4 a hab).trans e1
  have r5 : PD X.K G H4 (SK X.K G H4) d kvs5 := Paired.imp r1 fun _ _ w => ⟨RV.keep w.1 (k4 []), w.2.keep (k4 [])⟩
  obtain ⟨z, hd, vs, rel, dd⟩ := dk_of I4.hok e5
  obtain ⟨z2, hd2, vs2, rel2, dd2⟩ := dk_of I4.hok e4
  have kp : ∀ A, Keep X.K G G H H4 A := fun A => (k1 A).trans (k4 A)
  have hl5 : d.length = kvs5.length := r5.len
  have hl4 : d'.length = more'.length := r4.len
  refine call_meetsIn PySem.F.slot_dict_update dd.typeIs PySem.F.entry_dict_update (PySem.F.args_dict_update_2 _ _) (meets_dict_update (mixKind X.prog X.w) a b hab hd2)
    ⟨vs, vs2, dd, dd2, by rw [← rel.length, ← rel2.length]; omega, fun h' hmm _ hs => ?_⟩
  have he : ∃ q, h'.get? a = some q := let ⟨q, _, _, hq, _⟩ := hmm; ⟨q, hq⟩
  have hml : (mergeK kvs5 more').length ≤ sizeLine := by have := length_mergeK more' kvs5; omega
  have hU : IsDcU H4 a := .inl ⟨_, e5⟩
  have I5 : Inv X pins σ (upd H4 a (.dK (mergeK kvs5 more'))) { s with heap := h' } := d_write (t' := s.toks) I4 (by rw [e5]; exact True.intro) hs he (dk_new hml hd (rel2.merge rel) hmm)
  have kd : ∀ A, Keep X.K G G H4 (upd H4 a (.dK (mergeK kvs5 more'))) A := fun A => Keep.dict hU
  refine ⟨.non, _, I5, rfl, q _ (Nw.dict hU n4 ed ea (.k upd_same (Paired.imp (PD.mergeK r4 r5) fun _ _ w => ⟨w.1.keep (kd []), w.2.keep (kd [])⟩)) (fold_nob (n4.sr.nb d' (List.mem_of_getElem? ed')) (n4.sr.nb d (List.mem_of_getElem? ed)))) fun A => (kp A).trans (kd A)⟩
end

section
variable {X : Cx} {T : Tb} {k : Nat} {W : XW} {M : Nm} {a b : ME} {o be : Expr} {pos cpos apos : Pos}
theorem s_upd (lk : Lk M T) (px : PX T k X (VW W)) (hN : X.N = M.N) (hbase : attributeBase o "update" X.env (eval o X.env) = eval o X.env) (ha : chk M X.env.scope a o = true) (hb : chk M X.env.scope b be = true) (hl : (apos.endLine == cpos.line) = true) :
    PS X (.Expr (.Call (.Attribute o "update" apos) [be] [] cpos) pos) (RS X T W (.upd a b)) := by
  have pb := ka_cons (m_noStar hb) (noStar_chk hb) (cE lk b X (VW W) be px hN hb).pe (ka_nil (T := T) (V := VW W))
  have st := star_of (es := []) (noStar_chk hb) X.env
  have few : ((backTo cpos (starEach [be] X.env)).all (fun x => !x.1) && (backToKw cpos (keywordEach [] X.env)).all (fun x => x.1.isSome) && decide (([be] : List Expr).length + ([] : List Keyword).length + (if ([] : List Keyword).isEmpty then 0 else 1) < 30)) = true := by
    rw [st]; rfl
  refine PS.imp (ps_expr (pe_bm PySem.F.plainAttrs_dict PySem.F.slot_dict_update PySem.F.type_dict_update (mt_upd px.cx) (cE lk a X (VW W) o px hN ha).pe pb hbase few hl st rfl)) fun D σ H ⟨H0, G0, Gl, Hl, G, e, s, B, at', p⟩ => ?_
  have p : Post X.K H0 G0 (FR X.K H0 Gl Hl) W (QD D) ((ev T.F a e s).bind fun x s1 => if unmk x s1 then (ev T.F b e s1).bind fun y s2 => match x, y with
    | .dct n, .dct m => match s2.dat n, s2.dat m with
      | some d, some d' => if d.length + d'.length ≤ sizeLine ∧ n ≠ m ∧ (d'.all (fun p => kd1 p.1) && d.all (fun p => kd1 p.1)) = true then .ok (.nx e) (s2.dset n (d'.foldl (fun d p => dput p.1 p.2 d) d)) else .bad
      | _, _ => .bad
    | _, _ => .bad else .bad) := p
  obtain ⟨G', e', s', a1, a2, a3⟩ := runX at'.nw at'.sv p
  refine ⟨G', e', s', a1, a2, Post.mono (fun y H1 ⟨v, s1, G1, B1, C, af, rv, p⟩ => ?_) a3⟩
  by_cases hm : unmk v s1 = true
  case neg => rw [if_neg hm] at p; exact False.elim p
  rw [if_pos hm] at p
  cases v <;> first
    | cases hm
    | skip
  rename_i n
  have ee : esc (PV.dct n) (fv a) e = e := rfl
  rw [ee] at af
  have at1 := at'.af af
  obtain ⟨ad, rfl, rfl, ea⟩ := dct_inv rv
  have hm : (match s1.dat n with | some d => !isMk d | none => false) = true := hm
  cases hd1 : s1.dat n with
  | none => rw [hd1] at hm; cases hm
  | some d1 =>
  rw [hd1] at hm
  have hm1 : isMk d1 = false := by simpa using hm
  have hU := (at1.nw.sr.dat n d1 ad hd1 ea).isDcU hm1
  refine ⟨.inr (.inr (.inl ⟨rfl, hU⟩)), ?_⟩
  rw [evs_one (m_noStar hb)] at p
  obtain ⟨G', e', s', b1, b2, b3⟩ := runXs at1.nw at1.sv p
  refine ⟨G', e', s', b1, b2, Post.mono (fun ys H2 ⟨vs, s2, G2, B2, C2, af2, rvs, p2⟩ => ?_) b3⟩
  rcases vs with _ | ⟨v, _ | ⟨_, _⟩⟩ <;> first
    | exact False.elim p2
    | skip
  obtain ⟨yv, rfl, rv⟩ := rvs.one
  rw [esc_one (m_noStar hb)] at af2
  dsimp only at p2
  cases v <;> first
    | exact False.elim p2
    | skip
  rename_i m
  have ee2 : esc (PV.dct m) (fv b) e = e := rfl
  rw [ee2] at af2
  have at2 := at1.af af2
  obtain ⟨bd, rfl, rfl, eb⟩ := dct_inv rv
  dsimp only at p2
  have ea2 : G2.ds[n]? = some ad := af2.kp.ds _ _ ea
  cases hd2 : s2.dat n with
  | none => rw [hd2] at p2; exact False.elim p2
  | some d =>
  cases hd3 : s2.dat m with
  | none => rw [hd2, hd3] at p2; exact False.elim p2
  | some d' =>
  rw [hd2, hd3] at p2
  dsimp only at p2
  split at p2
  case isFalse => exact False.elim p2
  case isTrue hc =>
  obtain ⟨c1, c2, c3⟩ := hc
  rw [Bool.and_eq_true] at c3
  refine ⟨H0, G0, G2, s2, n, m, ad, bd, d, d', at2.nw, ea2, eb, rfl, rfl, hd2, hd3, c2, c1, c3.2, c3.1, fun H' nw kp => ?_⟩
  refine At.nx (D := D) (G := G2) (e := e) (B := B2) ⟨nw, ⟨fun i v h => let ⟨x, x1, x2⟩ := at2.sv.rv i v h; ⟨x, x1, x2.keep (kp _)⟩, at2.sv.len, at2.sv.fr, at2.sv.dj, fun i c hc => let ⟨xs, q⟩ := at2.sv.ls i c hc; ⟨xs, (kp [c]).lst _ _ q (.inr (.inr List.mem_cons_self))⟩⟩, at2.kp.trans (kp [])⟩ p2

/-! ### y = xs.pop() -/
theorem s_pop {y i : Nat} {st : Stmt} {o : Expr} (hps : ∀ {te : TE}, PE X (.Call (.Attribute o "pop" apos) [] [] cpos) te → PS X st (tAsg te (gName y))) (hv : PE X o (tVar i)) (hbase : attributeBase o "pop" X.env (eval o X.env) = eval o X.env) (hl : (apos.endLine == cpos.line) = true) :
    PS X st (RS X T W (.pop y i [])) := by
  refine PS.imp (hps (pe_bm0 PySem.F.plainAttrs_list PySem.F.slot_list_pop PySem.F.type_list_pop mt_pop hv hbase hl)) fun D σ H ⟨H0, G0, Gl, Hl, G, e, s, B, at', p⟩ => ?_
  have p : Post X.K H0 G0 (FR X.K H0 Gl Hl) W (QD D) (match ([] : List ME), e[i]? with
    | [], some (some (.lst .o xs)) => match xs.getLast? with
      | some v => if y < e.length ∧ y ≠ i ∧ (xs.all noO && nob v) = true then .ok (.nx ((e.set i (some (.lst .o xs.dropLast))).set y (some v))) s else .bad
      | none => .bad
    | _, _ => .bad) := p
  cases he : e[i]? with
  | none => rw [he] at p; exact False.elim p
  | some ox =>
  cases ox with
  | none => rw [he] at p; exact False.elim p
  | some x =>
  rw [he] at p
  obtain ⟨x0, h0, rv⟩ := at'.sv.rv i x he
  cases x <;> first
    | exact False.elim p
    | skip
  rename_i md xs
  cases md <;> first
    | exact False.elim p
    | skip
  dsimp only at p
  cases hg : xs.getLast? with
  | none => rw [hg] at p; exact False.elim p
  | some v =>
  rw [hg] at p
  dsimp only at p
  split at p
  case isFalse => exact False.elim p
  case isTrue hc =>
  obtain ⟨c1, c2, c3⟩ := hc
  rw [Bool.and_eq_true] at c3
  generalize hB : B i = Bi at rv
  cases rv with
  | lo e0 r0 =>
  rename_i c us Ai
  have hA : Ai = [] := noOs_own r0 c3.1
  subst hA
  obtain ⟨c', xs', ys, us', A2, w2, ec, rs, sub, nd, cC, kp, hf, fin⟩ := at'.mod (f := fun _ => some xs.dropLast) (p := []) (y := .lst .o xs.dropLast) he h0 rfl
  have hcc : c' = c := by
    have : wlk H (.ref c) [] = some c := by simp [wlk, e0]
    rw [w2] at this
    cases this; rfl
  subst hcc
  rw [e0] at ec
  cases ec
  cases hf
  have hlen := r0.length
  have hpos : 0 < xs.length := by
    cases xs with
    | nil => cases hg
    | cons a r => simp
  have hlast : xs[xs.length - 1]? = some v := by rw [← hg, List.getLast?_eq_getElem?]
  obtain ⟨vv, hvv, rvv⟩ := r0.get hlast
  have kH : Keep X.K G G H (upd H c' (.lst us.dropLast)) [] := kp [] (by simp) _
  have rd : RVs X.K G (upd H c' (.lst us.dropLast)) xs.dropLast us.dropLast [] := by
    have := (r0.take (xs.length - 1)).keep kH
    have h1 : xs.dropLast = xs.take (xs.length - 1) := List.dropLast_eq_take
    have h2 : us.dropLast = us.take (xs.length - 1) := by rw [hlen]; exact List.dropLast_eq_take
    generalize upd H c' (HO.lst us.dropLast) = H2 at this ⊢
    rw [h1, h2]
    exact this
  obtain ⟨B', at3, _⟩ := fin us.dropLast [] List.nodup_nil (fun _ h => nomatch h) Fr.nil (fun _ h => nomatch h) rd
  refine ⟨.ref c', h0, .inl ⟨rfl, us, .inl (.inl e0)⟩, c', us, vv, rfl, rfl, e0, by rw [← hlen]; exact hvv, ?_⟩
  exact At.nx (D := D) ⟨at3.nw, at3.sv.set (rvv.keep kH) Fr.nil (fun j _ x hx => by simp), at3.kp⟩ p
end
end Py
end

section
set_option maxHeartbeats 1000000
/-! PyZ: every statement that the check takes runs as PyA says. -/
namespace Py
open PySem L2 PyProof.Rows

def isVar : ME → Bool
  | .var _ => true
  | _ => false
def isLc : ME → Bool
  | .lc _ _ _ _ _ _ => true
  | _ => false
/-- two plain local names at once: 1 from the right, 2 by a constant tuple, 0 neither -/
def parK (sc : Scope) (x y : Str) (px py : Pos) (a b : Expr) : Nat :=
  if [a, b].all (foldedForSure 8) then 2
  else if !(sc.names.lookup x == some .local) || !(sc.names.lookup y == some .local) then 3
  else if (sc.kind == .function) && (sc.names.lookup x == some .local) && (sc.names.lookup y == some .local) && (py.line == px.line) && !(x == y) && !([a, b].all (constantsAlone 8)) then 1 else 0
def chkPl (M : Nm) (sc : Scope) : Pl → Expr → Bool
  | .v i, .Name x _ => atB M.N i x && locB sc x
  | .s i path ix, .Subscript o f _ => chkP M sc i path o && chk M sc ix f
  | _, _ => false
def chkPls (M : Nm) (sc : Scope) : List Pl → List Expr → Bool
  | [], [] => true
  | p :: ps, e :: es => chkPl M sc p e && chkPls M sc ps es
  | _, _ => false
/-- three plain local names on one line -/
def par3B (sc : Scope) : List Pl → List Expr → List Expr → Bool
  | [.v i, .v j, .v l], [.Name x px, .Name y py, .Name z pz], [a, b, c] => (sc.kind == .function) && (sc.names.lookup x == some .local) && (sc.names.lookup y == some .local) && (sc.names.lookup z == some .local) && (py.line == px.line) && (pz.line == px.line) && !(x == y) && !(x == z) && !(y == z) && !([a, b, c].all (foldedForSure 8)) && !([a, b, c].all (constantsAlone 8)) && decide (i ≠ j) && decide (i ≠ l) && decide (j ≠ l)
  | _, _, _ => false
section
variable (M : Nm)
mutual
def chkS (sc : Scope) : MS → Stmt → Bool
  | .asg i a, st => match st with
    | .Assign [.Name x _] e _ => atB M.N i x && locB sc x && chk M sc a e
    | _ => false
  | .unp tg a, st => match tg, st with
    | .t l, .Assign [tx] e _ => chkT M.N sc (.t l) tx && chk M sc a e && (match e with | .Tuple _ _ _ => false | _ => true)
    | _, _ => false
  | .par ps es, st => match ps, st with
    | [.v i, .v j], .Assign [.Tuple [.Name x px, .Name y py] _ _] (.Tuple [a, b] _ _) _ => atB M.N i x && atB M.N j y && locB sc x && locB sc y && decide (i ≠ j) && chks M sc es [a, b] && plainB es && parK sc x y px py a b != 0
    | ps, .Assign [.Tuple ts _ _] (.Tuple as _ _) _ => chkPls M sc ps ts && chks M sc es as && plainB es && decide (es.length = ts.length) && decide (ts.length ≤ 100) && (outB sc ts as || par3B sc ps ts as)
    | _, _ => false
  | .set i path ix a, st => match st with
    | .Assign [.Subscript o f _] e _ => chkP M sc i path o && chk M sc ix f && chk M sc a e
    | _ => false
  | .app i path a, st => match st with
    | .Expr (.Call (.Attribute o y apos) [e] [] cpos) _ => (y == ("append" : Str)) && chkP M sc i path o && chk M sc a e && (apos.endLine == cpos.line)
    | _ => false
  | .exp a, st => match st with
    | .Expr e _ => chk M sc a e && (match e with | .Call _ _ _ _ => true | _ => false)
    | _ => false
  | .ite c a b, st => match st with
    | .If e x y _ => tst c && chk M sc c e && chkSs sc a x && chkSs sc b y
    | _ => false
  | .for tg it bd, st => match st with
    | .For tx e x [] _ => chkT M.N sc tg tx && tgOk it tx && chki M sc it e && chkSs sc bd x
    | _ => false
  | .while c bd, st => match st with
    | .While e x [] _ => tst c && chk M sc c e && chkSs sc bd x
    | _ => false
  | .ret a, st => match st with
    | .Return (some e) _ => chk M sc a e
    | _ => false
  | .brk, st => match st with
    | .Break _ => true
    | _ => false
  | .cont, st => match st with
    | .Continue _ => true
    | _ => false
  | .pass, st => match st with
    | .Pass _ => true
    | _ => false
  | .ext i path a, st => match st with
    | .Expr (.Call (.Attribute o y apos) [e] [] cpos) _ => (y == ("extend" : Str)) && chkP M sc i path o && chk M sc a e && (apos.endLine == cpos.line)
    | _ => false
  | .pop y i path, st => match path, st with
    | [], .Assign [.Name x _] (.Call (.Attribute (.Name o _) nm apos) [] [] cpos) _ => (nm == ("pop" : Str)) && atB M.N y x && locB sc x && atB M.N i o && visB sc o && !(o == ("__debug__" : Str)) && !(o == ("__classdict__" : Str)) && (apos.endLine == cpos.line)
    | _, _ => false
  | .upd a b, st => match st with
    | .Expr (.Call (.Attribute o y apos) [e] [] cpos) _ => (y == ("update" : Str)) && nameB o && chk M sc a o && chk M sc b e && (apos.endLine == cpos.line)
    | _ => false
  | .fdi tg it i bd, st => match it, st with
    | false, .For tx (.Name o _) x [] _ => chkT M.N sc tg tx && atB M.N i o && visB sc o && !(o == ("__debug__" : Str)) && !(o == ("__classdict__" : Str)) && chkSs sc bd x
    | true, .For (.Tuple el kk tp) (.Call (.Attribute (.Name o _) nm apos) [] [] cpos) x [] _ => (nm == ("items" : Str)) && (apos.endLine == cpos.line) && chkT M.N sc tg (.Tuple el kk tp) && atB M.N i o && visB sc o && !(o == ("__debug__" : Str)) && !(o == ("__classdict__" : Str)) && chkSs sc bd x
    | _, _ => false
  | .raise _ _, _ => false
  | .shuf _ _, _ => false
  | .mov i j, st => match st with
    | .Assign [.Name x _] (.Name y _) _ => atB M.N i x && locB sc x && atB M.N j y && visB sc y && !(y == ("__debug__" : Str)) && !(y == ("__classdict__" : Str))
    | _ => false
  | .lnd _, _ => false
  | .ded, _ => true
  | .rem i path a, st => match st with
    | .Expr (.Call (.Attribute o y apos) [e] [] cpos) _ => (y == ("remove" : Str)) && chkP M sc i path o && chk M sc a e && (apos.endLine == cpos.line)
    | _ => false
def chkSs (sc : Scope) : List MS → List Stmt → Bool
  | [], x => x.isEmpty
  | .lnd _ :: ms, x => chkSs sc ms x
  | m :: ms, x => match x with
    | [] => false
    | st :: r => chkS sc m st && chkSs sc ms r
end
end

theorem chk_comp {M : Nm} {sc : Scope} {m : ME} {e : Expr} (h : chk M sc m e = true) (hl : isLc m = false) : (∀ a b c d, e ≠ .ListComp a b c d) ∧ (∀ a b c d, e ≠ .SetComp a b c d) ∧ (∀ a b c d f, e ≠ .DictComp a b c d f) := by
  refine ⟨fun a b c d z => ?_, fun a b c d z => ?_, fun a b c d f z => ?_⟩
  · subst z
    cases m <;> simp only [chk, Bool.false_eq_true] at h
    simp [isLc] at hl
  · subst z
    cases m <;> simp only [chk, Bool.false_eq_true] at h
  · subst z
    cases m <;> simp only [chk, Bool.false_eq_true] at h
theorem no_swap {M : Nm} {sc : Scope} {m : ME} {e : Expr} {o : Option Expr} {l : Nat} {env : PySem.Env} (h : chk M sc m e = true) (hl : isLc m = false) : swapsWith e o l env = pure false := by
  obtain ⟨h1, h2, h3⟩ := chk_comp h hl
  cases e <;> first
    | rfl
    | exact absurd rfl (h1 _ _ _ _)
    | exact absurd rfl (h2 _ _ _ _)
    | exact absurd rfl (h3 _ _ _ _ _)

/-- the context of a def's body -/
structure SX (M : Nm) (T : Tb) (k : Nat) (X : Cx) (W : XW) : Prop where
  px : PX T k X (VW W)
  nn : X.N = M.N
  sto : StoB X X.env.scope
  pas : PassesOwn (model X.prog X.w) X.A X.env X.xe
  blk : X.env.blockKind = .function

section
variable {M : Nm} {T : Tb} {k : Nat} {X : Cx} {W : XW}
theorem asg_any (lk : Lk M T) (sx : SX M T k X W) {a : ME} {i : Nat} {x : Str} {p pos : Pos} {ex : Expr} (h1 : atB M.N i x = true) (h2 : locB X.env.scope x = true) (h : chk M X.env.scope a ex = true) : PS X (.Assign [.Name x p] ex pos) (tAsg (RE X T (VW W) a) (gName i)) := by
  have px := sx.px
  have hN := sx.nn
  have hi : X.N[i]? = some x := by rw [hN]; simpa [atB] using h1
  obtain ⟨q1, q2⟩ := sx.sto x (locB_ok h2)
  have pe := (cE lk a X (VW W) ex px hN h).pe
  by_cases hl : isLc a = true
  case neg =>
    exact ps_set px.cx.nd hi q1 pe (no_swap h (by simpa using hl)) q2
  case pos =>
    cases a <;> simp only [isLc, Bool.false_eq_true] at hl
    rename_i tg own it hc c t
    have h0 := h
    simp only [chk] at h
    split at h
    case h_2 => cases h
    case h_1 elt g iter ifs scope pos1 =>
      simp only [Bool.and_eq_true] at h
      obtain ⟨⟨⟨⟨⟨⟨c1, c2⟩, c3⟩, c4⟩, c5⟩, c6⟩, c7⟩ := h
      have ok := blkB_ok c1
      rw [← hN] at ok c2
      have hsub : ∀ i ∈ tg.own, i ∈ own := fun i hi => List.contains_iff_mem.mp (List.all_eq_true.mp c3 i hi)
      have hit := cI lk it X (VW W) g iter px hN c5 c4
      have hg : ∀ (s : Shared) (H : Hp) (C : Addr) (cl : List (Str × Addr)) (fp : List Addr), PG (X.blk s H scope (compEnvC scope cl C X.env) fp) g (gT tg) := fun s H C cl fp => pgT (X := X.blk s H scope (compEnvC scope cl C X.env) fp) px.cx.cal px.cx.nd (.blk s H scope cl C fp) tg g c2
      have he : ∀ (s : Shared) (H : Hp) (C : Addr) (cl : List (Str × Addr)) (fp : List Addr), PE (X.blk s H scope (compEnvC scope cl C X.env) fp) elt (rdE X.K T.F V0 t) := fun s H C cl fp => (cE lk t (X.blk s H scope (compEnvC scope cl C X.env) fp) V0 elt (px.blk s H scope cl C fp) hN c7).pe
      have hb : ∃ b, swapsWith (.ListComp elt [⟨g, iter, ifs, 0⟩] scope pos1) (some (.Name x p)) pos.line X.env = pure b ∧ (b = true → X.env.scope.names.lookup x = some .local) := by
        refine ⟨_, rfl, fun hb => ?_⟩
        simp only [Bool.and_eq_true] at hb
        exact eq_of_beq hb.1.1.2
      obtain ⟨b, hb1, hb2⟩ := hb
      cases b with
      | false => exact ps_set px.cx.nd hi q1 pe hb1 q2
      | true =>
        cases hc with
        | false =>
          cases ifs with
          | cons _ _ => cases c6
          | nil =>
            have := ps_setLc (spos := pos) (pos := pos1) (py := p) (tt := tYes) px.cx.cal px.cx.nd hi (hb2 rfl) hb1 hit ok hg (fun _ _ _ _ _ => pts_nil) he (fold_pure (chki_set c5))
            rw [ownP_snd] at this
            exact PS.imp this fun D σ H q => lc_rd hsub q
        | true =>
          match ifs, c6 with
          | [f], c6 =>
            rw [Bool.and_eq_true] at c6
            have ht : ∀ (s : Shared) (H : Hp) (C : Addr) (cl : List (Str × Addr)) (fp : List Addr), PTs (X.blk s H scope (compEnvC scope cl C X.env) fp) [f] (rdT X.K T.F V0 c) := fun s H C cl fp => pts_one ((cE lk c (X.blk s H scope (compEnvC scope cl C X.env) fp) V0 f (px.blk s H scope cl C fp) hN c6.2).pt c6.1)
            have := ps_setLc (spos := pos) (pos := pos1) (py := p) px.cx.cal px.cx.nd hi (hb2 rfl) hb1 hit ok hg ht he (fold_pure (chki_set c5))
            rw [ownP_snd] at this
            exact PS.imp this fun D σ H q => lc_rd hsub q
theorem nst2 {m : Nm} {sc : Scope} {es : List ME} {a b : Expr} (h : chks m sc es [a, b] = true) (hp : plainB es = true) : ∀ e ∈ [a, b], noStar e := noStar_list h hp
theorem nm2 {X : Cx} {i j : Nat} {x y : Str} {px py : Pos} (hN : X.N.Nodup) (hi : X.N[i]? = some x) (hj : X.N[j]? = some y) (sx : StoB X X.env.scope) (lx : Loc X.env.scope x) (ly : Loc X.env.scope y) : PGs X [.Name x px, .Name y py] (gCons (gName i) (gCons (gName j) gNil)) := by
  obtain ⟨q1, q2⟩ := sx x lx
  obtain ⟨q3, q4⟩ := sx y ly
  exact pgs_cons (pg_name hN hi q1 q2) (pgs_cons (pg_name hN hj q3 q4) pgs_nil)
theorem pls_pg (lk : Lk M T) (sx : SX M T k X W) : ∀ (ps : List Pl) (ts : List Expr), chkPls M X.env.scope ps ts = true → PGs X ts (gPls X T W ps) ∧ (assignEach ts X.env).length = ts.length ∧ (assignEach ts X.env).findIdx? (·.1) = none
  | [], [], _ => ⟨pgs_nil, rfl, rfl⟩
  | p :: ps, e :: es, h => by
    simp only [chkPls, Bool.and_eq_true] at h
    obtain ⟨ih1, ih2, ih3⟩ := pls_pg lk sx ps es h.2
    have h1 := h.1
    cases p with
    | v i =>
      cases e <;> simp only [chkPl, Bool.false_eq_true] at h1
      rename_i x pos
      simp only [Bool.and_eq_true, atB, decide_eq_true_eq] at h1
      have hi : X.N[i]? = some x := by rw [sx.nn]; exact h1.1
      obtain ⟨q1, q2⟩ := sx.sto x (locB_ok h1.2)
      refine ⟨pgs_cons (pg_name sx.px.cx.nd hi q1 q2) ih1, ?_, ?_⟩
      · show (assignEach es X.env).length + 1 = _
        rw [ih2]; rfl
      · show List.findIdx? _ ((false, _) :: assignEach es X.env) = none
        rw [List.findIdx?_cons, ih3]; rfl
    | s i path ix =>
      cases e <;> simp only [chkPl, Bool.false_eq_true] at h1
      rename_i o f pos
      simp only [Bool.and_eq_true] at h1
      have h2 := k_path2 lk sx.px sx.nn h1.1
      have h3 := (cE lk ix X (VW W) f sx.px sx.nn h1.2).pe
      refine ⟨pgs_cons (pg_sub h2 h3 (set_any sx.px.cx) (fun v => by have ns := noSlice_chk h1.2; cases f <;> first | rfl | exact absurd rfl (ns _ _ _ _))) ih1, ?_, ?_⟩
      · show (assignEach es X.env).length + 1 = _
        rw [ih2]; rfl
      · show List.findIdx? _ ((false, _) :: assignEach es X.env) = none
        rw [List.findIdx?_cons, ih3]; rfl
  | [], _ :: _, h => by simp [chkPls] at h
  | _ :: _, [], h => by simp [chkPls] at h
mutual
theorem cS (lk : Lk M T) (sx : SX M T k X W) : ∀ (m : MS) (st : Stmt), chkS M X.env.scope m st = true → PS X st (RS X T W m)
  | .asg i a, st, h => by
    simp only [chkS] at h
    split at h
    · simp only [Bool.and_eq_true] at h
      exact s_asg (asg_any lk sx h.1.1 h.1.2 h.2)
    · cases h
  | .unp tg a, st, h => by
    simp only [chkS] at h
    split at h
    · simp only [Bool.and_eq_true] at h
      obtain ⟨⟨h1, h2⟩, h3⟩ := h
      rw [← sx.nn] at h1
      refine s_unp (ps_asg (cE lk a X (VW W) _ sx.px sx.nn h2).pe (pgT sx.px.cx.cal sx.px.cx.nd sx.sto _ _ h1) ?_ ?_ ?_)
      · rename_i tx e pos
        cases tx <;> simp only [chkT, Bool.false_eq_true] at h1
        cases e <;> rfl
      · rename_i tx e pos
        cases tx <;> simp only [chkT, Bool.false_eq_true] at h1
        cases e <;> first | rfl | cases h3
      · rename_i tx e pos
        cases tx <;> simp only [chkT, Bool.false_eq_true] at h1
        rfl
    · cases h
  | .par ps es, st, h => by
    simp only [chkS] at h
    split at h
    · rename_i i j x px y py kt pt a b k2 pt2 pos
      simp only [Bool.and_eq_true, decide_eq_true_eq] at h
      obtain ⟨⟨⟨⟨⟨⟨⟨h1, h2⟩, h3⟩, h4⟩, h5⟩, h6⟩, h7⟩, h8⟩ := h
      have hi : X.N[i]? = some x := by rw [sx.nn]; simpa [atB] using h1
      have hj : X.N[j]? = some y := by rw [sx.nn]; simpa [atB] using h2
      have pa := cA lk es X (VW W) [a, b] sx.px sx.nn h6
      have ns := nst2 h6 h7
      unfold parK at h8
      split at h8
      · rename_i hf
        exact s_parT (ps_asg (pe_tup pa) (pg_tup sx.px.cx.cal (nm2 sx.px.cx.nd hi hj sx.sto (locB_ok h3) (locB_ok h4))) rfl (swapC2 hf ns))
      · rename_i hf
        split at h8
        · rename_i hc
          have hc' : ¬ (X.env.kindOf x = some .local) ∨ ¬ (X.env.kindOf y = some .local) := by
            rw [Bool.or_eq_true, Bool.not_eq_true', Bool.not_eq_true'] at hc
            exact hc.imp (fun q z => by
              have z : X.env.scope.names.lookup x = some .local := z
              rw [z] at q; cases q) fun q z => by
              have z : X.env.scope.names.lookup y = some .local := z
              rw [z] at q; cases q
          exact s_parT (ps_asg (pe_tup pa) (pg_tup sx.px.cx.cal (nm2 sx.px.cx.nd hi hj sx.sto (locB_ok h3) (locB_ok h4))) rfl (swapN2 hc' ns))
        split at h8
        · rename_i hc
          simp only [Bool.and_eq_true, Bool.not_eq_true'] at hc
          obtain ⟨⟨⟨⟨⟨d1, d2⟩, d3⟩, d4⟩, d5⟩, d6⟩ := hc
          have hxy : x ≠ y := beq_eq_false_iff_ne.mp d5
          exact s_par2 (ps_par sx.px.cx.cal sx.px.cx.nd hi hj h5 (eq_of_beq d2) (eq_of_beq d3) pa (swap2 sx.blk (eq_of_beq d2) (eq_of_beq d3) (eq_of_beq d4) hxy ns (by simpa using hf) d6))
        · exact absurd h8 (by decide)
    · rename_i ts kt pt as k2 pt2 pos hneg
      simp only [Bool.and_eq_true, decide_eq_true_eq] at h
      obtain ⟨⟨⟨⟨⟨h1, h2⟩, h3⟩, h4⟩, h5⟩, h6⟩ := h
      have pa := cA lk es X (VW W) as sx.px sx.nn h2
      have ns := noStar_list h2 h3
      obtain ⟨pg, l1, l2⟩ := pls_pg lk sx ps ts h1
      by_cases ho : outB X.env.scope ts as = true
      · exact s_parG lk sx.px h4 h5 h3 (ps_asg (pe_tup pa) (pg_tup sx.px.cx.cal pg l1 l2) rfl (swapG ns ho))
      · have h6 : par3B X.env.scope ps ts as = true := by
          rw [Bool.or_eq_true] at h6
          exact h6.resolve_left ho
        unfold par3B at h6
        split at h6
        · rename_i i j l x px y py z pz a b c hh
          simp only [Bool.and_eq_true, Bool.not_eq_true', decide_eq_true_eq] at h6
          obtain ⟨⟨⟨⟨⟨⟨⟨⟨⟨⟨⟨⟨⟨d1, d2⟩, d3⟩, d4⟩, d5⟩, d6⟩, d7⟩, d8⟩, d9⟩, e1⟩, e2⟩, e3⟩, e4⟩, e5⟩ := h6
          simp only [chkPls, chkPl, Bool.and_eq_true, atB, decide_eq_true_eq] at h1
          have hi : X.N[i]? = some x := by rw [sx.nn]; exact h1.1.1
          have hj : X.N[j]? = some y := by rw [sx.nn]; exact h1.2.1.1
          have hl : X.N[l]? = some z := by rw [sx.nn]; exact h1.2.2.1.1
          have hxy : x ≠ y := beq_eq_false_iff_ne.mp d7
          have hxz : x ≠ z := beq_eq_false_iff_ne.mp d8
          have hyz : y ≠ z := beq_eq_false_iff_ne.mp d9
          exact s_par3 lk sx.px (ps_par3 sx.px.cx.cal sx.px.cx.nd hi hj hl e3 e4 e5 (eq_of_beq d2) (eq_of_beq d3) (eq_of_beq d4) pa (swap3 sx.blk (eq_of_beq d2) (eq_of_beq d3) (eq_of_beq d4) (eq_of_beq d5) (eq_of_beq d6) hxy hxz hyz ns (by simpa using e1) e2))
        · cases h6
    · cases h
  | .set i path ix a, st, h => by
    simp only [chkS] at h
    split at h
    · simp only [Bool.and_eq_true] at h
      exact s_set lk sx.px sx.nn h.1.1 h.1.2 h.2
    · cases h
  | .app i path a, st, h => by
    simp only [chkS] at h
    split at h
    · simp only [Bool.and_eq_true] at h
      obtain ⟨⟨⟨h1, h2⟩, h3⟩, h4⟩ := h
      obtain rfl := eq_of_beq h1
      exact s_app lk sx.px sx.nn h2 h3 h4
    · cases h
  | .exp a, st, h => by
    simp only [chkS] at h
    split at h
    · rename_i e pos
      simp only [Bool.and_eq_true] at h
      refine s_exp (cE lk a X (VW W) _ sx.px sx.nn h.1).pe ?_
      have h2 := h.2
      cases e <;> first | rfl | cases h2
    · cases h
  | .ite c a b, st, h => by
    simp only [chkS] at h
    split at h
    · simp only [Bool.and_eq_true] at h
      exact s_ite ((cE lk c X (VW W) _ sx.px sx.nn h.1.1.2).pt h.1.1.1) (cSs lk sx a _ h.1.2) (cSs lk sx b _ h.2)
    · cases h
  | .for tg it bd, st, h => by
    simp only [chkS] at h
    split at h
    · simp only [Bool.and_eq_true] at h
      obtain ⟨⟨⟨h1, h2⟩, h3⟩, h4⟩ := h
      rw [← sx.nn] at h1
      exact s_for sx.pas sx.px.cx.cal (cI lk it X (VW W) _ _ sx.px sx.nn h3 h2) (pgT sx.px.cx.cal sx.px.cx.nd sx.sto _ _ h1) (cSs lk sx bd _ h4) (fold_pure (chki_set h3))
    · cases h
  | .while c bd, st, h => by
    simp only [chkS] at h
    split at h
    · simp only [Bool.and_eq_true] at h
      exact s_while sx.pas ((cE lk c X (VW W) _ sx.px sx.nn h.1.2).pt h.1.1) (cSs lk sx bd _ h.2)
    · cases h
  | .ret a, st, h => by
    simp only [chkS] at h
    split at h
    · by_cases hv : ∃ i, a = .var i
      · obtain ⟨i, rfl⟩ := hv
        simp only [chk] at h
        split at h
        · simp only [Bool.and_eq_true, atB, decide_eq_true_eq, Bool.not_eq_true'] at h
          exact s_retv (by rw [sx.nn]; exact h.1.1.1) (visB_ok h.1.1.2) h.1.2 h.2
        · cases h
      · exact s_ret (fun i z => hv ⟨i, z⟩) (cE lk a X (VW W) _ sx.px sx.nn h).pe
    · cases h
  | .brk, st, h => by
    simp only [chkS] at h
    split at h
    · exact s_brk
    · cases h
  | .cont, st, h => by
    simp only [chkS] at h
    split at h
    · exact s_cont
    · cases h
  | .pass, st, h => by
    simp only [chkS] at h
    split at h
    · exact s_pass
    · cases h
  | .ext i path a, st, h => by
    simp only [chkS] at h
    split at h
    · simp only [Bool.and_eq_true] at h
      obtain ⟨⟨⟨h1, h2⟩, h3⟩, h4⟩ := h
      obtain rfl := eq_of_beq h1
      exact s_ext lk sx.px sx.nn h2 h3 h4
    · cases h
  | .pop y i path, st, h => by
    simp only [chkS] at h
    split at h
    · rename_i x px o po nm apos cpos pos
      simp only [Bool.and_eq_true, Bool.not_eq_true'] at h
      obtain ⟨⟨⟨⟨⟨⟨⟨h1, h2⟩, h3⟩, h4⟩, h5⟩, h6⟩, h7⟩, h8⟩ := h
      obtain rfl := eq_of_beq h1
      have hi : X.N[y]? = some x := by rw [sx.nn]; simpa [atB] using h2
      have hj : X.N[i]? = some o := by rw [sx.nn]; simpa [atB] using h4
      obtain ⟨q1, q2⟩ := sx.sto x (locB_ok h3)
      exact s_pop (fun he => ps_set sx.px.cx.nd hi q1 he rfl q2) (pe_var hj (visB_ok h5) h6 h7) rfl h8
    · cases h
  | .rem i path a, st, h => by
    simp only [chkS] at h
    split at h
    · simp only [Bool.and_eq_true] at h
      obtain ⟨⟨⟨h1, h2⟩, h3⟩, h4⟩ := h
      obtain rfl := eq_of_beq h1
      exact s_rem lk sx.px sx.nn h2 h3 h4
    · cases h
  | .upd a b, st, h => by
    simp only [chkS] at h
    split at h
    · rename_i o y apos e cpos pos
      simp only [Bool.and_eq_true] at h
      obtain ⟨⟨⟨⟨h1, h2⟩, h3⟩, h4⟩, h5⟩ := h
      obtain rfl := eq_of_beq h1
      exact s_upd lk sx.px sx.nn (by cases o <;> first | rfl | cases h2) h3 h4 h5
    · cases h
  | .fdi tg it i bd, st, h => by
    simp only [chkS] at h
    split at h
    · rename_i tx o po x pos
      simp only [Bool.and_eq_true, Bool.not_eq_true'] at h
      obtain ⟨⟨⟨⟨⟨h1, h2⟩, h3⟩, h4⟩, h5⟩, h6⟩ := h
      rw [← sx.nn] at h1
      have hj : X.N[i]? = some o := by rw [sx.nn]; simpa [atB] using h2
      exact s_fdk sx.pas sx.px.cx.cal (pe_var hj (visB_ok h3) h4 h5) (pgT sx.px.cx.cal sx.px.cx.nd sx.sto _ _ h1) (cSs lk sx bd _ h6) (fun _ => rfl)
    · rename_i el kk tp o po nm apos cpos x pos
      simp only [Bool.and_eq_true, Bool.not_eq_true'] at h
      obtain ⟨⟨⟨⟨⟨⟨⟨h0, hl⟩, h1⟩, h2⟩, h3⟩, h4⟩, h5⟩, h6⟩ := h
      obtain rfl := eq_of_beq h0
      rw [← sx.nn] at h1
      have hj : X.N[i]? = some o := by rw [sx.nn]; simpa [atB] using h2
      exact s_fdv sx.pas sx.px.cx.cal (pe_var hj (visB_ok h3) h4 h5) (pgT sx.px.cx.cal sx.px.cx.nd sx.sto _ _ h1) (cSs lk sx bd _ h6) rfl hl (fun _ => rfl)
    · cases h
  | .raise _ _, st, h => by simp only [chkS, Bool.false_eq_true] at h
  | .shuf _ _, st, h => by simp only [chkS, Bool.false_eq_true] at h
  | .lnd _, st, h => by simp only [chkS, Bool.false_eq_true] at h
  | .ded, st, h => ⟨fun pins s σ H D I ⟨_, _, _, _, _, _, _, _, _, p⟩ => False.elim p⟩
  | .mov i j, st, h => by
    simp only [chkS] at h
    split at h
    · rename_i x px y py pos
      simp only [Bool.and_eq_true, Bool.not_eq_true'] at h
      obtain ⟨⟨⟨⟨⟨h1, h2⟩, h3⟩, h4⟩, h5⟩, h6⟩ := h
      have hi : X.N[i]? = some x := by rw [sx.nn]; simpa [atB] using h1
      have hj : X.N[j]? = some y := by rw [sx.nn]; simpa [atB] using h3
      obtain ⟨q1, q2⟩ := sx.sto x (locB_ok h2)
      exact s_mov (fun σ H Q x0 e q => ⟨x0, e, q⟩) (ps_set sx.px.cx.nd hi q1 (pe_var hj (visB_ok h4) h5 h6) rfl q2)
    · cases h
theorem cSs (lk : Lk M T) (sx : SX M T k X W) : ∀ (ms : List MS) (x : List Stmt), chkSs M X.env.scope ms x = true → PSs X x (RSs X T W ms)
  | [], x, h => by
    simp only [chkSs, List.isEmpty_iff] at h
    subst h
    exact s_nil
  | .lnd i :: ms, x, h => s_lnd (cSs lk sx ms x (by simpa only [chkSs] using h))
  | m :: ms, x, h => by
    by_cases hl : ∃ i, m = .lnd i
    · obtain ⟨i, rfl⟩ := hl
      exact s_lnd (cSs lk sx ms x (by simpa only [chkSs] using h))
    cases x with
    | nil => cases m <;> first | exact absurd ⟨_, rfl⟩ hl | (simp [chkSs] at h)
    | cons st r =>
      have h : (chkS M X.env.scope m st && chkSs M X.env.scope ms r) = true := by
        cases m <;> first | exact absurd ⟨_, rfl⟩ hl | exact h
      rw [Bool.and_eq_true] at h
      exact s_cons (cS lk sx m st h.1) (cSs lk sx ms r h.2)
end
end
end Py
end

section
set_option maxHeartbeats 1000000
/-! PyZ2: defs, by induction on the depth of calls. -/
namespace Py
open PySem L2 PyProof.Rows

section
variable {K : W.Frag} {G G1 : Gh} {H : Hp}
/-- the dicts that came later are forgotten -/
def Gh.trim (G : Gh) (n : Nat) : Gh := { G with ds := G.ds.take n }
mutual
theorem RV.trim {n : Nat} : ∀ {v : PV} {x : V} {A : List Addr}, RV K G H v x A → topD v ≤ n → RV K (G.trim n) H v x A
  | _, _, _, .non, _ => .non
  | _, _, _, .bl b, _ => .bl b
  | _, _, _, .int i, _ => .int i
  | _, _, _, .str x, _ => .str x
  | _, _, _, .tup h r, k => .tup h (RVs.trim r (by simpa only [topD] using k))
  | _, _, _, .lf h f r, k => .lf h f (RVs.trim r (by simpa only [topD] using k))
  | _, _, _, .lb h f r, k => .lb h f (RVs.trim r (by simpa only [topD] using k))
  | _, _, _, .lt h f r, k => .lt h f (RVs.trim r (by simpa only [topD] using k))
  | _, _, _, .lo h r, k => .lo h (RVs.trim r (by simpa only [topD] using k))
  | _, _, _, .dct h, k => .dct (by
      simp only [topD] at k
      show (G.ds.take n)[_]? = _
      rw [List.getElem?_take, if_pos (by omega)]
      exact h)
  | _, _, _, .src h, k => .src h
  | _, _, _, .scr, k => .scr
theorem RVs.trim {n : Nat} : ∀ {v : List PV} {x : List V} {A : List Addr}, RVs K G H v x A → topDs v ≤ n → RVs K (G.trim n) H v x A
  | _, _, _, .nil, _ => .nil
  | _, _, _, .cons h r, k => by
    simp only [topDs] at k
    exact .cons (RV.trim h (by omega)) (RVs.trim r (by omega))
end
theorem key_top {x : PV} {q : Key} {A : List Addr} (h : RV K G H x (kV q) A) : topD x = 0 := by
  cases q <;> (cases h; simp only [topD])
theorem keys_top : ∀ {xs : List PV} {q : List Key} {A : List Addr}, RVs K G H xs (q.map kV) A → topDs xs = 0
  | [], _, _, _ => by simp only [topDs]
  | x :: xs, [], _, h => by cases h
  | x :: xs, q :: qs, _, h => by
    cases h with
    | cons h r => simp only [topDs, key_top h, keys_top r, Nat.max_self]
theorem SR.trim {s : Py.St} {n : Nat} (r : SR K G H s) (h : (s.ds.take n).all (fun d => d.all fun p => decide (topD p.1 ≤ n) && decide (topD p.2 ≤ n)) = true) : SR K (G.trim n) H { s with ds := s.ds.take n } where
  len := by show (s.ds.take n).length = (G.ds.take n).length; rw [List.length_take, List.length_take, r.len]
  nd := List.Nodup.sublist (List.take_sublist _ _) r.nd
  dat := fun m d a e1 e2 => by
    have e1 : (s.ds.take n)[m]? = some d := e1
    have e2 : (G.ds.take n)[m]? = some a := e2
    have all := List.all_eq_true.mp h d (List.mem_of_getElem? e1)
    have top : ∀ p ∈ d, topD p.1 ≤ n ∧ topD p.2 ≤ n := fun p hp => by
      have := List.all_eq_true.mp all p hp
      simpa only [Bool.and_eq_true, decide_eq_true_eq] using this
    rw [List.getElem?_take] at e1 e2
    split at e1
    case isFalse => cases e1
    case isTrue hm =>
      rw [if_pos hm] at e2
      cases r.dat m d a e1 e2 with
      | k e q => exact .k e (Paired.mem q fun p hp b w => ⟨w.1.trim (top p hp).1, w.2.trim (top p hp).2⟩)
      | t e q => exact .t e (Paired.mem q fun p hp b ⟨⟨ks, e1, w1⟩, w2⟩ => ⟨⟨ks, e1, w1.trim (by rw [keys_top w1]; exact Nat.zero_le _)⟩, w2.trim (top p hp).2⟩)
      | fk e q => exact .fk e (Paired.mem q fun p hp b w => ⟨w.1.trim (top p (List.mem_cons_of_mem _ hp)).1, w.2.trim (top p (List.mem_cons_of_mem _ hp)).2⟩)
      | ft e q => exact .ft e (Paired.mem q fun p hp b ⟨⟨ks, e1, w1⟩, w2⟩ => ⟨⟨ks, e1, w1.trim (by rw [keys_top w1]; exact Nat.zero_le _)⟩, w2.trim (top p (List.mem_cons_of_mem _ hp)).2⟩)
  fl := r.fl
  tl := r.tl
  ft := r.ft
  op := r.op
  si := fun a c e => let ⟨x, y, z⟩ := r.si a c e; ⟨x, fun q => y (List.mem_of_mem_take q), z⟩
  sc := r.sc
  nb := fun d hd => r.nb d (List.mem_of_mem_take hd)
theorem Le.trimmed {H0 : Hp} {G0 G' : Gh} {n : Nat} (l0 : Le H0 G0 G) (l : Le H G G') (p : ∀ x, H x = none → H0 x = none) (hn : n = G.ds.length) : Le H0 G0 (G'.trim n) := by
  have l2 := l0.trans p l
  obtain ⟨m, e⟩ := l.ds
  have ed : (G'.trim n).ds = G.ds := by show G'.ds.take n = _; rw [e, hn, List.take_left']; rfl
  refine ⟨l2.fz, l2.tz, ?_, l2.sr, l2.sc, l2.nf, l2.nt, fun a h => ?_⟩
  · rw [ed]; exact l0.ds
  · rw [ed] at h; exact l0.nd a h
end

/-- the tables at a depth -/
def Tb.deep (T : Tb) (P : List Fn) (n : Nat) : Tb := { T with F := run P n }

section
variable {P : Program} {w : World} {K : W.Frag} {mg : Str → Option Value} {base : Heap}
theorem trim_end {α : Type} {H0 H H' : Hp} {G0 G G' : Gh} {s s' : Py.St} {v : PV} {y : V} {C : List Addr} {W : XW} {Q : VK} (n0 : Nw K H0 G0 H G s) (n1 : Nw K H G H' G' s') (rv : RV K G' H' v y C) (fc : Fr H G' C) (p : Post K H0 G0 (RV K) W Q (.ok v (trim s.ds.length v s'))) : Q y H' := by
  unfold trim at p
  split at p
  · rename_i h
    obtain ⟨h1, h2⟩ := h
    have l := Le.trimmed n0.le n1.le n0.pr.dom n0.sr.len
    exact p (G'.trim s.ds.length) y H' C l (n0.trans n1).pr (n1.sr.trim h2) (rv.trim h1) ⟨fc.nd, fun a h => n0.pr.dom a (fc.new a h), fc.nf, fc.nt, fc.nc⟩
  · exact p.at (n0.trans n1) rv (fc.back n0.pr.dom)

theorem start_get {N : List Str} {vs : List V} {i : Nat} (h : i < vs.length) : (L2.start N vs)[i]? = some (some vs[i]) := by
  unfold L2.start
  rw [List.getElem?_append_left (by simpa using h)]
  simp [h]

/-- a def's body keeps what PyA says of it -/
theorem fn_body {M : Nm} {T : Tb} {k : Nat} {D : Fn} {prog : List Fn} {n : Nat} {N ps : List Str} {qual : Str} {scope : Scope} {body : List Stmt} {f : Addr} {cdv : Value} {fi : Nat} (lkp : Lk M T) (hd : prog[fi]? = some D) (S : FnScope N ps scope) (hN : M.N = N) (hps : D.ps = ps.length) (hns : D.ns = N.length)
    (hck : chkSs M scope D.body body = true)
    (hpx : ∀ (A : Around) (outer : List PySem.Env) (s : Shared) (H : Hp) (E : XK) (W : XW), Room k (A.deeper (envOfC qual scope s.heap.objs.size f cdv)) → A.guards = some [] → (∀ cls d H', EofW (T.deep prog n) W cls d H' → E cls d H') → PX (T.deep prog n) k (cxOf (L2.CX P w) P w K mg base N qual scope f cdv A outer s H E) (VW W))
    (A : Around) (outer : List PySem.Env) (s : Shared) (H : Hp) (vs : List V) (Q : VK) (E : XK) (hr : Room k (A.deeper (envOfC qual scope s.heap.objs.size f cdv))) (hg : A.guards = some []) (h : spF K (T.deep prog (n + 1)) fi ps.length vs H Q E) :
    ∃ t, PSs (cxOf (L2.CX P w) P w K mg base N qual scope f cdv A outer s H E) body t ∧ t { nx := fun _ H' => Q .non H', rt := Q } (L2.start N vs) H := by
  obtain ⟨hl, W, H0, G0, G, as, st, nw, rv, p, hE⟩ := h
  have px := hpx A outer s H E W hr hg hE
  have sx : SX M (T.deep prog n) k (cxOf (L2.CX P w) P w K mg base N qual scope f cdv A outer s H E) W := by
    refine ⟨px, hN.symm, fun x hx => ⟨hx, .inl rfl⟩, passes_of rfl, ?_⟩
    show (if scope.kind.isAnnotationScope then ScopeKind.function else scope.kind) = .function
    rw [S.kind]
    rfl
  have lk' : Lk M (T.deep prog n) := ⟨lkp.fn, lkp.cn, lkp.pk, lkp.op⟩
  have bd := cSs lk' sx D.body body hck
  refine ⟨_, bd, ?_⟩
  have p : Post K H0 G0 (RV K) W Q (match prog[fi]? with | some d => callB d (run prog n) as st | none => .bad) := p
  rw [hd] at p
  have p : Post K H0 G0 (RV K) W Q (if as.length = D.ps then (exs (run prog n) D.body (as.map some ++ List.replicate (D.ns - D.ps) none) st).bind fun f s1 => match f with
    | .nx _ => .ok .non (trim st.ds.length .non s1)
    | .rt v => .ok v (trim st.ds.length v s1)
    | _ => .bad else .bad) := p
  have hla : as.length = D.ps := by rw [hps, ← hl]; exact rv.length
  rw [if_pos hla] at p
  have hpl : ps.length ≤ N.length := by have := congrArg List.length S.pre; rw [List.length_take] at this; omega
  refine ⟨H, G, G, H, G, _, st, fun _ => [], ⟨Nw.refl nw.sr, ⟨fun i v hv => ?_, ?_, fun _ => Fr.nil, fun _ _ _ a ha => by simp at ha, fun _ a ha => by simp at ha⟩, Keep.refl⟩, Post.mono (fun y H' ⟨fl, s', G', A', n', ⟨hA, kp, fr⟩, _, q⟩ => ?_) (Post.bind (rel := FR K H G H) nw.le nw.pr p)⟩
  · by_cases hi : i < as.length
    · rw [List.getElem?_append_left (by simpa using hi)] at hv
      simp only [List.getElem?_map] at hv
      have hx : as[i]? = some v := by
        cases hq : as[i]? with
        | none => rw [hq] at hv; cases hv
        | some u => rw [hq] at hv; cases hv; rfl
      obtain ⟨x, hx', r⟩ := rv.get hx
      have hiv : i < vs.length := (List.getElem?_eq_some_iff.mp hx').1
      refine ⟨x, ?_, r⟩
      rw [start_get hiv]
      have := List.getElem?_eq_getElem hiv
      rw [hx'] at this
      cases this
      rfl
    · rw [List.getElem?_append_right (by simpa using hi)] at hv
      rw [List.getElem?_replicate] at hv
      split at hv <;> cases hv
  · have e1 : (L2.start N vs).length = vs.length + (N.length - vs.length) := by simp [L2.start]
    rw [e1]
    simp only [List.length_append, List.length_map, List.length_replicate]
    have := rv.length
    omega
  · cases fl <;> cases y <;> first
      | exact False.elim fr
      | exact False.elim q
      | skip
    · exact trim_end (α := Unit) nw n' .non Fr.nil q
    · obtain ⟨C, r, f⟩ := fr
      exact trim_end (α := Unit) nw n' r f q
end
end Py
end

section
set_option maxHeartbeats 1000000
/-! PyZ3: a whole program: every def at every depth. -/
namespace Py
open PySem L2 PyProof.Rows

/-- a def as the module holds it -/
structure Df where
  name : Str
  at' : Addr
  fd : FuncData
  ps : List Str
  N : List Str
  st : Stmt
/-- what is told of a def of the module -/
structure DfOk (K : W.Frag) (mg : Str → Option Value) (d : Df) : Prop where
  fn : Fun K d.name d.name d.st d.at' d.fd
  bd : Binds K d.fd d.ps []
  mg : mg d.name = some (.ref d.at')
  db : (d.name == ("__debug__" : Str)) = false
  sc : FnScope d.N d.ps (defScope d.st)
def Df.row (d : Df) : Str × Addr × FuncData × List Str := (d.name, d.at', d.fd, d.ps)

/-- a module: its defs, their terms, its draws -/
structure Prg where
  defs : List Df
  prog : List Fn
  cons : List (Str × Int)
  picks : List Df
  opens : List Df
  cls : Nat → Value
  fld : Nat → Option Str
def Prg.tb (p : Prg) (n : Nat) : Tb := ⟨p.defs.map Df.row, p.cons, run p.prog n, p.picks.map Df.row, p.opens.map Df.row, p.cls, p.fld⟩
def Prg.nm (p : Prg) (N : List Str) : Nm := ⟨N, p.defs.map (·.name), p.cons, p.picks.map (·.name), p.opens.map (·.name)⟩
theorem Prg.lk (p : Prg) (N : List Str) (n : Nat) : Lk (p.nm N) (p.tb n) := by
  refine ⟨fun f x h => ?_, fun q h => List.contains_iff_mem.mp h, fun x h => ?_, fun x h => ?_⟩
  · have h : (p.defs.map (·.name))[f]? = some x := h
    rw [List.getElem?_map] at h
    cases hd : p.defs[f]? with
    | none => rw [hd] at h; cases h
    | some d =>
      rw [hd] at h
      cases h
      exact ⟨d.row, by show (p.defs.map Df.row)[f]? = _; rw [List.getElem?_map, hd]; rfl, rfl⟩
  · obtain ⟨d, hd, rfl⟩ := List.mem_map.mp (List.contains_iff_mem.mp h)
    exact ⟨d.row, List.mem_map.mpr ⟨d, hd, rfl⟩, rfl⟩
  · obtain ⟨d, hd, rfl⟩ := List.mem_map.mp (List.contains_iff_mem.mp h)
    exact ⟨d.row, List.mem_map.mpr ⟨d, hd, rfl⟩, rfl⟩

/-- what a def's term asks: its check, its numbers -/
def Prg.chkD (p : Prg) (d : Df) (f : Fn) : Bool := chkSs (p.nm d.N) (defScope d.st) f.body (defBody d.st) && decide (f.ps = d.ps.length) && decide (f.ns = d.N.length)
def Prg.chkA (p : Prg) : List Df → List Fn → Bool
  | [], [] => true
  | d :: ds, f :: fs => p.chkD d f && Prg.chkA p ds fs
  | _, _ => false
theorem Prg.chkA_at {p : Prg} : ∀ {ds : List Df} {fs : List Fn}, p.chkA ds fs = true → ∀ (i : Nat) (d : Df), ds[i]? = some d → ∃ f, fs[i]? = some f ∧ p.chkD d f = true
  | [], [], _, i, d, h => by simp at h
  | d :: ds, f :: fs, h, 0, e, he => by
    simp only [Prg.chkA, Bool.and_eq_true] at h
    simp only [List.getElem?_cons_zero, Option.some.injEq] at he
    subst he
    exact ⟨f, rfl, h.1⟩
  | d :: ds, f :: fs, h, i + 1, e, he => by
    simp only [Prg.chkA, Bool.and_eq_true] at h
    exact Prg.chkA_at h.2 i e (by simpa using he)
  | [], _ :: _, h, _, _, _ => by simp [Prg.chkA] at h
  | _ :: _, [], h, _, _, _ => by simp [Prg.chkA] at h

/-- the same, without the addresses -/
structure Sd where
  ps : List Str
  N : List Str
  st : Stmt
def Df.sd (d : Df) : Sd := ⟨d.ps, d.N, d.st⟩
def chkG (fn : List Str) (cn : List (Str × Int)) (pk op : List Str) : List Sd → List Fn → Bool
  | [], [] => true
  | d :: ds, f :: fs => (chkSs ⟨d.N, fn, cn, pk, op⟩ (defScope d.st) f.body (defBody d.st) && decide (f.ps = d.ps.length) && decide (f.ns = d.N.length)) && chkG fn cn pk op ds fs
  | _, _ => false
theorem Prg.chkA_stat (p : Prg) : ∀ (ds : List Df) (fs : List Fn), p.chkA ds fs = chkG (p.defs.map (·.name)) p.cons (p.picks.map (·.name)) (p.opens.map (·.name)) (ds.map Df.sd) fs
  | [], [] => rfl
  | d :: ds, f :: fs => by
    show (p.chkD d f && p.chkA ds fs) = _
    rw [Prg.chkA_stat p ds fs]
    rfl
  | [], _ :: _ => rfl
  | _ :: _, [] => rfl

/-- a module that stands -/
structure PrgOk (P : Program) (w : World) (K : W.Frag) (mg : Str → Option Value) (base : Heap) (p : Prg) : Prop where
  defs : ∀ d ∈ p.defs, DfOk K mg d
  chk : ∀ (i : Nat) (d : Df), p.defs[i]? = some d → ∃ f, p.prog[i]? = some f ∧ f.ps = d.ps.length ∧ (p.chkD d f = true ∨ ∀ n, FnI P w K mg base (n + 3) d.at' d.fd d.ps (spF K (p.tb (n + 1)) i d.ps.length))
  picks : ∀ d ∈ p.picks, DfOk K mg d ∧ FnI P w K mg base 2 d.at' d.fd d.ps (spP K)
  opens : ∀ d ∈ p.opens, DfOk K mg d ∧ FnI P w K mg base 2 d.at' d.fd d.ps (spO K)
  cons : ∀ q ∈ p.cons, (∃ t, mg q.1 = some (.int q.2 t)) ∧ (q.1 == ("__debug__" : Str)) = false
  blt : ∀ x ∈ bltNames, mg x = none
section
variable {P : Program} {w : World} {K : W.Frag} {mg : Str → Option Value} {base : Heap} {p : Prg}
theorem chk_of {p : Prg} (h : p.chkA p.defs p.prog = true) : ∀ (i : Nat) (d : Df), p.defs[i]? = some d → ∃ f, p.prog[i]? = some f ∧ f.ps = d.ps.length ∧ (p.chkD d f = true ∨ ∀ n, FnI P w K mg base (n + 3) d.at' d.fd d.ps (spF K (p.tb (n + 1)) i d.ps.length)) := fun i d hd => by
  obtain ⟨f, h1, h2⟩ := Prg.chkA_at h i d hd
  refine ⟨f, h1, ?_, .inl h2⟩
  simp only [Prg.chkD, Bool.and_eq_true, decide_eq_true_eq] at h2
  exact h2.1.2
theorem run_zero (prog : List Fn) (f : Nat) (as : List PV) (s : Py.St) : run prog 0 f as s = .bad := by cases s; rfl
/-- every def at every depth -/
theorem all_fns (ok : PrgOk P w K mg base p) : ∀ (n i : Nat) (d : Df), p.defs[i]? = some d → FnI P w K mg base (n + 2) d.at' d.fd d.ps (spF K (p.tb n) i d.ps.length)
  | 0, i, d, hd => by
    refine ⟨fun vs H Q E h => h.1, fun A outer s H args us vs Q E _ _ _ _ _ h => ?_⟩
    obtain ⟨_, W, H0, G0, G, as, st, _, _, p', _⟩ := h
    have p' : Post K H0 G0 (RV K) W Q (run p.prog 0 i as st) := p'
    rw [run_zero] at p'
    exact False.elim p'
  | n + 1, i, d, hd => by
    have ih := all_fns ok n
    have dok := ok.defs d (List.mem_of_getElem? hd)
    obtain ⟨f, hf, _, hc | hc⟩ := ok.chk i d hd
    case inr => exact hc n
    simp only [Prg.chkD, Bool.and_eq_true, decide_eq_true_eq] at hc
    obtain ⟨⟨hc, hp⟩, hn⟩ := hc
    obtain ⟨oc, od, kV, doc, pm, an, cdv, ct, osl, hfd, lk, hcd⟩ := dok.fn.ex
    rw [hfd] at lk ⊢
    refine fnI_of lk hcd dok.sc (fun vs H Q E h => h.1) fun A outer s H vs Q E hr hg h => ?_
    refine fn_body (M := p.nm d.N) (T := p.tb n) (prog := p.prog) (n := n) (fi := i) (p.lk d.N n) hf dok.sc rfl hp hn hc ?_ A outer s H vs Q E hr hg h
    intro A outer s H E W hr hg hE
    refine { cx := ⟨dok.sc.nd, ?_, rfl, hg⟩, room := hr, fn := ?_, pick := ?_, open' := ?_, con := ok.cons, blt := ok.blt, tk := ?_ }
    · have := hr.un
      show (A.deeper _).units + 200 < cLine
      omega
    · intro j q hq
      have hq : (p.defs.map Df.row)[j]? = some q := hq
      rw [List.getElem?_map] at hq
      cases hdj : p.defs[j]? with
      | none => rw [hdj] at hq; cases hq
      | some dj =>
        rw [hdj] at hq
        cases hq
        have dk := ok.defs dj (List.mem_of_getElem? hdj)
        refine ⟨⟨dk.mg, dk.fn.kp, ih j dj hdj, dk.bd, dk.db⟩, fun as s hl => ?_⟩
        obtain ⟨fj, hfj, hcj, _⟩ := ok.chk j dj hdj
        show run p.prog n j as s = .bad
        cases n with
        | zero => exact run_zero _ _ _ _
        | succ m =>
          show (match p.prog[j]? with | some d => callB d (run p.prog m) as s | none => .bad) = .bad
          rw [hfj]
          show (if as.length = fj.ps then _ else R.bad) = .bad
          rw [if_neg (by rw [hcj]; exact hl)]
    · intro q hq
      obtain ⟨dq, hdq, rfl⟩ := List.mem_map.mp hq
      obtain ⟨dk, F⟩ := ok.picks dq hdq
      exact ⟨dk.mg, dk.fn.kp, F.up (by omega), dk.bd, dk.db⟩
    · intro q hq
      obtain ⟨dq, hdq, rfl⟩ := List.mem_map.mp hq
      obtain ⟨dk, F⟩ := ok.opens dq hdq
      exact ⟨dk.mg, dk.fn.kp, F.up (by omega), dk.bd, dk.db⟩
    · exact (takes_of rfl rfl rfl rfl).imp fun c d σ H h => hE c d H h
end
end Py
end

section
/-! PyZ4: the law's end. -/
namespace Py
open PySem L2 PyProof.Rows PySem.Spec

/-- every way ends in True -/
def Tru : R PV → Prop
  | .ok (.bl true) _ => True
  | .ask n k => ∀ i, i < n → Tru (k i)
  | _ => False
theorem tru_post {K : W.Frag} {H0 : Hp} {G0 : Gh} : ∀ {r : R PV}, Tru r → Post K H0 G0 (RV K) (fun _ _ _ => False) (fun v _ => v = V.bl true) r
  | .ok (.bl true) s, _ => fun G y H A _ _ _ r _ => r.bl_of
  | .ask n k, h => fun i hi => tru_post (h i hi)
  | .ok (.bl false) _, h => False.elim h
  | .ok .non _, h => False.elim h
  | .ok (.int _) _, h => False.elim h
  | .ok (.str _) _, h => False.elim h
  | .ok (.tup _) _, h => False.elim h
  | .ok (.lst _ _) _, h => False.elim h
  | .ok (.dct _) _, h => False.elim h
  | .ok .src _, h => False.elim h
  | .ok .scr _, h => False.elim h
  | .ex _ _, h => False.elim h
  | .bad, h => False.elim h

/-- the start -/
def gh0 (a : Addr) : Gh := ⟨fun _ => False, fun _ => False, [], none, a⟩
theorem sr0 {K : W.Frag} {H : Hp} {a : Addr} {ns : List Int} (nl : ns.length ≤ sizeLine) (h : SqL K (fun _ => none) a (ns.map V.int) ∨ ∃ o, H a = some (.frz o (.lst (ns.map V.int)))) : SR K (gh0 a) H ⟨[], false⟩ where
  len := rfl
  nd := List.nodup_nil
  dat := fun n d b e _ => by simp at e
  fl := fun _ f => False.elim f
  tl := fun _ f => False.elim f
  ft := fun _ f => False.elim f
  op := rfl
  si := fun _ _ e => by cases e
  sc := ⟨ns, nl, h⟩
  nb := fun d hd => by simp at hd
theorem sp_start {K : W.Frag} {T : Tb} {i : Nat} {H : Hp} {a : Addr} {ns : List Int} (nl : ns.length ≤ sizeLine) (h : SqL K (fun _ => none) a (ns.map V.int) ∨ ∃ o, H a = some (.frz o (.lst (ns.map V.int)))) (ht : Tru (T.F i [.scr] ⟨[], false⟩)) : spF K T i 1 [.ref a] H (fun v _ => v = V.bl true) fun _ _ _ => False := by
  refine ⟨rfl, fun _ _ _ => False, H, gh0 a, gh0 a, [.scr], ⟨[], false⟩, Nw.refl (sr0 nl h), .cons (A := []) (B := []) (RV.scr (G := gh0 a)) .nil, tru_post ht, fun cls d H' z => ?_⟩
  rcases z with ⟨_, _, _, _, _, _, _, _, _, _, w⟩ | ⟨_, _, _, _, w⟩ <;> exact w

@[irreducible] def TruS (r : R PV) : Prop := Tru r
theorem TruS.mk {r : R PV} (h : Tru r) : TruS r := by unfold TruS; exact h
theorem sp_startS {K : W.Frag} {T : Tb} {i : Nat} {H : Hp} {a : Addr} {ns : List Int} (nl : ns.length ≤ sizeLine) (h : SqL K (fun _ => none) a (ns.map V.int) ∨ ∃ o, H a = some (.frz o (.lst (ns.map V.int)))) (ht : TruS (T.F i [.scr] ⟨[], false⟩)) : spF K T i 1 [.ref a] H (fun v _ => v = V.bl true) fun _ _ _ => False := by
  unfold TruS at ht
  exact sp_start nl h ht
/-- the call of law, its promise an FnI -/
theorem law_at {P : Program} {w : World} {K : PySem.W.Frag} {mg mb : Str → Option Value} {k : Nat} {lf sa : Addr} {fd : FuncData} {x : Str} {sp : Sp} {t : Shared} {us : List Value} {ns : List Int}
    (kin : K.In t.heap) (hgl : t.heap.Ns mainGlobals mg) (hbl : t.heap.Ns builtinsNs mb) (hbb : ∀ x : Str, x ≠ "__name__" → mb x = bootBuiltins x) (nol : t.heap.NoLimit) (hgn : t.gens = #[])
    (hsa : t.heap.get? sa = some { cls := .type "list", data := .seq us.toArray }) (hin : IntsAre us ns) (hsz : ns.length ≤ sizeLine) (hrm : Room k callerA)
    (F : ∀ base : Heap, K.In base → base.Ns mainGlobals mg → FnI P w K mg base k lf fd [x] sp) (hbd : ∀ (s : Shared) (u : Value), BindsTo s fd ⟨[u], []⟩ [(x, u)])
    (hsp : ∀ H : Hp, (SqL K (fun _ => none) sa (ns.map V.int) ∨ ∃ o, H sa = some (.frz o (.lst (ns.map V.int)))) → sp [.ref sa] H (fun v _ => v = .bl true) fun _ _ _ => False) :
    codeAny (model P w) callerA (.call (.ref lf) ⟨[.ref sa], []⟩) (fun r s' => r = .ok (.ret (.bool true)) ∧ OldK t.heap s'.heap ∧ s'.os = t.os ∧ AllBare s'.gens) t := by
  have rvs := vals_ints hin
  have hlen := hin.length
  have main : ∀ H : Hp, (∀ b, H b = none ∨ ∃ o xs, H b = some (.frz o (.lst xs))) → (SqL K (fun _ => none) sa (ns.map V.int) ∨ ∃ o, H sa = some (.frz o (.lst (ns.map V.int)))) → HOk P w H t.heap → (∀ b, H b ≠ none → b = sa) → (H sa ≠ none → K.lookup sa = none) →
      codeAny (model P w) callerA (.call (.ref lf) ⟨[.ref sa], []⟩) (fun r s' => r = .ok (.ret (.bool true)) ∧ OldK t.heap s'.heap ∧ s'.os = t.os ∧ AllBare s'.gens) t := by
    intro H only hseq hok hsole hK
    have keep0 : ∀ {b : Addr} {o : Obj}, t.heap.get? b = some o → H b = none → (hidT t.heap H).get? b = some o := fun e n => (hidT_get e n)
    have notD : ∀ {b : Addr} {o : Obj} {es : Array DictEntry} {ep : Nat}, t.heap.get? b = some o → o.data = .dict es ep → H b = none := fun {b o es ep} e d => by
      cases hb : H b with
      | none => rfl
      | some u =>
        have eb : b = sa := hsole b (by rw [hb]; simp)
        subst eb
        rw [hsa] at e; cases e
        have d2 : Data.seq us.toArray _ = Data.dict es ep := d
        cases d2
    have ns1 : ∀ {b : Addr} {m : Str → Option Value}, t.heap.Ns b m → (hidT t.heap H).Ns b m := fun {b m} ⟨o, es, ep, e, d, r⟩ => ⟨o, es, ep, keep0 e (notD e d), d, r⟩
    have kin1 : K.In (hidT t.heap H) := fun b o e => keep0 (kin b o e) (by
      cases hb : H b with
      | none => rfl
      | some u =>
        have eb : b = sa := hsole b (by rw [hb]; simp)
        subst eb
        rw [hK (by rw [hb]; simp)] at e; cases e)
    have md : Mod K mg (hidT t.heap H) := ⟨kin1, ns1 hgl, ⟨mb, ns1 hbl, hbb⟩, let ⟨mc, h1, h2⟩ := nol; ⟨mc, ns1 h1, h2⟩⟩
    have env : Env0 P w K mg (hidT t.heap H) callerA [] t H := ⟨rfl, md, (fun b o e => of_hidT e), Nat.le_of_eq (hidT_size _ _), trivial, (fun b hb => absurd (show b ∈ ([] : List Addr) from hb) (by simp)), hok, .of_eq hgn⟩
    refine codeAny_mono ((F _ kin1 (ns1 hgl)).run callerA [] t H ⟨[.ref sa], []⟩ [.ref sa] [.ref sa] _ _ hrm rfl env (hbd t (.ref sa)) (.cons rfl .nil) (hsp H hseq)) fun r s' h => ?_
    cases r with
    | error e =>
      obtain ⟨_, _, _, _, _, _, _, _, _, _, _, _, z⟩ := h
      exact False.elim z
    | ok fl =>
      cases fl with
      | next => exact (False.elim h)
      | brk => exact (False.elim h)
      | cont => exact (False.elim h)
      | ret u =>
        obtain ⟨v, H', os, bare, un, hok', r', q⟩ := h
        have q2 : v = .bl true := q
        subst q2
        obtain rfl : u = Value.bool true := r'
        refine ⟨rfl, OldK.of_keep fun b o e => ?_, os, bare⟩
        cases hb : H b with
        | none => exact un.keep b o e hb (by intro z; exact absurd (show b ∈ ([] : List Addr) from z) (by simp)) (by simp)
        | some u =>
          rcases only b with z | ⟨ob, xs, z⟩
          · rw [hb] at z; cases z
          · have z2 := un.frzs b ob _ z
            obtain ⟨e1, _⟩ := hok b _ z
            obtain ⟨e2, _⟩ := hok' b _ z2
            rw [e] at e1; cases e1
            exact e2
  cases hk : K.lookup sa with
  | some o =>
    have e := kin sa o hk
    rw [hsa] at e
    cases e
    exact main (fun _ => none) (fun _ => .inl rfl) (.inl (.inr ⟨_, us.toArray, _, hk, rfl, rfl, rfl, (by rw [List.size_toArray, hlen]; exact hsz), (by simpa using rvs)⟩)) (fun b u z => by have z2 : (none : Option HO) = some u := z; cases z2) (fun b z => absurd rfl z) fun z => absurd rfl z
  | none =>
    refine main (fun b => if b = sa then some (.frz { cls := .type "list", data := .seq us.toArray } (.lst (ns.map V.int))) else none) (fun b => ?_) (.inr ⟨{ cls := .type "list", data := .seq us.toArray }, if_pos rfl⟩) (fun b u z => ?_) (fun b z => ?_) fun _ => hk
    · by_cases hb : b = sa
      · exact .inr ⟨_, _, if_pos hb⟩
      · exact .inl (if_neg hb)
    · by_cases hb : b = sa
      · have z2 := (if_pos hb).symm.trans z
        cases z2
        subst hb
        exact ⟨hsa, (by rw [List.length_map]; exact hsz), us, _, rvs, hsa⟩
      · have z2 := (if_neg hb).symm.trans z
        cases z2
    · by_cases hb : b = sa
      · exact hb
      · exact absurd (if_neg hb) z
theorem walk_at {l : PySem.W.OpenLaw} {n k : Nat} {q : Program} {loose : List Str} {XP : (Str → Option Value) → Heap → Prop} {YP : World → Heap → Prop} {d : DefRec} {K : Params → PySem.W.Frag} {sp : World → Sp} {x : Str}
    (hn : l.most = some n) (hn2 : n ≤ sizeLine) (hdf : d.params.defaults = []) (hrm : Room k callerA)
    (hY : ∀ (w : World) (h : Heap), YP w h → (K w.params).In h)
    (F : ∀ (w : World) (mg : Str → Option Value) (lf : Addr) (h : Heap), (K w.params).In h → h.Ns mainGlobals mg → mg d.name = some (.ref lf) →
      ∃ fd : FuncData, (∀ (s : Shared) (u : Value), BindsTo s fd ⟨[u], []⟩ [(x, u)]) ∧ ∀ base : Heap, (K w.params).In base → base.Ns mainGlobals mg → FnI l.prog w (K w.params) mg base k lf fd [x] (sp w))
    (hsp : ∀ (w : World) (H : Hp) (sa : Addr) (ns : List Int), ns.length ≤ n → (SqL (K w.params) (fun _ => none) sa (ns.map V.int) ∨ ∃ o, H sa = some (.frz o (.lst (ns.map V.int)))) → sp w [.ref sa] H (fun v _ => v = .bl true) fun _ _ _ => False) :
    PySem.W.WalkO q loose XP YP l.row.toRowW d [] (fun f vs => PySem.call f vs) := by
  refine Att.attach_call hn hdf fun w s0 t mg mb lf o pm cd doc sa us ns G Y ho hd hcd hmg hobj hints hlen hgn => ?_
  have kin := hY w _ Y
  obtain ⟨fd, hb, hF⟩ := F w mg lf _ kin G.T.g hmg
  exact law_at kin G.T.g G.T.b G.T.builtins G.T.nolimit hgn hobj hints (Nat.le_trans hlen hn2) hrm hF hb fun H h => hsp w H sa ns hlen h
end Py
end

section
/-! PyPk: the drawing dict is written. -/
namespace Py
open PySem L2 PyProof.Rows

section
variable {K : W.Frag} {H0 H H' : Hp} {G0 G : Gh} {s : Py.St} {a c : Addr}
theorem SrcI.ne_c {b : Addr} (x : SrcI H a c) (h : ∀ ys, H b ≠ some (.lst ys)) : b ≠ c := fun z => by
  obtain ⟨_, _, ns, _, _, _, _, e2, _⟩ := x
  exact h _ (z ▸ e2)
/-- the drawing dict and its cells change, nothing else -/
theorem Keep.src {A : List Addr} (r : SR K G H s) (es : G.sr = some (a, c)) (hb : ∀ b, b ≠ a → b ≠ c → H' b = H b) (hA : ∀ b ∈ A, b ≠ a ∧ b ≠ c) : Keep K G G H H' A where
  tup := fun b xs h => by
    obtain ⟨x, nd, nf, nt⟩ := r.si a c es
    obtain ⟨_, _, _, _, _, _, e1, e2, _⟩ := x
    rw [hb b (fun z => by rw [z, e1] at h; cases h) (fun z => by rw [z, e2] at h; cases h)]
    exact h
  fz := fun _ h => h
  tz := fun _ h => h
  lst := fun b xs h q => by
    obtain ⟨x, nd, nf, nt⟩ := r.si a c es
    obtain ⟨_, _, _, _, _, _, e1, e2, _⟩ := x
    have nc : b ≠ c := fun z => by
      rcases q with q | q | q
      · exact nf (z ▸ q)
      · exact nt (z ▸ q)
      · exact (hA b q).2 z
    rw [hb b (fun z => by rw [z, e1] at h; cases h) nc]
    exact h
  ds := fun _ _ h => h
  sr := fun _ h => h
  sc := rfl
  frz := fun b o u h => by
    obtain ⟨x, nd, nf, nt⟩ := r.si a c es
    obtain ⟨_, _, _, _, _, _, e1, e2, _⟩ := x
    rw [hb b (fun z => by rw [z, e1] at h; cases h) (fun z => by rw [z, e2] at h; cases h)]
    exact h
theorem SR.src (r : SR K G H s) (es : G.sr = some (a, c)) (hb : ∀ b, b ≠ a → b ≠ c → H' b = H b) (x' : SrcI H' a c) : SR K G H' s where
  len := r.len
  nd := r.nd
  dat := fun n d b e1 e2 => by
    obtain ⟨x, nd, nf, nt⟩ := r.si a c es
    have q := r.dat n d b e1 e2
    have hm : b ∈ G.ds := List.mem_of_getElem? e2
    have nba : b ≠ a := fun z => nd (z ▸ hm)
    have nbc : b ≠ c := x.ne_c fun ys h => by
      rcases q.isDc with (⟨_, w⟩ | ⟨_, w⟩) | ⟨_, _, w⟩ | ⟨_, _, w⟩ <;> (rw [h] at w; cases w)
    exact q.keep (Keep.src r es hb fun _ h => nomatch h) fun o h => by rw [hb b nba nbc]; exact h
  fl := fun b f => by
    obtain ⟨x, nd, nf, nt⟩ := r.si a c es
    obtain ⟨ys, w⟩ := r.fl b f
    have e1 := x.2
    obtain ⟨_, _, _, _, _, e1, _⟩ := e1
    exact ⟨ys, by rw [hb b (fun z => by rw [z, e1] at w; cases w) (fun z => nf (z ▸ f))]; exact w⟩
  tl := fun b f => by
    obtain ⟨x, nd, nf, nt⟩ := r.si a c es
    obtain ⟨ys, w⟩ := r.tl b f
    have e1 := x.2
    obtain ⟨_, _, _, _, _, e1, _⟩ := e1
    exact ⟨ys, by rw [hb b (fun z => by rw [z, e1] at w; cases w) (fun z => nt (z ▸ f))]; exact w⟩
  ft := r.ft
  op := r.op
  si := fun a' c' e => by
    rw [es] at e
    cases e
    obtain ⟨x, q⟩ := r.si a c es
    exact ⟨x', q⟩
  sc := by
    obtain ⟨x, nd, nf, nt⟩ := r.si a c es
    obtain ⟨ns, nl, q⟩ := r.sc
    refine ⟨ns, nl, q.imp id fun ⟨o, w⟩ => ⟨o, ?_⟩⟩
    obtain ⟨_, _, _, _, _, _, e1, e2, _⟩ := x
    rw [hb _ (fun z => by rw [z, e1] at w; cases w) (fun z => by rw [z, e2] at w; cases w)]
    exact w
  nb := r.nb
theorem Nw.src (n : Nw K H0 G0 H G s) (es : G.sr = some (a, c)) (hb : ∀ b, b ≠ a → b ≠ c → H' b = H b) (x' : SrcI H' a c) : Nw K H0 G0 H' G s where
  le := n.le
  pr := by
    obtain ⟨x, nd, nf, nt⟩ := n.sr.si a c es
    obtain ⟨_, _, _, _, _, _, e1, e2, _⟩ := x
    refine ⟨fun b xs h => ?_, fun b o u h => ?_, fun b xs h q => ?_, fun b h => ?_⟩
    · have w := n.pr.tup b xs h
      rw [hb b (fun z => by rw [z, e1] at w; cases w) (fun z => by rw [z, e2] at w; cases w)]
      exact w
    · have w := n.pr.frz b o u h
      rw [hb b (fun z => by rw [z, e1] at w; cases w) (fun z => by rw [z, e2] at w; cases w)]
      exact w
    · have w := n.pr.lst b xs h q
      have nc : b ≠ c := fun z => by
        rcases n.le.sr with e | ⟨_, p', c', e, _, n2⟩
        · exact q a c (e.symm.trans es) z
        · rw [es] at e
          cases e
          rw [z, n2] at h
          cases h
      rw [hb b (fun z => by rw [z, e1] at w; cases w) nc]
      exact w
    · by_cases h1 : b = a
      · obtain ⟨_, _, _, _, _, _, f1, _⟩ := x'
        rw [h1, f1] at h; cases h
      · by_cases h2 : b = c
        · obtain ⟨_, _, _, _, _, _, _, f2, _⟩ := x'
          rw [h2, f2] at h; cases h
        · rw [hb b h1 h2] at h
          exact n.pr.dom b h
  sr := n.sr.src es hb x'

/-- a number is stored under one of three names -/
theorem putK_keys {kvs : List (Key × V)} {k : Key} {v : V} (h : (valV kvs k).isSome = true) : (putK kvs k v).map (·.1) = kvs.map (·.1) := by
  unfold putK
  rw [valV_any, if_pos h, List.map_map]
  refine List.map_congr_left fun p _ => ?_
  show (if p.1 = k then (p.1, v) else p).1 = p.1
  split <;> rfl
theorem SrcI.put {k : Key} {i : Int} (x : SrcI H a c) {kvs : List (Key × V)} (e : H a = some (.dK kvs)) (hk : k = Sum.inr ("left" : Str) ∨ k = Sum.inr ("mixed" : Str) ∨ k = Sum.inr ("turn" : Str)) : SrcI (L2.upd H a (.dK (putK kvs k (.int i)))) a c ∧ (valV kvs k).isSome = true := by
  obtain ⟨n0, kvs', ns, l, m, t, e1, e2, e3, e4, e5, e6, e7, e8⟩ := x
  rw [e] at e1
  cases e1
  have hs : (valV kvs k).isSome = true := by
    rcases hk with rfl | rfl | rfl
    · rw [e4]; rfl
    · rw [e5]; rfl
    · rw [e6]; rfl
  have hl : (putK kvs k (.int i)).length = 4 := by
    have := congrArg List.length (putK_keys (v := .int i) hs)
    rw [List.length_map, List.length_map] at this
    rw [this]; exact e8
  refine ⟨⟨n0, putK kvs k (.int i), ns, if k = (Sum.inr ("left" : Str) : Key) then i else l, if k = (Sum.inr ("mixed" : Str) : Key) then i else m, if k = (Sum.inr ("turn" : Str) : Key) then i else t, upd_same, by rw [upd_ne (Ne.symm n0)]; exact e2, ?_, ?_, ?_, ?_, by rw [putK_keys hs]; exact e7, hl⟩, hs⟩
  · rw [L2.valV_put, if_neg]
    · exact e3
    · rcases hk with rfl | rfl | rfl <;> decide +kernel
  · rw [L2.valV_put, e4]
    rcases hk with rfl | rfl | rfl
    · rw [if_pos rfl, if_pos rfl]
    · rw [if_neg (by decide +kernel), if_neg (by decide +kernel)]
    · rw [if_neg (by decide +kernel), if_neg (by decide +kernel)]
  · rw [L2.valV_put, e5]
    rcases hk with rfl | rfl | rfl
    · rw [if_neg (by decide +kernel), if_neg (by decide +kernel)]
    · rw [if_pos rfl, if_pos rfl]
    · rw [if_neg (by decide +kernel), if_neg (by decide +kernel)]
  · rw [L2.valV_put, e6]
    rcases hk with rfl | rfl | rfl
    · rw [if_neg (by decide +kernel), if_neg (by decide +kernel)]
    · rw [if_neg (by decide +kernel), if_neg (by decide +kernel)]
    · rw [if_pos rfl, if_pos rfl]
/-- the cells change -/
theorem SrcI.cells (x : SrcI H a c) (ms : List Int) : SrcI (L2.upd H c (.lst (ms.map V.int))) a c := by
  obtain ⟨n0, kvs', ns, l, m, t, e1, e2, r⟩ := x
  exact ⟨n0, kvs', ms, l, m, t, by rw [upd_ne n0]; exact e1, upd_same, r⟩
end
end Py
end

section
/-! PyPick: _law_pick (the variant that pops through source["cells"]) keeps its promise. NOT YET BUILDING: see NOTES. -/
namespace Py
open PySem L2 PyProof.Rows

section
variable {P : Program} {w : World} {K : W.Frag} {mg : Str → Option Value} {base : Heap}
/-- the loop's and the body's readings go over: the drawing dict as it stands -/
structure SrcN (K : W.Frag) (H0 : Hp) (G0 G : Gh) (s : Py.St) (a c : Addr) (H : Hp) : Prop where
  nw : Nw K H0 G0 H G s
  es : G.sr = some (a, c)
theorem SrcN.get {H0 H : Hp} {G0 G : Gh} {s : Py.St} {a c : Addr} (x : SrcN K H0 G0 G s a c H) : ∃ (kvs : List (Key × V)) (ns : List Int) (l m t : Int), H a = some (.dK kvs) ∧ H c = some (.lst (ns.map V.int)) ∧ valV kvs (Sum.inr ("cells" : Str)) = some (.ref c) ∧ valV kvs (Sum.inr ("left" : Str)) = some (.int l) ∧ valV kvs (Sum.inr ("mixed" : Str)) = some (.int m) ∧ valV kvs (Sum.inr ("turn" : Str)) = some (.int t) ∧ kvs.length = 4 := by
  obtain ⟨⟨_, kvs, ns, l, m, t, e1, e2, e3, e4, e5, e6, _, e8⟩, _⟩ := x.nw.sr.si a c x.es
  exact ⟨kvs, ns, l, m, t, e1, e2, e3, e4, e5, e6, e8⟩
/-- a number stored -/
theorem SrcN.put {H0 H : Hp} {G0 G : Gh} {s : Py.St} {a c : Addr} (x : SrcN K H0 G0 G s a c H) {kvs : List (Key × V)} (e : H a = some (.dK kvs)) {k : Key} (i : Int) (hk : k = Sum.inr ("left" : Str) ∨ k = Sum.inr ("mixed" : Str) ∨ k = Sum.inr ("turn" : Str)) : SrcN K H0 G0 G s a c (L2.upd H a (.dK (putK kvs k (.int i)))) := by
  obtain ⟨si, _⟩ := x.nw.sr.si a c x.es
  exact ⟨x.nw.src x.es (fun b h1 h2 => upd_ne h1) (si.put e hk).1, x.es⟩
/-- the cells change -/
theorem SrcN.cells {H0 H : Hp} {G0 G : Gh} {s : Py.St} {a c : Addr} (x : SrcN K H0 G0 G s a c H) (ms : List Int) : SrcN K H0 G0 G s a c (L2.upd H c (.lst (ms.map V.int))) := by
  obtain ⟨si, _⟩ := x.nw.sr.si a c x.es
  exact ⟨x.nw.src x.es (fun b h1 h2 => upd_ne h2) (si.cells ms), x.es⟩
end
end Py
end

section
/-! PySrc: the drawing dict is made. -/
namespace Py
open PySem L2 PyProof.Rows

section
variable {K : W.Frag} {H0 H H' : Hp} {G0 G : Gh} {s : Py.St} {a c : Addr}
def Gh.opn (G : Gh) (a c : Addr) : Gh := { G with sr := some (a, c) }
theorem SR.seq (r : SR K G H s) : ∃ ns : List Int, ns.length ≤ sizeLine ∧ SqL K H G.sc (ns.map V.int) := by
  obtain ⟨ns, nl, q | ⟨o, q⟩⟩ := r.sc
  · refine ⟨ns, nl, ?_⟩
    rcases q with (q | ⟨o, q⟩) | q
    · cases q
    · cases q
    · exact .inr q
  · exact ⟨ns, nl, .inl (.inr ⟨o, q⟩)⟩
theorem Nw.opn (n : Nw K H0 G0 H G s) (hs : s.op = false) (hu : ∀ b o, H b = some o → H' b = some o) (hd : ∀ b, H' b = none → H b = none) (ha : H a = none) (hc : H c = none) (x : SrcI H' a c) : Nw K H0 G0 H' (G.opn a c) { s with op := true } := by
  have hn : G.sr = none := by
    have := n.sr.op
    rw [hs] at this
    cases h : G.sr with
    | none => rfl
    | some p => rw [h] at this; cases this
  have k : Keep K G (G.opn a c) H H' [] := ⟨fun _ _ h => hu _ _ h, fun _ h => h, fun _ h => h, fun _ _ h _ => hu _ _ h, fun _ _ h => h, (fun p h => by rw [hn] at h; cases h), rfl, fun _ _ _ h => hu _ _ h⟩
  have l : Le H G (G.opn a c) := ⟨fun _ h => h, fun _ h => h, ⟨[], by simp [Gh.opn]⟩, .inr ⟨hn, a, c, rfl, ha, hc⟩, rfl, fun _ h => .inl h, fun _ h => .inl h, fun _ h => .inl h⟩
  have p : Pr G H H' := ⟨fun _ _ h => hu _ _ h, fun _ _ _ h => hu _ _ h, fun _ _ h _ => hu _ _ h, hd⟩
  refine ⟨n.le.trans n.pr.dom l, n.pr.trans n.le p, ?_⟩
  have r := n.sr
  refine ⟨r.len, r.nd, fun m d b e1 e2 => DIs.keep k (hu b) (r.dat m d b e1 e2), fun b f => let ⟨xs, e⟩ := r.fl b f; ⟨xs, hu _ _ e⟩, fun b f => let ⟨xs, e⟩ := r.tl b f; ⟨xs, hu _ _ e⟩, r.ft, rfl, ?_, let ⟨ns, nl, y⟩ := r.sc; ⟨ns, nl, y.imp id fun ⟨o, z⟩ => ⟨o, hu _ _ z⟩⟩, r.nb⟩
  intro a' c' e
  cases e
  refine ⟨x, fun hm => ?_, fun f => ?_, fun f => ?_⟩
  · have hm : a ∈ G.ds := hm
    obtain ⟨i, hi⟩ := List.mem_iff_getElem?.mp hm
    have hlt : i < s.ds.length := by rw [r.len]; exact (List.getElem?_eq_some_iff.mp hi).1
    have q := r.dat i (s.ds[i]) a (List.getElem?_eq_getElem hlt) hi
    rcases q.isDc with (⟨_, w⟩ | ⟨_, w⟩) | ⟨_, _, w⟩ | ⟨_, _, w⟩ <;> (rw [ha] at w; cases w)
  · obtain ⟨xs, e⟩ := r.fl c f
    rw [hc] at e; cases e
  · obtain ⟨xs, e⟩ := r.tl c f
    rw [hc] at e; cases e
end
end Py
end

section
/-! PyL0: how the interpreter is walked by lemmas. -/
namespace Py
open PySem

/-- every way ends as told -/
def Al {α : Type} (Q : α → St → Prop) : R α → Prop
  | .ok a s => Q a s
  | .ex _ _ => False
  | .bad => False
  | .ask n k => ∀ i, i < n → Al Q (k i)
theorem Al.bind {α β : Type} {Q : β → St → Prop} {f : α → St → R β} : ∀ {r : R α}, Al (fun a s => Al Q (f a s)) r → Al Q (r.bind f)
  | .ok _ _, h => h
  | .ex _ _, h => h
  | .bad, h => h
  | .ask _ _, h => fun i hi => Al.bind (h i hi)
theorem Al.mono {α : Type} {Q Q' : α → St → Prop} (hq : ∀ a s, Q a s → Q' a s) : ∀ {r : R α}, Al Q r → Al Q' r
  | .ok a s, h => hq a s h
  | .ex _ _, h => h
  | .bad, h => h
  | .ask _ _, h => fun i hi => Al.mono hq (h i hi)
theorem Al.ok {α : Type} {Q : α → St → Prop} {a : α} {s : St} (h : Q a s) : Al Q (.ok a s) := h

@[simp] theorem rbind_ok {α β : Type} (a : α) (s : St) (f : α → St → R β) : (R.ok a s).bind f = f a s := rfl
@[simp] theorem bind_bad {α β : Type} (f : α → St → R β) : (R.bad : R α).bind f = .bad := rfl
@[simp] theorem bind_ask {α β : Type} (n : Nat) (k : Nat → R α) (f : α → St → R β) : (R.ask n k).bind f = .ask n fun i => (k i).bind f := rfl
@[simp] theorem okV_sm {α : Type} (a : α) (s : St) : okV (some a) s = .ok a s := rfl
@[simp] theorem okV_none {α : Type} (s : St) : okV (none : Option α) s = .bad := rfl

theorem rbind_assoc {α β γ : Type} (f : α → St → R β) (g : β → St → R γ) : ∀ r : R α, (r.bind f).bind g = r.bind fun a s => (f a s).bind g
  | .ok _ _ => rfl
  | .ex _ _ => rfl
  | .bad => rfl
  | .ask n k => by
    show R.ask n _ = R.ask n _
    congr 1
    funext i
    exact rbind_assoc f g (k i)

@[simp] theorem trim_self (v : PV) (s : St) : trim s.ds.length v s = s := by
  unfold trim
  split
  · cases s; simp
  · rfl
@[simp] theorem noEx_ok {α : Type} (a : α) (s : St) : noEx (.ok a s) = .ok a s := rfl
theorem Al.noEx {α : Type} {Q : α → St → Prop} : ∀ {r : R α}, Al Q r → Al Q (noEx r)
  | .ok _ _, h => h
  | .ex _ _, h => h
  | .bad, h => h
  | .ask _ _, h => fun i hi => Al.noEx (h i hi)

/-- one turn of a comprehension after the other -/
theorem lcL_filterMap {f : PV → St → R (Option PV)} {s : St} {g : PV → Option PV} : ∀ {xs : List PV}, (∀ x ∈ xs, f x s = .ok (g x) s) → lcL f xs s = .ok (xs.filterMap g) s
  | [], _ => rfl
  | x :: r, h => by
    show (f x s).bind _ = _
    rw [h x (List.mem_cons_self), rbind_ok, lcL_filterMap fun y hy => h y (List.mem_cons_of_mem _ hy), rbind_ok]
    rw [List.filterMap_cons]
    cases g x <;> rfl
theorem lcL_map {f : PV → St → R (Option PV)} {s : St} {g : PV → PV} {xs : List PV} (h : ∀ x ∈ xs, f x s = .ok (some (g x)) s) : lcL f xs s = .ok (xs.map g) s := by
  rw [lcL_filterMap (g := fun x => some (g x)) h]
  congr 1
  exact congrFun (List.filterMap_eq_map' (f := g)) xs

/-- over things told by a list of another kind -/
theorem lcL_of {α : Type} {f : PV → St → R (Option PV)} {s : St} {c : α → PV} {p : α → Bool} {g : α → PV} : ∀ {l : List α}, (∀ x ∈ l, f (c x) s = .ok (if p x then some (g x) else none) s) → lcL f (l.map c) s = .ok ((l.filter p).map g) s
  | [], _ => rfl
  | x :: r, h => by
    show (f (c x) s).bind _ = _
    rw [h x (List.mem_cons_self), rbind_ok, lcL_of fun y hy => h y (List.mem_cons_of_mem _ hy), rbind_ok, List.filter_cons]
    cases p x <;> rfl
theorem lcL_ofA {α : Type} {f : PV → St → R (Option PV)} {s : St} {c : α → PV} {g : α → PV} {l : List α} (h : ∀ x ∈ l, f (c x) s = .ok (some (g x)) s) : lcL f (l.map c) s = .ok (l.map g) s := by
  rw [lcL_of (p := fun _ => true) (g := g)]
  · rw [List.filter_eq_self.mpr (by simp)]
  · simpa using h

/-- a for that changes slots only by a fold -/
theorem forL_fold {α β : Type} {body : PV → Env → St → R Fl} {s : St} {c : α → PV} {env : β → Env} {g : β → α → β} : ∀ {l : List α} {b : β}, (∀ b, ∀ x ∈ l, body (c x) (env b) s = .ok (.nx (env (g b x))) s) → forL body (l.map c) (env b) s = .ok (.nx (env (l.foldl g b))) s
  | [], _, _ => rfl
  | x :: r, b, h => by
    show (body (c x) (env b) s).bind _ = _
    rw [h b x (List.mem_cons_self), rbind_ok]
    exact forL_fold fun b y hy => h b y (List.mem_cons_of_mem _ hy)

/-- a for by an invariant -/
theorem Al.for {body : PV → Env → St → R Fl} {Q : Fl → St → Prop} (Inv : List PV → Env → St → Prop) : ∀ {xs : List PV} {e : Env} {s : St}, Inv xs e s → (∀ e s, Inv [] e s → Q (.nx e) s) →
    (∀ x r e s, Inv (x :: r) e s → Al (fun f s1 => match f with | .nx e1 => Inv r e1 s1 | .ct e1 => Inv r e1 s1 | .bk e1 => Q (.nx e1) s1 | .rt v => Q (.rt v) s1) (body x e s)) → Al Q (forL body xs e s)
  | [], e, s, h, h0, hs => h0 e s h
  | x :: r, e, s, h, h0, hs => by
    refine Al.bind (Al.mono (fun f s1 hf => ?_) (hs x r e s h))
    cases f with
    | nx e1 => exact Al.for Inv hf h0 hs
    | ct e1 => exact Al.for Inv hf h0 hs
    | bk e1 => exact hf
    | rt v => exact hf
/-- a while by an invariant and a measure -/
theorem Al.while {test : Env → St → R PV} {body : Env → St → R Fl} {Q : Fl → St → Prop} (Inv : Nat → Env → St → Prop) : ∀ {n m : Nat} {e : Env} {s : St}, m < n → Inv m e s →
    (∀ m e s, Inv m e s → Al (fun c s1 => (c = .bl false ∧ Q (.nx e) s1) ∨ (c = .bl true ∧ Al (fun f s2 => match f with | .nx e1 => ∃ m', m' < m ∧ Inv m' e1 s2 | .ct e1 => ∃ m', m' < m ∧ Inv m' e1 s2 | .bk e1 => Q (.nx e1) s2 | .rt v => Q (.rt v) s2) (body e s1))) (test e s)) → Al Q (whileL test body n e s)
  | 0, m, e, s, hm, h, hs => absurd hm (Nat.not_lt_zero _)
  | n + 1, m, e, s, hm, h, hs => by
    refine Al.bind (Al.mono (fun c s1 hc => ?_) (hs m e s h))
    rcases hc with ⟨rfl, q⟩ | ⟨rfl, q⟩
    · exact q
    · refine Al.bind (Al.mono (fun f s2 hf => ?_) q)
      cases f with
      | nx e1 =>
        obtain ⟨m', h1, h2⟩ := hf
        exact Al.while Inv (by omega) h2 hs
      | ct e1 =>
        obtain ⟨m', h1, h2⟩ := hf
        exact Al.while Inv (by omega) h2 hs
      | bk e1 => exact hf
      | rt v => exact hf

/-! ### numbers, tuples of numbers -/
abbrev nI (n : Nat) : PV := .int (n : Int)
/-- a tuple of numbers -/
def tN (l : List Nat) : PV := .tup (l.map nI)
def lN (l : List Nat) : PV := .lst .o (l.map nI)

theorem rngP_nat : ∀ (n a : Nat), rngP (a : Int) n = (List.range' a n).map nI
  | 0, _ => rfl
  | n + 1, a => by
    have := rngP_nat n (a + 1)
    show PV.int (a : Int) :: rngP ((a : Int) + 1) n = _
    rw [List.range'_succ, List.map_cons, ← this]
    rfl
theorem rngP_zero (n : Nat) : rngP 0 n = (List.range n).map nI := by
  rw [List.range_eq_range']
  exact rngP_nat n 0
theorem enumP_at {α : Type} (c : α → PV) : ∀ (l : List α) (i : Nat), enumP i (l.map c) = (l.zipIdx i).map fun p => PV.tup [nI p.2, c p.1]
  | [], _ => rfl
  | x :: r, i => by
    show PV.tup [.int i, c x] :: enumP (i + 1) (r.map c) = _
    rw [enumP_at c r (i + 1), List.zipIdx_cons, List.map_cons]
theorem intsOf_nats : ∀ (l : List Nat), intsOf (l.map nI) = some (l.map fun (n : Nat) => (n : Int))
  | [] => rfl
  | x :: r => by
    show (intsOf (r.map nI)).map _ = _
    rw [intsOf_nats r]
    rfl
theorem sum_nats : ∀ (l : List Nat), (l.map fun (n : Nat) => (n : Int)).sum = (l.sum : Int)
  | [] => rfl
  | x :: r => by
    rw [List.map_cons, List.sum_cons, List.sum_cons, sum_nats r]
    omega
theorem brws_nats : ∀ (l : List Nat), brws (l.map nI) = l.map nI
  | [] => rfl
  | x :: r => by
    show brw (nI x) :: brws (r.map nI) = _
    rw [brws_nats r]
    rfl
end Py
end

section
/-! PyS0: typed functions that tell what the interpreter gives. -/
namespace Py
open PySem

inductive Dr (α : Type) where
  | ok (a : α) | ex (c : Nat) (v : PV) | bad | ask (n : Nat) (k : Nat → Dr α)
def Dr.bind {α β : Type} : Dr α → (α → Dr β) → Dr β
  | .ok a, f => f a
  | .ex c v, _ => .ex c v
  | .bad, _ => .bad
  | .ask n k, f => .ask n fun i => (k i).bind f
@[simp] theorem dbind_ok {α β : Type} (a : α) (f : α → Dr β) : (Dr.ok a).bind f = f a := by
  have h : ∀ m : Dr α, m = .ok a → m.bind f = f a := fun m h => by subst h; rfl
  exact h _ rfl
@[simp] theorem dbind_bad {α β : Type} (f : α → Dr β) : (Dr.bad : Dr α).bind f = .bad := rfl
@[simp] theorem dbind_ask {α β : Type} (n : Nat) (k : Nat → Dr α) (f : α → Dr β) : (Dr.ask n k).bind f = .ask n fun i => (k i).bind f := rfl
theorem dbind_assoc {α β γ : Type} (f : α → Dr β) (g : β → Dr γ) : ∀ m : Dr α, (m.bind f).bind g = m.bind fun a => (f a).bind g
  | .ok _ => rfl
  | .ex _ _ => rfl
  | .bad => rfl
  | .ask n k => by
    show Dr.ask n _ = Dr.ask n _
    congr 1
    funext i
    exact dbind_assoc f g (k i)
theorem dbind_pure {α : Type} : ∀ m : Dr α, (m.bind fun a => .ok a) = m
  | .ok _ => rfl
  | .ex _ _ => rfl
  | .bad => rfl
  | .ask n k => by
    show Dr.ask n _ = Dr.ask n _
    congr 1
    funext i
    exact dbind_pure (k i)
@[irreducible] def Dr.chk {α : Type} (b : Bool) (m : Dr α) : Dr α := if b then m else .bad
theorem chk_f {α : Type} (m : Dr α) : Dr.chk false m = .bad := by unfold Dr.chk; rfl
theorem chk_t {α : Type} (m : Dr α) : Dr.chk true m = m := by unfold Dr.chk; rfl
def Dr.of {α : Type} : Option α → Dr α
  | some a => .ok a
  | none => .bad
@[simp] theorem dof_some {α : Type} (a : α) : Dr.of (some a) = .ok a := rfl
theorem chk_true {α : Type} {b : Bool} (h : b = true) (m : Dr α) : Dr.chk b m = m := by rw [h, chk_t]

/-- every way ends as told -/
def Dr.Al {α : Type} (Q : α → Prop) : Dr α → Prop
  | .ok a => Q a
  | .ex _ _ => False
  | .bad => False
  | .ask n k => ∀ i, i < n → (k i).Al Q
theorem Dr.Al.bind {α β : Type} {Q : β → Prop} {f : α → Dr β} : ∀ {m : Dr α}, m.Al (fun a => (f a).Al Q) → (m.bind f).Al Q
  | .ok _, h => h
  | .ex _ _, h => h
  | .bad, h => h
  | .ask _ _, h => fun i hi => Dr.Al.bind (h i hi)
theorem Dr.Al.mono {α : Type} {Q Q' : α → Prop} (hq : ∀ a, Q a → Q' a) : ∀ {m : Dr α}, m.Al Q → m.Al Q'
  | .ok a, h => hq a h
  | .ex _ _, h => h
  | .bad, h => h
  | .ask _ _, h => fun i hi => Dr.Al.mono hq (h i hi)

def Sm {α β : Type} (I : St → Prop) (rel : α → β → Prop) : Dr α → R β → Prop
  | .ok a, r => ∃ b s, r = .ok b s ∧ I s ∧ rel a b
  | .ex c v, r => ∃ s, r = .ex ⟨c, v⟩ s ∧ I s
  | .bad, _ => True
  | .ask n k, r => ∃ k', r = .ask n k' ∧ ∀ i, i < n → Sm I rel (k i) (k' i)
theorem Sm.bind {α β γ δ : Type} {I : St → Prop} {rel : α → β → Prop} {rel2 : γ → δ → Prop} {g : α → Dr γ} {f : β → St → R δ} : ∀ {m : Dr α} {r : R β}, Sm I rel m r → (∀ a b s, rel a b → I s → Sm I rel2 (g a) (f b s)) → Sm I rel2 (m.bind g) (r.bind f)
  | .ok a, r, ⟨b, s, e, h1, h2⟩, hf => by subst e; exact hf a b s h2 h1
  | .ex c v, r, ⟨s, e, h⟩, hf => by subst e; exact ⟨s, rfl, h⟩
  | .bad, _, _, _ => trivial
  | .ask n k, r, ⟨k', e, h⟩, hf => by
    subst e
    exact ⟨fun i => (k' i).bind f, rfl, fun i hi => Sm.bind (h i hi) hf⟩
theorem Sm.mono {α β : Type} {I J : St → Prop} {rel rel2 : α → β → Prop} (hI : ∀ s, I s → J s) (hr : ∀ a b, rel a b → rel2 a b) : ∀ {m : Dr α} {r : R β}, Sm I rel m r → Sm J rel2 m r
  | .ok a, r, ⟨b, s, e, h1, h2⟩ => ⟨b, s, e, hI s h1, hr a b h2⟩
  | .ex c v, r, ⟨s, e, h⟩ => ⟨s, e, hI s h⟩
  | .bad, _, _ => trivial
  | .ask n k, r, ⟨k', e, h⟩ => ⟨k', e, fun i hi => Sm.mono hI hr (h i hi)⟩
theorem Sm.al {α β : Type} {I : St → Prop} {rel : α → β → Prop} {Q : α → Prop} : ∀ {m : Dr α} {r : R β}, Sm I rel m r → m.Al Q → Al (fun b s => I s ∧ ∃ a, rel a b ∧ Q a) r
  | .ok a, r, ⟨b, s, e, h1, h2⟩, q => by subst e; exact ⟨h1, a, h2, q⟩
  | .ex c v, r, _, q => False.elim q
  | .bad, _, _, q => False.elim q
  | .ask n k, r, ⟨k', e, h⟩, q => by subst e; exact fun i hi => Sm.al (h i hi) (q i hi)

/-- at every state -/
structure SG {α β : Type} (I : St → Prop) (rel : α → β → Prop) (m : Dr α) (f : St → R β) : Prop where
  h : ∀ s, I s → Sm I rel m (f s)
/-- an expression's value -/
abbrev TE1 {α : Type} (I : St → Prop) (e : α → PV) (m : Dr α) (f : St → R PV) : Prop := SG I (fun a b => b = e a) m f
theorem SG.bind {α β γ δ : Type} {I : St → Prop} {rel : α → β → Prop} {rel2 : γ → δ → Prop} {m : Dr α} {f : St → R β} {g : α → Dr γ} {h : β → St → R δ} (h1 : SG I rel m f) (h2 : ∀ a b, rel a b → SG I rel2 (g a) (h b)) : SG I rel2 (m.bind g) (fun s => (f s).bind h) :=
  .mk fun s hs => Sm.bind (h1.h s hs) fun a b s1 hr h1 => (h2 a b hr).h s1 h1
theorem TE1.bind {α γ δ : Type} {I : St → Prop} {e : α → PV} {rel2 : γ → δ → Prop} {m : Dr α} {f : St → R PV} {g : α → Dr γ} {h : PV → St → R δ} (h1 : TE1 I e m f) (h2 : ∀ a, SG I rel2 (g a) (h (e a))) : SG I rel2 (m.bind g) (fun s => (f s).bind h) :=
  SG.bind h1 fun a b e => by subst e; exact h2 a
theorem SG.ok {α β : Type} {I : St → Prop} {rel : α → β → Prop} {a : α} {b : β} (h : rel a b) : SG I rel (.ok a) (fun s => .ok b s) := .mk fun s hs => ⟨b, s, rfl, hs, h⟩
theorem SG.cast {α β : Type} {I : St → Prop} {rel : α → β → Prop} {m m' : Dr α} {f : St → R β} (h : SG I rel m' f) (e : m' = m) : SG I rel m f := e ▸ h
/-- a test by values -/
theorem SG.chk {α β : Type} {I : St → Prop} {rel : α → β → Prop} {b : Bool} {m : Dr α} {f : St → R β} (h : SG I rel m f) : SG I rel (Dr.chk b m) (fun s => if b = true then f s else .bad) := .mk fun s hs => by
  cases b
  · rw [chk_f]; trivial
  · rw [chk_t]; exact h.h s hs
theorem SG.chkP {α β : Type} {I : St → Prop} {rel : α → β → Prop} {p : Prop} [Decidable p] {m : Dr α} {f : St → R β} (h : SG I rel m f) : SG I rel (Dr.chk (decide p) m) (fun s => if p then f s else .bad) := .mk fun s hs => by
  by_cases hp : p
  · rw [decide_eq_true hp, chk_t, if_pos hp]
    exact h.h s hs
  · rw [decide_eq_false hp, chk_f]
    trivial
theorem SG.okV {α β : Type} {I : St → Prop} {rel : α → β → Prop} {m : Dr α} {o : Option β} (h : ∀ b, o = some b → ∃ a, m = .ok a ∧ rel a b) (h2 : o = none → m = .bad) : SG I rel m (fun s => okV o s) := .mk fun s hs => by
  cases o with
  | none => rw [h2 rfl]; trivial
  | some b =>
    obtain ⟨a, e, r⟩ := h b rfl
    rw [e]
    exact ⟨b, s, rfl, hs, r⟩

/-! ### how values stand -/
abbrev eI : Int → PV := PV.int
abbrev eB : Bool → PV := PV.bl
abbrev eS : Str → PV := PV.str
def eN : Unit → PV := fun _ => .non
def eA : PV → PV := fun x => x
def eT {α : Type} (e : α → PV) : List α → PV := fun l => .tup (l.map e)
def eL {α : Type} (m : Md) (e : α → PV) : List α → PV := fun l => .lst m (l.map e)
def eP {α β : Type} (e : α → PV) (d : β → PV) : α × β → PV := fun p => .tup [e p.1, d p.2]
def eP3 {α β γ : Type} (e : α → PV) (d : β → PV) (c : γ → PV) : α × β × γ → PV := fun p => .tup [e p.1, d p.2.1, c p.2.2]
def eO {α : Type} (e : α → PV) : Option α → PV | none => .non | some a => e a
def eSrc : Unit → PV := fun _ => .src
def eD (n : Nat) : Unit → PV := fun _ => .dct n
/-- an empty tuple or list -/
def eE : Unit → PV := fun _ => .tup []

class Brw {α : Type} (e : α → PV) (d : outParam (α → PV)) : Prop where h : ∀ x, brw (e x) = d x
class Rdv {α : Type} (e : α → PV) (d : outParam (α → PV)) : Prop where h : ∀ x, rdV (e x) = d x
class Nob {α : Type} (e : α → PV) : Prop where h : ∀ x, nob (e x) = true
instance : Brw eI eI := ⟨fun _ => rfl⟩
instance : Brw eB eB := ⟨fun _ => rfl⟩
instance : Brw eS eS := ⟨fun _ => rfl⟩
instance : Brw eN eN := ⟨fun _ => rfl⟩
instance : Brw eSrc eSrc := ⟨fun _ => rfl⟩
instance {n : Nat} : Brw (eD n) (eD n) := ⟨fun _ => rfl⟩
instance {α : Type} {e : α → PV} : Brw (eT e) (eT e) := ⟨fun _ => rfl⟩
instance {α β : Type} {e : α → PV} {d : β → PV} : Brw (eP e d) (eP e d) := ⟨fun _ => rfl⟩
instance {α β γ : Type} {e : α → PV} {d : β → PV} {c : γ → PV} : Brw (eP3 e d c) (eP3 e d c) := ⟨fun _ => rfl⟩
theorem brws_map {α : Type} {e d : α → PV} (h : ∀ x, brw (e x) = d x) : ∀ l : List α, brws (l.map e) = l.map d
  | [] => rfl
  | x :: r => by
    show brw (e x) :: brws (r.map e) = _
    rw [brws_map h r, h x]
    rfl
instance {α : Type} {e d : α → PV} [b : Brw e d] : Brw (eL .o e) (eL .b d) := ⟨fun l => by show PV.lst .b (brws (l.map e)) = _; rw [brws_map b.h]; rfl⟩
instance {α : Type} {e : α → PV} : Brw (eL .b e) (eL .b e) := ⟨fun _ => rfl⟩
instance {α : Type} {e : α → PV} : Brw (eL .t e) (eL .b e) := ⟨fun _ => rfl⟩
instance {α : Type} {e : α → PV} : Brw (eL .f e) (eL .f e) := ⟨fun _ => rfl⟩
instance {α : Type} {e d : α → PV} [b : Brw e d] : Brw (eO e) (eO d) := ⟨fun x => by cases x; rfl; exact b.h _⟩
instance : Rdv eI eI := ⟨fun _ => rfl⟩
instance : Rdv eB eB := ⟨fun _ => rfl⟩
instance : Rdv eS eS := ⟨fun _ => rfl⟩
instance : Rdv eN eN := ⟨fun _ => rfl⟩
instance : Rdv eSrc eSrc := ⟨fun _ => rfl⟩
instance {n : Nat} : Rdv (eD n) (eD n) := ⟨fun _ => rfl⟩
instance {α : Type} {e : α → PV} : Rdv (eT e) (eT e) := ⟨fun _ => rfl⟩
instance {α β : Type} {e : α → PV} {d : β → PV} : Rdv (eP e d) (eP e d) := ⟨fun _ => rfl⟩
instance {α β γ : Type} {e : α → PV} {d : β → PV} {c : γ → PV} : Rdv (eP3 e d c) (eP3 e d c) := ⟨fun _ => rfl⟩
instance {α : Type} {e d : α → PV} [b : Brw e d] : Rdv (eL .o e) (eL .t d) := ⟨fun l => by show PV.lst .t (brws (l.map e)) = _; rw [brws_map b.h]; rfl⟩
instance {α : Type} {e : α → PV} : Rdv (eL .b e) (eL .b e) := ⟨fun _ => rfl⟩
instance {α : Type} {e : α → PV} : Rdv (eL .t e) (eL .t e) := ⟨fun _ => rfl⟩
instance {α : Type} {e : α → PV} : Rdv (eL .f e) (eL .f e) := ⟨fun _ => rfl⟩
instance {α : Type} {e d : α → PV} [b : Rdv e d] : Rdv (eO e) (eO d) := ⟨fun x => by cases x; rfl; exact b.h _⟩
instance : Nob eI := ⟨fun _ => rfl⟩
instance : Nob eB := ⟨fun _ => rfl⟩
instance : Nob eS := ⟨fun _ => rfl⟩
instance : Nob eN := ⟨fun _ => rfl⟩
instance : Nob eSrc := ⟨fun _ => rfl⟩
instance {n : Nat} : Nob (eD n) := ⟨fun _ => rfl⟩
theorem nobs_map {α : Type} {e : α → PV} (h : ∀ x, nob (e x) = true) : ∀ l : List α, nobs (l.map e) = true
  | [] => rfl
  | x :: r => by
    show (nob (e x) && nobs (r.map e)) = true
    rw [h x, nobs_map h r]; rfl
instance {α : Type} {e : α → PV} [n : Nob e] : Nob (eT e) := ⟨fun l => nobs_map n.h l⟩
instance {α : Type} {e : α → PV} [n : Nob e] : Nob (eL .o e) := ⟨fun l => nobs_map n.h l⟩
instance {α : Type} {e : α → PV} [n : Nob e] : Nob (eL .f e) := ⟨fun l => nobs_map n.h l⟩
instance {α β : Type} {e : α → PV} {d : β → PV} [n : Nob e] [m : Nob d] : Nob (eP e d) := ⟨fun p => by show (nob (e p.1) && (nob (d p.2) && true)) = true; rw [n.h, m.h]; rfl⟩
instance {α β γ : Type} {e : α → PV} {d : β → PV} {c : γ → PV} [n : Nob e] [m : Nob d] [k : Nob c] : Nob (eP3 e d c) := ⟨fun p => by show (nob (e p.1) && (nob (d p.2.1) && (nob (c p.2.2) && true))) = true; rw [n.h, m.h, k.h]; rfl⟩
instance {α : Type} {e : α → PV} [n : Nob e] : Nob (eO e) := ⟨fun x => by cases x; rfl; exact n.h _⟩

/-- what is compared: nested at most so deep, equal just where the things are -/
class Cmp {α : Type} (n : Nat) (e : α → PV) : Prop where
  h : ∀ x, shp n (e x) = true
class Eqv {α : Type} [DecidableEq α] (e d : α → PV) : Prop where
  h : ∀ x y, eqP (e x) (d y) = decide (x = y)
theorem shps_map {α : Type} {n : Nat} {e : α → PV} (h : ∀ x, shp n (e x) = true) : ∀ l : List α, shps n (l.map e) = true
  | [] => by rw [List.map_nil]; cases n <;> rfl
  | x :: r => by
    have : shps n (e x :: r.map e) = (shp n (e x) && shps n (r.map e)) := by cases n <;> rfl
    rw [List.map_cons, this, h x, shps_map h r]; rfl
instance {n : Nat} : Cmp n eI := ⟨fun _ => by cases n <;> rfl⟩
instance {n : Nat} : Cmp n eB := ⟨fun _ => by cases n <;> rfl⟩
instance {n : Nat} : Cmp n eN := ⟨fun _ => by cases n <;> rfl⟩
instance {α : Type} {n : Nat} {e : α → PV} [c : Cmp n e] : Cmp (n + 1) (eT e) := ⟨fun l => shps_map c.h l⟩
instance {α : Type} {n : Nat} {m : Md} {e : α → PV} [c : Cmp n e] : Cmp (n + 1) (eL m e) := ⟨fun l => shps_map c.h l⟩
instance {α β : Type} {n : Nat} {e : α → PV} {d : β → PV} [c : Cmp n e] [k : Cmp n d] : Cmp (n + 1) (eP e d) := ⟨fun p => by
  show shps n [e p.1, d p.2] = true
  have : shps n [e p.1, d p.2] = (shp n (e p.1) && (shp n (d p.2) && shps n [])) := by cases n <;> rfl
  rw [this, c.h, k.h]; cases n <;> rfl⟩
instance {α β γ : Type} {n : Nat} {e : α → PV} {d : β → PV} {c : γ → PV} [i : Cmp n e] [j : Cmp n d] [k : Cmp n c] : Cmp (n + 1) (eP3 e d c) := ⟨fun p => by
  show shps n [e p.1, d p.2.1, c p.2.2] = true
  have : shps n [e p.1, d p.2.1, c p.2.2] = (shp n (e p.1) && (shp n (d p.2.1) && (shp n (c p.2.2) && shps n []))) := by cases n <;> rfl
  rw [this, i.h, j.h, k.h]; cases n <;> rfl⟩
instance {α : Type} {n : Nat} {e : α → PV} [c : Cmp n e] : Cmp n (eO e) := ⟨fun x => by cases x; (cases n <;> rfl); exact c.h _⟩
theorem toDs_map : ∀ l : List PV, toDs l = l.map toD
  | [] => rfl
  | x :: r => by show toD x :: toDs r = _; rw [toDs_map r]; rfl
/-- no own list -/
class NoOw {α : Type} (e : α → PV) : Prop where h : ∀ x, noO (e x) = true
instance : NoOw eI := ⟨fun _ => rfl⟩
instance : NoOw eB := ⟨fun _ => rfl⟩
instance : NoOw eS := ⟨fun _ => rfl⟩
instance : NoOw eN := ⟨fun _ => rfl⟩
instance {α : Type} {e : α → PV} : NoOw (eT e) := ⟨fun _ => rfl⟩
instance {α β : Type} {e : α → PV} {d : β → PV} : NoOw (eP e d) := ⟨fun _ => rfl⟩
instance {α β γ : Type} {e : α → PV} {d : β → PV} {c : γ → PV} : NoOw (eP3 e d c) := ⟨fun _ => rfl⟩
instance {α : Type} {e : α → PV} : NoOw (eL .b e) := ⟨fun _ => rfl⟩
theorem noO_map {α : Type} {e : α → PV} [n : NoOw e] : ∀ l : List α, (l.map e).all noO = true
  | [] => rfl
  | x :: r => by rw [List.map_cons, List.all_cons, n.h x, noO_map r]; rfl
end Py
end

section
/-! PyS1: equality of typed values; expressions. -/
namespace Py
open PySem

theorem eqP_def (a b : PV) : eqP a b = PyData.eqv (toD a) (toD b) := rfl
instance : Eqv eI eI := ⟨fun x y => by show PyData.eqv (.int x) (.int y) = _; simp [PyData.eqv]; rw [Bool.eq_iff_iff]; simp⟩
instance : Eqv eB eB := ⟨fun x y => by cases x <;> cases y <;> rfl⟩
instance : Eqv eN eN := ⟨fun x y => by cases x; cases y; rfl⟩
instance : Eqv eS eS := ⟨fun x y => by
  show PyData.eqv (.str x) (.str y) = _
  simp [PyData.eqv]
  rw [Bool.eq_iff_iff]; simp⟩
theorem eqvAll_map {α : Type} [DecidableEq α] {e d : α → PV} (h : ∀ x y, eqP (e x) (d y) = decide (x = y)) : ∀ l m : List α, PyData.eqvAll (toDs (l.map e)) (toDs (m.map d)) = decide (l = m)
  | [], [] => by rw [PyData.eqvAll.eq_def]; rfl
  | [], y :: m => by rw [PyData.eqvAll.eq_def]; simp [toDs]
  | x :: l, [] => by rw [PyData.eqvAll.eq_def]; simp [toDs]
  | x :: l, y :: m => by
    rw [PyData.eqvAll.eq_def]
    show (PyData.eqv (toD (e x)) (toD (d y)) && PyData.eqvAll (toDs (l.map e)) (toDs (m.map d))) = _
    rw [eqvAll_map h l m, ← eqP_def, h]
    rw [Bool.eq_iff_iff]; simp
instance {α : Type} [DecidableEq α] {e d : α → PV} [q : Eqv e d] : Eqv (eT e) (eT d) := ⟨fun l m => by
  show PyData.eqv (.tuple (toDs (l.map e))) (.tuple (toDs (m.map d))) = _
  rw [PyData.eqv.eq_def]
  exact eqvAll_map q.h l m⟩
instance {α : Type} [DecidableEq α] {i j : Md} {e d : α → PV} [q : Eqv e d] : Eqv (eL i e) (eL j d) := ⟨fun l m => by
  show PyData.eqv (.list (toDs (l.map e))) (.list (toDs (m.map d))) = _
  rw [PyData.eqv.eq_def]
  exact eqvAll_map q.h l m⟩
instance {α β : Type} [DecidableEq α] [DecidableEq β] {e e' : α → PV} {d d' : β → PV} [q : Eqv e e'] [r : Eqv d d'] : Eqv (eP e d) (eP e' d') := ⟨fun l m => by
  show PyData.eqv (.tuple [toD (e l.1), toD (d l.2)]) (.tuple [toD (e' m.1), toD (d' m.2)]) = _
  simp only [PyData.eqv, PyData.eqvAll]
  rw [← eqP_def, ← eqP_def, q.h, r.h, Bool.eq_iff_iff]
  simp [Prod.ext_iff]⟩
instance {α β γ : Type} [DecidableEq α] [DecidableEq β] [DecidableEq γ] {e e' : α → PV} {d d' : β → PV} {c c' : γ → PV} [q : Eqv e e'] [r : Eqv d d'] [t : Eqv c c'] : Eqv (eP3 e d c) (eP3 e' d' c') := ⟨fun l m => by
  show PyData.eqv (.tuple [toD (e l.1), toD (d l.2.1), toD (c l.2.2)]) (.tuple [toD (e' m.1), toD (d' m.2.1), toD (c' m.2.2)]) = _
  simp only [PyData.eqv, PyData.eqvAll]
  rw [← eqP_def, ← eqP_def, ← eqP_def, q.h, r.h, t.h, Bool.eq_iff_iff]
  simp [Prod.ext_iff]⟩
/-- never none among them -/
class NoN {α : Type} (e : α → PV) : Prop where h : ∀ x, isNonB (e x) = false
instance : NoN eI := ⟨fun _ => rfl⟩
instance : NoN eB := ⟨fun _ => rfl⟩
instance : NoN eS := ⟨fun _ => rfl⟩
instance {α : Type} {e : α → PV} : NoN (eT e) := ⟨fun _ => rfl⟩
instance {α : Type} {m : Md} {e : α → PV} : NoN (eL m e) := ⟨fun _ => rfl⟩
instance {α β : Type} {e : α → PV} {d : β → PV} : NoN (eP e d) := ⟨fun _ => rfl⟩
instance {α β γ : Type} {e : α → PV} {d : β → PV} {c : γ → PV} : NoN (eP3 e d c) := ⟨fun _ => rfl⟩

section
variable {I : Py.St → Prop} {F : Nat → List PV → Py.St → R PV} {E : Env} {α β γ δ : Type} {e e' : α → PV} {d d' : β → PV} {c c' : γ → PV} {m : Dr α} {m2 : Dr β} {m3 : Dr γ} {a b g : ME}
theorem se_var {i : Nat} {x : α} (h : E[i]? = some (some (e x))) [r : Rdv e e'] : TE1 I e' (.ok x) (ev F (.var i) E) := .mk fun s hs => by
  refine ⟨e' x, s, ?_, hs, rfl⟩
  show (match E[i]? with | some (some v) => R.ok (rdV v) s | _ => R.bad) = _
  rw [h]
  show R.ok (rdV (e x)) s = _
  rw [r.h]
theorem se_mov {i : Nat} {x : α} (h : E[i]? = some (some (e x))) : TE1 I e (.ok x) (evm F (.var i) E) := .mk fun s hs => by
  refine ⟨e x, s, ?_, hs, rfl⟩
  show (match E[i]? with | some (some v) => R.ok v s | _ => R.bad) = _
  rw [h]
theorem se_evm (h : TE1 I e m (ev F a E)) (ha : ∀ i, a ≠ .var i) : TE1 I e m (evm F a E) := by
  have : evm F a E = ev F a E := by
    cases a <;> first | rfl | exact absurd rfl (ha _)
  rw [this]; exact h
theorem se_non : TE1 I eN (.ok ()) (ev F .non E) := SG.ok rfl
theorem se_bl {x : Bool} : TE1 I eB (.ok x) (ev F (.bl x) E) := SG.ok rfl
theorem se_int {x : Int} : TE1 I eI (.ok x) (ev F (.int x) E) := SG.ok rfl
theorem se_glo {x : Int} : TE1 I eI (.ok x) (ev F (.glo x) E) := SG.ok rfl
theorem se_str {x : Str} : TE1 I eS (.ok x) (ev F (.str x) E) := SG.ok rfl
theorem se_some (h : TE1 I e m (ev F a E)) : TE1 I (eO e) (m.bind fun x => .ok (some x)) (ev F a E) := .mk fun s hs => by
  have := h.h s hs
  have := Sm.bind (g := fun x => Dr.ok (some x)) (f := fun b s => R.ok b s) (rel2 := fun a b => b = eO e a) this fun a b s r i => ⟨b, s, rfl, i, r⟩
  have q : ∀ r : R PV, (r.bind fun b s => .ok b s) = r := fun r => by
    induction r with
    | ok => rfl
    | ex => rfl
    | bad => rfl
    | ask n k ih => show R.ask n _ = _; congr 1; funext i; exact ih i
  rw [q] at this
  exact this
theorem se_none : TE1 I (eO e) (.ok none) (ev F .non E) := SG.ok rfl
theorem se_bin {o : BOp} {r : γ → PV} {op : α → β → Dr γ} (h1 : TE1 I e m (ev F a E)) (h2 : TE1 I d m2 (ev F b E)) (ho : ∀ x y, SG I (fun a b => b = r a) (op x y) (fun s => okV (bop o (e x) (d y)) s)) : TE1 I r (m.bind fun x => m2.bind fun y => op x y) (ev F (.bin o a b) E) :=
  TE1.bind h1 fun x => TE1.bind h2 fun y => ho x y
abbrev dMul (x y : Int) : Dr Int := Dr.chk (mulOk x y) (.ok (x * y))
abbrev dDiv (x y : Int) : Dr Int := Dr.chk (decide (0 < y) && decide (y.natAbs < 2 ^ 4000)) (.ok (x / y))
abbrev dMod (x y : Int) : Dr Int := Dr.chk (decide (0 < y)) (.ok (x % y))
abbrev dPow (x y : Int) : Dr Int := Dr.chk (decide (0 ≤ y) && decide (y ≤ 1000000) && decide (x.natAbs < 2 ^ 64)) (.ok (x ^ y.toNat))
theorem se_add {m2 : Dr Int} {m : Dr Int} (h1 : TE1 I eI m (ev F a E)) (h2 : TE1 I eI m2 (ev F b E)) : TE1 I eI (m.bind fun x => m2.bind fun y => .ok (x + y)) (ev F (.bin .add a b) E) := se_bin h1 h2 fun x y => SG.ok rfl
theorem se_sub {m2 : Dr Int} {m : Dr Int} (h1 : TE1 I eI m (ev F a E)) (h2 : TE1 I eI m2 (ev F b E)) : TE1 I eI (m.bind fun x => m2.bind fun y => .ok (x - y)) (ev F (.bin .sub a b) E) := se_bin h1 h2 fun x y => SG.ok rfl
theorem okV_chk {p : Bool} {v : PV} {x : α} (h : v = e x) : SG I (fun a b => b = e a) (Dr.chk p (.ok x)) (fun s => okV (if p = true then some v else none) s) := .mk fun s hs => by
  cases p
  · rw [chk_f]; trivial
  · rw [chk_t]; exact ⟨v, s, rfl, hs, h⟩
theorem okV_chkP {p : Prop} [Decidable p] {v : PV} {x : α} (h : v = e x) : SG I (fun a b => b = e a) (Dr.chk (decide p) (.ok x)) (fun s => okV (if p then some v else none) s) := .mk fun s hs => by
  by_cases hp : p
  · rw [decide_eq_true hp, chk_t, if_pos hp]
    exact ⟨v, s, rfl, hs, h⟩
  · rw [decide_eq_false hp, chk_f]
    trivial
theorem se_mul {m2 : Dr Int} {m : Dr Int} (h1 : TE1 I eI m (ev F a E)) (h2 : TE1 I eI m2 (ev F b E)) : TE1 I eI (m.bind fun x => m2.bind fun y => dMul x y) (ev F (.bin .mul a b) E) := se_bin h1 h2 fun x y => okV_chk rfl
theorem se_fdiv {m2 : Dr Int} {m : Dr Int} (h1 : TE1 I eI m (ev F a E)) (h2 : TE1 I eI m2 (ev F b E)) : TE1 I eI (m.bind fun x => m2.bind fun y => dDiv x y) (ev F (.bin .fdiv a b) E) := se_bin h1 h2 fun x y => okV_chk rfl
theorem se_mod {m2 : Dr Int} {m : Dr Int} (h1 : TE1 I eI m (ev F a E)) (h2 : TE1 I eI m2 (ev F b E)) : TE1 I eI (m.bind fun x => m2.bind fun y => dMod x y) (ev F (.bin .mod a b) E) := se_bin h1 h2 fun x y => okV_chk rfl
theorem se_pow {m2 : Dr Int} {m : Dr Int} (h1 : TE1 I eI m (ev F a E)) (h2 : TE1 I eI m2 (ev F b E)) : TE1 I eI (m.bind fun x => m2.bind fun y => dPow x y) (ev F (.bin .pow a b) E) := se_bin h1 h2 fun x y => okV_chk rfl
/-- a list or tuple of at most so many -/
abbrev dLim {α : Type} (l : List α) : Dr (List α) := Dr.chk (decide (l.length ≤ sizeLine)) (.ok l)
theorem se_addT {e : α → PV} {m m2 : Dr (List α)} (h1 : TE1 I (eT e) m (ev F a E)) (h2 : TE1 I (eT e) m2 (ev F b E)) : TE1 I (eT e) (m.bind fun x => m2.bind fun y => dLim (x ++ y)) (ev F (.bin .add a b) E) := se_bin h1 h2 fun x y => by
  show SG I _ _ (fun s => okV (if (x.map e).length + (y.map e).length ≤ sizeLine then some (PV.tup (x.map e ++ y.map e)) else none) s)
  rw [List.length_map, List.length_map, ← List.length_append, ← List.map_append]
  exact okV_chkP rfl
theorem se_addL {i j : Md} {e e' d : α → PV} {m m2 : Dr (List α)} (h1 : TE1 I (eL i e) m (ev F a E)) (h2 : TE1 I (eL j e') m2 (ev F b E)) [q : Brw e d] [r : Brw e' d] : TE1 I (eL .o d) (m.bind fun x => m2.bind fun y => dLim (x ++ y)) (ev F (.bin .add a b) E) := se_bin h1 h2 fun x y => by
  show SG I _ _ (fun s => okV (if (x.map e).length + (y.map e').length ≤ sizeLine then some (PV.lst .o (brws (x.map e) ++ brws (y.map e'))) else none) s)
  rw [List.length_map, List.length_map, ← List.length_append, brws_map q.h, brws_map r.h, ← List.map_append]
  exact okV_chkP rfl
theorem se_addS {m m2 : Dr Str} (h1 : TE1 I eS m (ev F a E)) (h2 : TE1 I eS m2 (ev F b E)) : TE1 I eS (m.bind fun x => m2.bind fun y => Dr.chk (decide (x.length + y.length ≤ sizeLine)) (.ok (x ++ y))) (ev F (.bin .add a b) E) := se_bin h1 h2 fun x y => okV_chkP rfl
/-- [..] * n, (..) * n -/
def repL {α : Type} (x : List α) (j : Int) : List α := (List.replicate j.toNat x).flatten
theorem map_repl {α : Type} (f : α → PV) (x : List α) (n : Nat) : (List.replicate n (x.map f)).flatten = ((List.replicate n x).flatten).map f := by
  rw [List.map_flatten, List.map_replicate]
abbrev dRepL {α : Type} (x : List α) (j : Int) : Dr (List α) := Dr.chk (decide (-(2 ^ 63) ≤ j) && decide (j < 2 ^ 63) && decide (x.length * j.toNat ≤ sizeLine)) (.ok (repL x j))
abbrev dRepT {α : Type} (x : List α) (j : Int) : Dr (List α) := Dr.chk (decide (j = 1) || (decide (0 < x.length) && decide (2 ≤ j) && decide (j ≤ 1000) && decide (x.length ≤ 1000))) (.ok (repL x j))
theorem se_repL {i : Md} {e d : α → PV} {m : Dr (List α)} {m2 : Dr Int} (h1 : TE1 I (eL i e) m (ev F a E)) (h2 : TE1 I eI m2 (ev F b E)) [q : Brw e d] : TE1 I (eL .o d) (m.bind fun x => m2.bind fun y => dRepL x y) (ev F (.bin .mul a b) E) := se_bin h1 h2 fun x y => by
  show SG I _ _ (fun s => okV (if decide (-(2 ^ 63) ≤ y) && decide (y < 2 ^ 63) && decide ((x.map e).length * y.toNat ≤ sizeLine) then some (PV.lst .o (List.replicate y.toNat (brws (x.map e))).flatten) else none) s)
  rw [List.length_map, brws_map q.h, map_repl]
  exact okV_chk rfl
theorem se_repT {e : α → PV} {m : Dr (List α)} {m2 : Dr Int} (h1 : TE1 I (eT e) m (ev F a E)) (h2 : TE1 I eI m2 (ev F b E)) : TE1 I (eT e) (m.bind fun x => m2.bind fun y => dRepT x y) (ev F (.bin .mul a b) E) := se_bin h1 h2 fun x y => by
  show SG I _ _ (fun s => okV (if decide (y = 1) || (decide (0 < (x.map e).length) && decide (2 ≤ y) && decide (y ≤ 1000) && decide ((x.map e).length ≤ 1000)) then some (PV.tup (List.replicate y.toNat (x.map e)).flatten) else none) s)
  rw [List.length_map, map_repl]
  exact okV_chk rfl
theorem se_neg {m : Dr Int} (h : TE1 I eI m (ev F a E)) : TE1 I eI (m.bind fun x => .ok (-x)) (ev F (.neg a) E) := TE1.bind h fun x => SG.ok rfl
theorem se_nt {m : Dr Bool} (h : TE1 I eB m (ev F a E)) : TE1 I eB (m.bind fun x => .ok (!x)) (ev F (.nt a) E) := TE1.bind h fun x => SG.ok rfl
/-- a comparison by values -/
theorem se_cmp {o : COp} {op : α → β → Dr Bool} (h1 : TE1 I e m (ev F a E)) (h2 : TE1 I d m2 (ev F b E)) (ho : ∀ x y, TE1 I eB (op x y) (fun s => okV ((cop o (e x) (d y) s).map .bl) s)) : TE1 I eB (m.bind fun x => m2.bind fun y => op x y) (ev F (.cmp o a b) E) :=
  TE1.bind h1 fun x => TE1.bind h2 fun y => ho x y
theorem se_chn {o p : COp} {op : α → β → Dr Bool} {op2 : β → γ → Dr Bool} (h1 : TE1 I e m (ev F a E)) (h2 : TE1 I d m2 (ev F b E)) (h3 : TE1 I c m3 (ev F g E)) (ho : ∀ x y s, ∃ v, op x y = .ok v ∧ cop o (e x) (d y) s = some v) (hp : ∀ x y, TE1 I eB (op2 x y) (fun s => okV ((cop p (d x) (c y) s).map .bl) s)) : TE1 I eB (m.bind fun x => m2.bind fun y => (op x y).bind fun v => if v then m3.bind fun z => op2 y z else .ok false) (ev F (.chn o p a b g) E) :=
  TE1.bind h1 fun x => TE1.bind h2 fun y => by
    refine .mk fun s hs => ?_
    obtain ⟨v, e1, e2⟩ := ho x y s
    show Sm I _ _ (match cop o (e x) (d y) s with | some true => (ev F g E s).bind fun z s3 => okV ((cop p (d y) z s3).map PV.bl) s3 | some false => R.ok (PV.bl false) s | none => R.bad)
    rw [e1, e2]
    cases v with
    | true => exact (TE1.bind h3 fun z => hp y z).h s hs
    | false => exact ⟨PV.bl false, s, rfl, hs, rfl⟩
theorem cmp_lt (x y : Int) : TE1 I eB (.ok (decide (x < y))) (fun s => okV ((cop .lt (eI x) (eI y) s).map .bl) s) := SG.ok rfl
theorem cmp_le (x y : Int) : TE1 I eB (.ok (decide (x ≤ y))) (fun s => okV ((cop .le (eI x) (eI y) s).map .bl) s) := SG.ok rfl
theorem cmp_gt (x y : Int) : TE1 I eB (.ok (decide (y < x))) (fun s => okV ((cop .gt (eI x) (eI y) s).map .bl) s) := SG.ok rfl
theorem cmp_ge (x y : Int) : TE1 I eB (.ok (decide (y ≤ x))) (fun s => okV ((cop .ge (eI x) (eI y) s).map .bl) s) := SG.ok rfl
theorem cop_lt (x y : Int) (s : Py.St) : ∃ v, (Dr.ok (decide (x < y)) : Dr Bool) = .ok v ∧ cop .lt (eI x) (eI y) s = some v := ⟨_, rfl, rfl⟩
theorem cop_le (x y : Int) (s : Py.St) : ∃ v, (Dr.ok (decide (x ≤ y)) : Dr Bool) = .ok v ∧ cop .le (eI x) (eI y) s = some v := ⟨_, rfl, rfl⟩
theorem cop_gt (x y : Int) (s : Py.St) : ∃ v, (Dr.ok (decide (y < x)) : Dr Bool) = .ok v ∧ cop .gt (eI x) (eI y) s = some v := ⟨_, rfl, rfl⟩
theorem cop_ge (x y : Int) (s : Py.St) : ∃ v, (Dr.ok (decide (y ≤ x)) : Dr Bool) = .ok v ∧ cop .ge (eI x) (eI y) s = some v := ⟨_, rfl, rfl⟩
theorem cop_eqI (x y : Int) (s : Py.St) : ∃ v, (Dr.ok (decide (x = y)) : Dr Bool) = .ok v ∧ cop .eq (eI x) (eI y) s = some v := ⟨_, rfl, by
  show some (eqP (eI x) (eI y)) = _
  rw [Eqv.h x y]⟩
theorem cop_neI (x y : Int) (s : Py.St) : ∃ v, (Dr.ok (!decide (x = y)) : Dr Bool) = .ok v ∧ cop .ne (eI x) (eI y) s = some v := ⟨_, rfl, by
  show some (!eqP (eI x) (eI y)) = _
  rw [Eqv.h x y]⟩
theorem cmp_eq {d : α → PV} [DecidableEq α] [h1 : Cmp 30 e] [h2 : Cmp 30 d] [q : Eqv e d] (x y : α) : TE1 I eB (.ok (decide (x = y))) (fun s => okV ((cop .eq (e x) (d y) s).map .bl) s) := by
  have : ∀ s, cop .eq (e x) (d y) s = some (decide (x = y)) := fun s => by
    show (if (shp 30 (e x) && shp 30 (d y)) = true then some (eqP (e x) (d y)) else none) = _
    rw [h1.h, h2.h, q.h]; rfl
  simp only [this]
  exact SG.ok rfl
theorem cmp_ne {d : α → PV} [DecidableEq α] [h1 : Cmp 30 e] [h2 : Cmp 30 d] [q : Eqv e d] (x y : α) : TE1 I eB (.ok (!decide (x = y))) (fun s => okV ((cop .ne (e x) (d y) s).map .bl) s) := by
  have : ∀ s, cop .ne (e x) (d y) s = some (!decide (x = y)) := fun s => by
    show (if (shp 30 (e x) && shp 30 (d y)) = true then some (!eqP (e x) (d y)) else none) = _
    rw [h1.h, h2.h, q.h]; rfl
  simp only [this]
  exact SG.ok rfl
abbrev sOk (x y : Str) : Bool := PyData.strOk x && PyData.strOk y
theorem shp_str (x : Str) : shp 30 (.str x) = PyData.strOk x := rfl
theorem cmp_eqS (x y : Str) : TE1 I eB (Dr.chk (sOk x y) (.ok (decide (x = y)))) (fun s => okV ((cop .eq (eS x) (eS y) s).map .bl) s) := by
  have : ∀ s, (cop .eq (eS x) (eS y) s).map PV.bl = if (sOk x y) = true then some (eB (decide (x = y))) else none := fun s => by
    show (if sOk x y = true then some (eqP (eS x) (eS y)) else none).map PV.bl = _
    rw [Eqv.h x y]
    cases sOk x y <;> rfl
  simp only [this]
  exact okV_chk rfl
theorem cmp_neS (x y : Str) : TE1 I eB (Dr.chk (sOk x y) (.ok (!decide (x = y)))) (fun s => okV ((cop .ne (eS x) (eS y) s).map .bl) s) := by
  have : ∀ s, (cop .ne (eS x) (eS y) s).map PV.bl = if (sOk x y) = true then some (eB (!decide (x = y))) else none := fun s => by
    show (if sOk x y = true then some (!eqP (eS x) (eS y)) else none).map PV.bl = _
    rw [Eqv.h x y]
    cases sOk x y <;> rfl
  simp only [this]
  exact okV_chk rfl
/-- the empty tuple or list compared -/
theorem cmp_isO (x : Option α) (u : Unit) [n : NoN e] : TE1 I eB (.ok x.isNone) (fun s => okV ((cop .isN (eO e x) (eN u) s).map .bl) s) := by
  have : ∀ s, cop .isN (eO e x) (eN u) s = some x.isNone := fun s => by
    show some (isNonB (eO e x)) = _
    cases x with
    | none => rfl
    | some a => exact congrArg some (n.h a)
  simp only [this]
  exact SG.ok rfl
theorem cmp_notO (x : Option α) (u : Unit) [n : NoN e] : TE1 I eB (.ok x.isSome) (fun s => okV ((cop .notN (eO e x) (eN u) s).map .bl) s) := by
  have : ∀ s, cop .notN (eO e x) (eN u) s = some x.isSome := fun s => by
    show some (!isNonB (eO e x)) = _
    cases x with
    | none => rfl
    | some a => show some (!isNonB (e a)) = _; rw [n.h a]; rfl
  simp only [this]
  exact SG.ok rfl
theorem memP_map [DecidableEq α] {d : α → PV} [q : Eqv d e] (x : α) : ∀ l : List α, memP (e x) (l.map d) = decide (x ∈ l)
  | [] => rfl
  | y :: r => by
    show (eqP (d y) (e x) || memP (e x) (r.map d)) = _
    rw [memP_map x r, q.h]
    by_cases h : y = x
    · subst h
      rw [decide_eq_true rfl, Bool.true_or, decide_eq_true (List.mem_cons_self)]
    · rw [decide_eq_false h, Bool.false_or]
      exact decide_eq_decide.mpr ⟨fun k => List.mem_cons_of_mem _ k, fun k => (List.mem_cons.mp k).elim (fun z => absurd z.symm h) id⟩
/-- whether a thing is among others -/
abbrev dMem {α : Type} [DecidableEq α] (x : α) (l : List α) : Bool := decide (x ∈ l)
theorem cmp_inT [DecidableEq α] {d : α → PV} [h1 : Cmp 30 e] [h2 : Cmp 30 d] [q : Eqv d e] (x : α) (y : List α) : TE1 I eB (.ok (dMem x y)) (fun s => okV ((cop .inn (e x) (eT d y) s).map .bl) s) := by
  have : ∀ s, cop .inn (e x) (eT d y) s = some (decide (x ∈ y)) := fun s => by
    show (if (shp 30 (e x) && shps 30 (y.map d)) = true then some (memP (e x) (y.map d)) else none) = _
    rw [h1.h, shps_map h2.h, memP_map]; rfl
  simp only [this]
  exact SG.ok rfl
theorem cmp_ninT [DecidableEq α] {d : α → PV} [h1 : Cmp 30 e] [h2 : Cmp 30 d] [q : Eqv d e] (x : α) (y : List α) : TE1 I eB (.ok (!dMem x y)) (fun s => okV ((cop .nin (e x) (eT d y) s).map .bl) s) := by
  have : ∀ s, cop .nin (e x) (eT d y) s = some (!decide (x ∈ y)) := fun s => by
    show (if (shp 30 (e x) && shps 30 (y.map d)) = true then some (!memP (e x) (y.map d)) else none) = _
    rw [h1.h, shps_map h2.h, memP_map]; rfl
  simp only [this]
  exact SG.ok rfl
theorem cmp_inL [DecidableEq α] {i : Md} {d : α → PV} [h1 : Cmp 30 e] [h2 : Cmp 30 d] [q : Eqv d e] (x : α) (y : List α) : TE1 I eB (.ok (dMem x y)) (fun s => okV ((cop .inn (e x) (eL i d y) s).map .bl) s) := by
  have : ∀ s, cop .inn (e x) (eL i d y) s = some (decide (x ∈ y)) := fun s => by
    show (if (shp 30 (e x) && shps 30 (y.map d)) = true then some (memP (e x) (y.map d)) else none) = _
    rw [h1.h, shps_map h2.h, memP_map]; rfl
  simp only [this]
  exact SG.ok rfl
theorem cmp_ninL [DecidableEq α] {i : Md} {d : α → PV} [h1 : Cmp 30 e] [h2 : Cmp 30 d] [q : Eqv d e] (x : α) (y : List α) : TE1 I eB (.ok (!dMem x y)) (fun s => okV ((cop .nin (e x) (eL i d y) s).map .bl) s) := by
  have : ∀ s, cop .nin (e x) (eL i d y) s = some (!decide (x ∈ y)) := fun s => by
    show (if (shp 30 (e x) && shps 30 (y.map d)) = true then some (!memP (e x) (y.map d)) else none) = _
    rw [h1.h, shps_map h2.h, memP_map]; rfl
  simp only [this]
  exact SG.ok rfl
theorem se_and {m m2 : Dr Bool} (h1 : TE1 I eB m (ev F a E)) (h2 : TE1 I eB m2 (ev F b E)) : TE1 I eB (m.bind fun x => if x then m2 else .ok false) (ev F (.and a b) E) := TE1.bind h1 fun x => by
  cases x
  · exact SG.ok rfl
  · exact h2
theorem se_or {m m2 : Dr Bool} (h1 : TE1 I eB m (ev F a E)) (h2 : TE1 I eB m2 (ev F b E)) : TE1 I eB (m.bind fun x => if x then .ok true else m2) (ev F (.or a b) E) := TE1.bind h1 fun x => by
  cases x
  · exact h2
  · exact SG.ok rfl
/-- both sides without a fault -/
theorem se_andT {p q : Bool} (h1 : TE1 I eB (.ok p) (ev F a E)) (h2 : TE1 I eB (.ok q) (ev F b E)) : TE1 I eB (.ok (p && q)) (ev F (.and a b) E) := SG.cast (se_and h1 h2) (by cases p <;> rfl)
theorem se_orT {p q : Bool} (h1 : TE1 I eB (.ok p) (ev F a E)) (h2 : TE1 I eB (.ok q) (ev F b E)) : TE1 I eB (.ok (p || q)) (ev F (.or a b) E) := SG.cast (se_or h1 h2) (by cases p <;> rfl)
theorem se_ite {mc : Dr Bool} {m1 m2 : Dr α} (h : TE1 I eB mc (ev F g E)) (h1 : TE1 I e m1 (ev F a E)) (h2 : TE1 I e m2 (ev F b E)) : TE1 I e (mc.bind fun x => if x then m1 else m2) (ev F (.ite g a b) E) := TE1.bind h fun x => by
  cases x
  · exact h2
  · exact h1
theorem se_iteT {p : Bool} {x y : α} (h : TE1 I eB (.ok p) (ev F g E)) (h1 : TE1 I e (.ok x) (ev F a E)) (h2 : TE1 I e (.ok y) (ev F b E)) : TE1 I e (.ok (if p then x else y)) (ev F (.ite g a b) E) := SG.cast (se_ite h h1 h2) (by cases p <;> rfl)
end
end Py
end

section
/-! PyS2: displays, places, slices, built-ins, comprehensions, calls. -/
namespace Py
open PySem

section
variable {I : Py.St → Prop} {F : Nat → List PV → Py.St → R PV} {E : Env} {α β γ δ : Type} {e e' : α → PV} {d d' : β → PV} {c c' : γ → PV} {k k' : δ → PV} {m : Dr α} {m2 : Dr β} {m3 : Dr γ} {m4 : Dr δ} {a b g h : ME}

/-! ### some expressions behind each other -/
def noSt : ME → Bool
  | .star _ => false
  | _ => true
theorem evs_cns (ha : noSt a = true) (r : List ME) (s : Py.St) : evs F (a :: r) E s = (ev F a E s).bind fun x s1 => (evs F r E s1).bind fun zs s2 => .ok (x :: zs) s2 := by
  cases a <;> first | rfl | cases ha
/-- expressions' values, all together -/
abbrev SA {α : Type} (I : Py.St → Prop) (e : α → List PV) (m : Dr α) (f : Py.St → R (List PV)) : Prop := SG I (fun a b => b = e a) m f
theorem sa_nil : SA I (fun _ : Unit => []) (.ok ()) (evs F [] E) := SG.ok rfl
theorem sa_cons {r : List ME} {q : β → List PV} (h1 : TE1 I e m (ev F a E)) (h2 : SA I q m2 (evs F r E)) (ha : noSt a = true := by rfl) : SA I (fun p : α × β => e p.1 :: q p.2) (m.bind fun x => m2.bind fun y => .ok (x, y)) (evs F (a :: r) E) := .mk fun s hs => by
  rw [evs_cns ha]
  exact (TE1.bind h1 fun x => SG.bind h2 fun y b hb => by subst hb; exact SG.ok rfl).h s hs
theorem sa_1 (h1 : TE1 I e m (ev F a E)) (ha : noSt a = true := by rfl) : SA I (fun x : α => [e x]) m (evs F [a] E) := .mk fun s hs => by
  rw [evs_cns ha]
  have := (TE1.bind (g := fun x => Dr.ok x) (h := fun b s => R.ok [b] s) (rel2 := fun x b => b = [e x]) h1 fun x => (SG.ok rfl : SG I (fun x b => b = [e x]) (.ok x) (fun s => .ok [e x] s))).h s hs
  rw [dbind_pure] at this
  exact this
/-- things of one kind -/
theorem sh_nil : SA I (fun l : List α => l.map e) (.ok []) (evs F [] E) := SG.ok rfl
theorem sh_cons {r : List ME} {m : Dr α} {m2 : Dr (List α)} (h1 : TE1 I e m (ev F a E)) (h2 : SA I (fun l : List α => l.map e) m2 (evs F r E)) (ha : noSt a = true := by rfl) : SA I (fun l : List α => l.map e) (m.bind fun x => m2.bind fun y => .ok (x :: y)) (evs F (a :: r) E) := .mk fun s hs => by
  rw [evs_cns ha]
  exact (TE1.bind h1 fun x => SG.bind h2 fun y b hb => by subst hb; exact SG.ok rfl).h s hs
theorem sh_starT {r : List ME} {m m2 : Dr (List α)} (h1 : TE1 I (eT e) m (ev F a E)) (h2 : SA I (fun l : List α => l.map e) m2 (evs F r E)) : SA I (fun l : List α => l.map e) (m.bind fun x => m2.bind fun y => .ok (x ++ y)) (evs F (.star a :: r) E) :=
  TE1.bind h1 fun x => SG.bind h2 fun y b hb => by
    subst hb
    exact SG.ok List.map_append.symm
theorem sh_starL {i : Md} {r : List ME} {m m2 : Dr (List α)} (h1 : TE1 I (eL i e) m (ev F a E)) (h2 : SA I (fun l : List α => l.map e') m2 (evs F r E)) [q : Brw e e'] : SA I (fun l : List α => l.map e') (m.bind fun x => m2.bind fun y => .ok (x ++ y)) (evs F (.star a :: r) E) :=
  TE1.bind h1 fun x => by
    have : itemsOf (eL i e x) = some (x.map e') := by
      show some (brws (x.map e)) = _
      rw [brws_map q.h]
    refine .mk fun s hs => ?_
    show Sm I _ _ (match itemsOf (eL i e x) with | some ys => (evs F r E s).bind fun zs s2 => .ok (ys ++ zs) s2 | none => R.bad)
    rw [this]
    exact (SG.bind h2 fun y b hb => by subst hb; exact SG.ok List.map_append.symm).h s hs

/-! ### displays -/
theorem se_tupT {es : List ME} {m : Dr (List α)} (h : SA I (fun l : List α => l.map e) m (evs F es E)) [q : Brw e e'] : TE1 I (eT e') (m.bind dLim) (ev F (.tup es) E) :=
  SG.bind h fun x b hb => by
    subst hb
    show SG I _ _ (fun s => if (x.map e).length ≤ sizeLine then R.ok (PV.tup (brws (x.map e))) s else .bad)
    rw [List.length_map, brws_map q.h]
    exact SG.chkP (SG.ok rfl)
theorem se_lstL {es : List ME} {m : Dr (List α)} (h : SA I (fun l : List α => l.map e) m (evs F es E)) : TE1 I (eL .o e) (m.bind dLim) (ev F (.lst es) E) :=
  SG.bind h fun x b hb => by
    subst hb
    show SG I _ _ (fun s => if (x.map e).length ≤ sizeLine then R.ok (PV.lst .o (x.map e)) s else .bad)
    rw [List.length_map]
    exact SG.chkP (SG.ok rfl)
theorem le_line {n : Nat} (h : n ≤ 100) : n ≤ sizeLine := Nat.le_trans h (by show 100 ≤ 2 ^ 24; decide)
theorem se_tup0 : TE1 I (eT e) (.ok []) (ev F (.tup []) E) := .mk fun s hs => ⟨.tup [], s, rfl, hs, rfl⟩
theorem se_lst0 : TE1 I (eL .o e) (.ok []) (ev F (.lst []) E) := .mk fun s hs => ⟨.lst .o [], s, rfl, hs, rfl⟩
theorem se_tup1 (h1 : TE1 I e m (ev F a E)) [q : Brw e e'] (ha : noSt a = true := by rfl) : TE1 I (eT e') (m.bind fun x => .ok [x]) (ev F (.tup [a]) E) := by
  refine SG.cast (se_tupT (e := e) (sh_cons h1 sh_nil ha)) ?_
  rw [dbind_assoc]
  exact congrArg (Dr.bind m) (funext fun x => chk_true (decide_eq_true (le_line (n := 1) (by decide))) _)
theorem se_lst1 (h1 : TE1 I e m (ev F a E)) (ha : noSt a = true := by rfl) : TE1 I (eL .o e) (m.bind fun x => .ok [x]) (ev F (.lst [a]) E) := by
  refine SG.cast (se_lstL (e := e) (sh_cons h1 sh_nil ha)) ?_
  rw [dbind_assoc]
  exact congrArg (Dr.bind m) (funext fun x => chk_true (decide_eq_true (le_line (n := 1) (by decide))) _)
theorem se_pair (h1 : TE1 I e m (ev F a E)) (h2 : TE1 I d m2 (ev F b E)) [q : Brw e e'] [r : Brw d d'] (ha : noSt a = true := by rfl) (hb : noSt b = true := by rfl) : TE1 I (eP e' d') (m.bind fun x => m2.bind fun y => .ok (x, y)) (ev F (.tup [a, b]) E) := .mk fun s hs => by
  show Sm I _ _ ((evs F [a, b] E s).bind fun xs s1 => if xs.length ≤ sizeLine then R.ok (PV.tup (brws xs)) s1 else .bad)
  have := (sa_cons (q := fun y => [d y]) h1 (sa_1 h2 hb) ha).h s hs
  have z := Sm.bind (g := fun p : α × β => Dr.ok p) (rel2 := fun p b => b = eP e' d' p) (f := fun xs s1 => if xs.length ≤ sizeLine then R.ok (PV.tup (brws xs)) s1 else R.bad) this (fun p b s r i => by
    subst r
    show Sm I _ _ (if 2 ≤ sizeLine then R.ok (PV.tup [brw (e p.1), brw (d p.2)]) s else R.bad)
    rw [if_pos (le_line (by decide)), q.h, r.h]
    exact ⟨_, s, rfl, i, rfl⟩)
  rw [dbind_pure] at z
  exact z
theorem se_trip (h1 : TE1 I e m (ev F a E)) (h2 : TE1 I d m2 (ev F b E)) (h3 : TE1 I c m3 (ev F g E)) [q : Brw e e'] [r : Brw d d'] [t : Brw c c'] (ha : noSt a = true := by rfl) (hb : noSt b = true := by rfl) (hc : noSt g = true := by rfl) : TE1 I (eP3 e' d' c') (m.bind fun x => m2.bind fun y => m3.bind fun z => .ok (x, y, z)) (ev F (.tup [a, b, g]) E) := .mk fun s hs => by
  show Sm I _ _ ((evs F [a, b, g] E s).bind fun xs s1 => if xs.length ≤ sizeLine then R.ok (PV.tup (brws xs)) s1 else .bad)
  have := (sa_cons h1 (sa_cons (q := fun y => [c y]) h2 (sa_1 h3 hc) hb) ha).h s hs
  have z := Sm.bind (g := fun p : α × β × γ => Dr.ok p) (rel2 := fun p b => b = eP3 e' d' c' p) (f := fun xs s1 => if xs.length ≤ sizeLine then R.ok (PV.tup (brws xs)) s1 else R.bad) this (fun p b s i j => by
    subst i
    show Sm I _ _ (if 3 ≤ sizeLine then R.ok (PV.tup [brw (e p.1), brw (d p.2.1), brw (c p.2.2)]) s else R.bad)
    rw [if_pos (le_line (by decide)), q.h, r.h, t.h]
    exact ⟨_, s, rfl, j, rfl⟩)
  rw [dbind_pure] at z
  have w : (m.bind fun x => (m2.bind fun y => m3.bind fun z => Dr.ok (y, z)).bind fun y => Dr.ok (x, y)) = (m.bind fun x => m2.bind fun y => m3.bind fun z => Dr.ok (x, y, z)) := congrArg (Dr.bind m) (funext fun x => by rw [dbind_assoc]; exact congrArg (Dr.bind m2) (funext fun y => by rw [dbind_assoc]; rfl))
  rw [w] at z
  exact z

/-! ### places -/
def dAt {α : Type} (l : List α) (i : Int) : Dr α := Dr.of ((ixOf l.length i).bind fun j => l[j]?)
theorem atP_map (l : List α) (i : Int) : atP (l.map e) i = ((ixOf l.length i).bind fun j => l[j]?).map e := by
  unfold atP
  rw [List.length_map]
  cases ixOf l.length i with
  | none => rfl
  | some j => show (l.map e)[j]? = (l[j]?).map e; rw [List.getElem?_map]
theorem okV_of {o : Option α} {e : α → PV} : TE1 I e (Dr.of o) (fun s => okV (o.map e) s) := .mk fun s hs => by
  cases o with
  | none => trivial
  | some x => exact ⟨e x, s, rfl, hs, rfl⟩
theorem se_idxT {m : Dr (List α)} {m2 : Dr Int} (h1 : TE1 I (eT e) m (ev F a E)) (h2 : TE1 I eI m2 (ev F b E)) : TE1 I e (m.bind fun x => m2.bind fun i => dAt x i) (ev F (.idx a b) E) :=
  TE1.bind h1 fun x => TE1.bind h2 fun i => by
    show SG I _ _ (fun s => okV (atP (x.map e) i) s)
    rw [atP_map]
    exact okV_of
theorem se_idxL {j : Md} {m : Dr (List α)} {m2 : Dr Int} (h1 : TE1 I (eL j e) m (ev F a E)) (h2 : TE1 I eI m2 (ev F b E)) [q : Brw e e'] : TE1 I e' (m.bind fun x => m2.bind fun i => dAt x i) (ev F (.idx a b) E) :=
  TE1.bind h1 fun x => TE1.bind h2 fun i => by
    show SG I _ _ (fun s => okV ((atP (x.map e) i).map brw) s)
    rw [atP_map, Option.map_map, show brw ∘ e = e' from funext q.h]
    exact okV_of
theorem se_fst {m : Dr (α × β)} (h1 : TE1 I (eP e d) m (ev F a E)) : TE1 I e (m.bind fun p => .ok p.1) (ev F (.idx a (.int 0)) E) := TE1.bind h1 fun p => SG.ok rfl
theorem se_snd {m : Dr (α × β)} (h1 : TE1 I (eP e d) m (ev F a E)) : TE1 I d (m.bind fun p => .ok p.2) (ev F (.idx a (.int 1)) E) := TE1.bind h1 fun p => SG.ok rfl
theorem se_31 {m : Dr (α × β × γ)} (h1 : TE1 I (eP3 e d c) m (ev F a E)) : TE1 I e (m.bind fun p => .ok p.1) (ev F (.idx a (.int 0)) E) := TE1.bind h1 fun p => SG.ok rfl
theorem se_32 {m : Dr (α × β × γ)} (h1 : TE1 I (eP3 e d c) m (ev F a E)) : TE1 I d (m.bind fun p => .ok p.2.1) (ev F (.idx a (.int 1)) E) := TE1.bind h1 fun p => SG.ok rfl
theorem se_33 {m : Dr (α × β × γ)} (h1 : TE1 I (eP3 e d c) m (ev F a E)) : TE1 I c (m.bind fun p => .ok p.2.2) (ev F (.idx a (.int 2)) E) := TE1.bind h1 fun p => SG.ok rfl

/-! ### slices -/
theorem cutP_map (l : List α) (lo hi : Option Int) : cutP (l.map e) lo hi = (cutP l lo hi).map e := by
  unfold cutP
  rw [List.length_map, List.map_take, List.map_drop]
/-- a part of a slice -/
abbrev SO (I : Py.St → Prop) (F : Nat → List PV → Py.St → R PV) (E : Env) (m : Dr (Option Int)) (l : Bool) (lo : ME) : Prop := SG I (fun a b => b = a) m (fun s => if l then (ev F lo E s).bind partI else .ok none s)
theorem so_none : SO I F E (.ok none) false .nil := SG.ok rfl
theorem so_some {m : Dr Int} {lo : ME} (h : TE1 I eI m (ev F lo E)) : SO I F E (m.bind fun i => .ok (some i)) true lo := TE1.bind h fun i => SG.ok rfl
theorem se_slcT {m : Dr (List α)} {n p : Dr (Option Int)} {l r : Bool} {lo hi : ME} (h1 : TE1 I (eT e) m (ev F a E)) (h2 : SO I F E n l lo) (h3 : SO I F E p r hi) : TE1 I (eT e) (m.bind fun x => n.bind fun i => p.bind fun j => .ok (cutP x i j)) (ev F (.slc a l lo r hi) E) :=
  TE1.bind h1 fun x => SG.bind h2 fun i i' hi' => SG.bind h3 fun j j' hj' => by
    subst hi' hj'
    show SG I _ _ (fun s => okV (some (PV.tup (cutP (x.map e) i' j'))) s)
    rw [cutP_map]
    exact SG.ok rfl
theorem se_slcL {t : Md} {m : Dr (List α)} {n p : Dr (Option Int)} {l r : Bool} {lo hi : ME} (h1 : TE1 I (eL t e) m (ev F a E)) (h2 : SO I F E n l lo) (h3 : SO I F E p r hi) [q : Brw e e'] : TE1 I (eL .o e') (m.bind fun x => n.bind fun i => p.bind fun j => .ok (cutP x i j)) (ev F (.slc a l lo r hi) E) :=
  TE1.bind h1 fun x => SG.bind h2 fun i i' hi' => SG.bind h3 fun j j' hj' => by
    subst hi' hj'
    show SG I _ _ (fun s => okV (some (PV.lst .o (brws (cutP (x.map e) i' j')))) s)
    rw [cutP_map, brws_map q.h]
    exact SG.ok rfl
theorem se_revT {m : Dr (List α)} (h1 : TE1 I (eT e) m (ev F a E)) : TE1 I (eT e) (m.bind fun x => .ok x.reverse) (ev F (.rev a) E) :=
  TE1.bind h1 fun x => by
    show SG I _ _ (fun s => okV (some (PV.tup (x.map e).reverse)) s)
    rw [← List.map_reverse]
    exact SG.ok rfl
theorem se_revL {t : Md} {m : Dr (List α)} (h1 : TE1 I (eL t e) m (ev F a E)) [q : Brw e e'] : TE1 I (eL .o e') (m.bind fun x => .ok x.reverse) (ev F (.rev a) E) :=
  TE1.bind h1 fun x => by
    show SG I _ _ (fun s => okV (some (PV.lst .o (brws (x.map e).reverse))) s)
    rw [← List.map_reverse, brws_map q.h]
    exact SG.ok rfl

/-! ### built-ins -/
theorem se_b1 {b : Blt} {op : α → Dr β} (h : TE1 I e m (ev F a E)) (ho : ∀ x, TE1 I d (op x) (fun s => bltin b [e x] s)) (ha : noSt a = true := by rfl) : TE1 I d (m.bind op) (ev F (.blt b [a]) E) := SG.bind (sa_1 h ha) fun x q hq => by subst hq; exact ho x
theorem se_b2 {b : Blt} {op : α → β → Dr γ} {a2 : ME} (h : TE1 I e m (ev F a E)) (h2 : TE1 I d m2 (ev F a2 E)) (ho : ∀ x y, TE1 I c (op x y) (fun s => bltin b [e x, d y] s)) (ha : noSt a = true := by rfl) (ha2 : noSt a2 = true := by rfl) : TE1 I c (m.bind fun x => m2.bind fun y => op x y) (ev F (.blt b [a, a2]) E) := by
  have := SG.bind (g := fun p : α × β => op p.1 p.2) (h := fun xs s => bltin b xs s) (rel2 := fun x y => y = c x) (sa_cons (q := fun y => [d y]) h (sa_1 h2 ha2) ha) fun p q hq => by subst hq; exact ho p.1 p.2
  refine SG.cast this ?_
  rw [dbind_assoc]
  exact congrArg (Dr.bind m) (funext fun x => by rw [dbind_assoc]; rfl)
theorem blt_lenT (x : List α) : TE1 I eI (.ok (x.length : Int)) (fun s => bltin .len [eT e x] s) := by
  show SG I _ _ (fun s => R.ok (PV.int ((x.map e).length : Nat)) s)
  rw [List.length_map]
  exact SG.ok rfl
theorem blt_lenL {i : Md} (x : List α) : TE1 I eI (.ok (x.length : Int)) (fun s => bltin .len [eL i e x] s) := by
  show SG I _ _ (fun s => R.ok (PV.int ((x.map e).length : Nat)) s)
  rw [List.length_map]
  exact SG.ok rfl
theorem blt_lenS (x : Str) : TE1 I eI (Dr.chk (decide (x.length ≤ sizeLine)) (.ok (x.length : Int))) (fun s => bltin .len [eS x] s) := SG.chkP (SG.ok rfl)
theorem blt_tupleT (x : List α) : TE1 I (eT e) (.ok x) (fun s => bltin .tuple [eT e x] s) := SG.ok rfl
theorem blt_tupleL {i : Md} (x : List α) [q : Brw e e'] : TE1 I (eT e') (.ok x) (fun s => bltin .tuple [eL i e x] s) := by
  show SG I _ _ (fun s => R.ok (PV.tup (brws (x.map e))) s)
  rw [brws_map q.h]
  exact SG.ok rfl
theorem blt_listT (x : List α) : TE1 I (eL .o e) (.ok x) (fun s => bltin .list [eT e x] s) := SG.ok rfl
theorem blt_listL {i : Md} (x : List α) [q : Brw e e'] : TE1 I (eL .o e') (.ok x) (fun s => bltin .list [eL i e x] s) := by
  show SG I _ _ (fun s => R.ok (PV.lst .o (brws (x.map e))) s)
  rw [brws_map q.h]
  exact SG.ok rfl
theorem intsOf_map : ∀ l : List Int, intsOf (l.map eI) = some l
  | [] => rfl
  | x :: r => by show (intsOf (r.map eI)).map _ = _; rw [intsOf_map r]; rfl
theorem blsOf_map : ∀ l : List Bool, blsOf (l.map eB) = some l
  | [] => rfl
  | x :: r => by show (blsOf (r.map eB)).map _ = _; rw [blsOf_map r]; rfl
theorem blt_sumT (x : List Int) : TE1 I eI (.ok x.sum) (fun s => bltin .sum [eT eI x] s) := by
  show SG I _ _ (fun s => match intsOf (x.map eI) with | some ns => R.ok (PV.int ns.sum) s | none => .bad)
  rw [intsOf_map]; exact SG.ok rfl
theorem blt_sumL {i : Md} (x : List Int) : TE1 I eI (.ok x.sum) (fun s => bltin .sum [eL i eI x] s) := by
  show SG I _ _ (fun s => match intsOf (x.map eI) with | some ns => R.ok (PV.int ns.sum) s | none => .bad)
  rw [intsOf_map]; exact SG.ok rfl
def dMax : List Int → Dr Int
  | [] => .bad
  | m :: ns => .ok (maxI m ns)
def dMin : List Int → Dr Int
  | [] => .bad
  | m :: ns => .ok (minI m ns)
theorem blt_maxL {i : Md} (x : List Int) : TE1 I eI (dMax x) (fun s => bltin .max [eL i eI x] s) := by
  show SG I _ _ (fun s => match intsOf (x.map eI) with | some (m :: ns) => R.ok (PV.int (maxI m ns)) s | _ => .bad)
  rw [intsOf_map]
  cases x with
  | nil => exact .mk fun _ _ => trivial
  | cons m ns => exact SG.ok rfl
theorem blt_minL {i : Md} (x : List Int) : TE1 I eI (dMin x) (fun s => bltin .min [eL i eI x] s) := by
  show SG I _ _ (fun s => match intsOf (x.map eI) with | some (m :: ns) => R.ok (PV.int (minI m ns)) s | _ => .bad)
  rw [intsOf_map]
  cases x with
  | nil => exact .mk fun _ _ => trivial
  | cons m ns => exact SG.ok rfl
theorem blt_max2 (x y : Int) : TE1 I eI (.ok (if y > x then y else x)) (fun s => bltin .max [eI x, eI y] s) := SG.ok rfl
theorem blt_min2 (x y : Int) : TE1 I eI (.ok (if y < x then y else x)) (fun s => bltin .min [eI x, eI y] s) := SG.ok rfl
theorem blt_abs (x : Int) : TE1 I eI (.ok (if x < 0 then -x else x)) (fun s => bltin .abs [eI x] s) := SG.ok rfl
theorem blt_int (x : Int) : TE1 I eI (.ok x) (fun s => bltin .int [eI x] s) := SG.ok rfl
theorem blt_intB (x : Bool) : TE1 I eI (.ok (if x then 1 else 0)) (fun s => bltin .int [eB x] s) := SG.ok rfl
theorem ltP_ints (x y : Int) : ltP (eI x) (eI y) = some (decide (x < y)) := rfl
def insJ (x : Int) : List Int → List Int
  | [] => [x]
  | y :: r => if y < x then y :: insJ x r else x :: y :: r
def srtI : List Int → List Int
  | [] => []
  | x :: r => insJ x (srtI r)
theorem insP_map (x : Int) : ∀ l : List Int, insP (eI x) (l.map eI) = (insJ x l).map eI
  | [] => rfl
  | y :: r => by
    show (if ltP (eI y) (eI x) = some true then eI y :: insP (eI x) (r.map eI) else eI x :: eI y :: r.map eI) = _
    rw [ltP_ints, insP_map x r]
    show _ = (if y < x then y :: insJ x r else x :: y :: r).map eI
    by_cases h : y < x
    · rw [if_pos (by rw [decide_eq_true h]), if_pos h]; rfl
    · rw [if_neg (by rw [decide_eq_false h]; intro z; cases z), if_neg h]; rfl
theorem sortP_map : ∀ l : List Int, sortP (l.map eI) = (srtI l).map eI
  | [] => rfl
  | x :: r => by
    show insP (eI x) (sortP (r.map eI)) = _
    rw [sortP_map r, insP_map]; rfl
theorem blt_sortT (x : List Int) : TE1 I (eL .o eI) (.ok (srtI x)) (fun s => bltin .sorted [eT eI x] s) := by
  show SG I _ _ (fun s => match intsOf (x.map eI) with | some _ => R.ok (PV.lst .o (sortP (x.map eI))) s | none => .bad)
  rw [intsOf_map, sortP_map]
  exact SG.ok rfl
theorem blt_sortL {i : Md} (x : List Int) : TE1 I (eL .o eI) (.ok (srtI x)) (fun s => bltin .sorted [eL i eI x] s) := by
  show SG I _ _ (fun s => match intsOf (x.map eI) with | some _ => R.ok (PV.lst .o (sortP (x.map eI))) s | none => if sortOk (x.map eI) = true then R.ok (PV.lst .o (sortP (x.map eI))) s else .bad)
  rw [intsOf_map, sortP_map]
  exact SG.ok rfl
/-- repr -/
def dRepr (v : PV) : Dr Str := Dr.chk (shp 30 v && (toD v).showable && decide ((toD v).shown.length ≤ sizeLine)) (.ok (toD v).shown)
theorem blt_repr (x : α) : TE1 I eS (dRepr (e x)) (fun s => bltin .repr [e x] s) := by
  have : (fun s => bltin .repr [e x] s) = fun s => if shp 30 (e x) && (toD (e x)).showable && decide ((toD (e x)).shown.length ≤ sizeLine) then R.ok (PV.str (toD (e x)).shown) s else .bad := by
    funext s
    generalize e x = v
    cases v <;> rfl
  rw [this]
  exact SG.chk (SG.ok rfl)
theorem blt_str (x : Int) : TE1 I eS (Dr.chk (decide (x.natAbs.log2 < 1920)) (.ok ((toString x : String) : Str))) (fun s => bltin .str [eI x] s) := SG.chkP (SG.ok rfl)
theorem blt_anyL {i : Md} (x : List Bool) : TE1 I eB (.ok (x.any id)) (fun s => bltin .any [eL i eB x] s) := by
  show SG I _ _ (fun s => match blsOf (x.map eB) with | some bs => R.ok (PV.bl (bs.any id)) s | none => .bad)
  rw [blsOf_map]; exact SG.ok rfl
theorem blt_allL {i : Md} (x : List Bool) : TE1 I eB (.ok (x.all id)) (fun s => bltin .all [eL i eB x] s) := by
  show SG I _ _ (fun s => match blsOf (x.map eB) with | some bs => R.ok (PV.bl (bs.all id)) s | none => .bad)
  rw [blsOf_map]; exact SG.ok rfl
end
end Py
end

section
/-! PyS3: walks, comprehensions, calls, statements. -/
namespace Py
open PySem

def rngI (a : Int) : Nat → List Int
  | 0 => []
  | n + 1 => a :: rngI (a + 1) n
def rng3I (a c : Int) : Nat → List Int
  | 0 => []
  | n + 1 => a :: rng3I (a + c) c n
def enuI {α : Type} (i : Nat) : List α → List (Int × α)
  | [] => []
  | x :: r => ((i : Int), x) :: enuI (i + 1) r
theorem rngP_map : ∀ (n : Nat) (a : Int), rngP a n = (rngI a n).map eI
  | 0, _ => rfl
  | n + 1, a => by show PV.int a :: rngP (a + 1) n = _; rw [rngP_map n]; rfl
theorem rng3P_map (c : Int) : ∀ (n : Nat) (a : Int), rng3P a c n = (rng3I a c n).map eI
  | 0, _ => rfl
  | n + 1, a => by show PV.int a :: rng3P (a + c) c n = _; rw [rng3P_map c n]; rfl
theorem enumP_map {α : Type} (e : α → PV) : ∀ (l : List α) (i : Nat), enumP i (l.map e) = (enuI i l).map (eP eI e)
  | [], _ => rfl
  | x :: r, i => by show PV.tup [.int i, e x] :: enumP (i + 1) (r.map e) = _; rw [enumP_map e r]; rfl
theorem zipP_map {α β : Type} (e : α → PV) (d : β → PV) : ∀ (l : List α) (r : List β), zipP (l.map e) (r.map d) = (l.zip r).map (eP e d)
  | [], _ => by simp [zipP]
  | _ :: _, [] => by simp [zipP]
  | x :: l, y :: r => by show PV.tup [e x, d y] :: zipP (l.map e) (r.map d) = _; rw [zipP_map e d l r]; rfl

inductive Fw (σ ρ : Type) where
  | nx (s : σ) | bk (s : σ) | rt (r : ρ)
def Fw.go {σ ρ τ : Type} (g : σ → Dr τ) (k : ρ → τ) : Fw σ ρ → Dr τ
  | .nx s => g s
  | .bk s => g s
  | .rt r => .ok (k r)
@[simp] theorem go_nx {σ ρ τ : Type} (g : σ → Dr τ) (k : ρ → τ) (s : σ) : Fw.go g k (.nx s) = g s := rfl
@[simp] theorem go_rt {σ ρ τ : Type} (g : σ → Dr τ) (k : ρ → τ) (r : ρ) : Fw.go g k (.rt r) = .ok (k r) := rfl
def lcD {α β : Type} (f : α → Dr (Option β)) : List α → Dr (List β)
  | [] => .ok []
  | x :: r => (f x).bind fun o => (lcD f r).bind fun zs => .ok (match o with | some z => z :: zs | none => zs)
def forS {α σ : Type} (f : α → σ → Dr σ) : List α → σ → Dr σ
  | [], s => .ok s
  | x :: r, s => (f x s).bind fun s1 => forS f r s1
def forD {α σ ρ : Type} (f : α → σ → Dr (Fw σ ρ)) : List α → σ → Dr (Fw σ ρ)
  | [], s => .ok (.nx s)
  | x :: r, s => (f x s).bind fun w => match w with
    | .nx s1 => forD f r s1
    | .bk s1 => .ok (.nx s1)
    | .rt v => .ok (.rt v)
def whileS {σ : Type} (t : σ → Dr Bool) (f : σ → Dr σ) : Nat → σ → Dr σ
  | 0, _ => .bad
  | n + 1, s => (t s).bind fun c => if c then (f s).bind fun s1 => whileS t f n s1 else .ok s
def whileD {σ ρ : Type} (t : σ → Dr Bool) (f : σ → Dr (Fw σ ρ)) : Nat → σ → Dr (Fw σ ρ)
  | 0, _ => .bad
  | n + 1, s => (t s).bind fun c => if c then (f s).bind fun w => match w with
    | .nx s1 => whileD t f n s1
    | .bk s1 => .ok (.nx s1)
    | .rt v => .ok (.rt v)
    else .ok (.nx s)
theorem forS_pure {α σ : Type} (f : α → σ → σ) : ∀ (l : List α) (s : σ), forS (fun x s => .ok (f x s)) l s = .ok (l.foldl (fun s x => f x s) s)
  | [], _ => rfl
  | x :: r, s => forS_pure f r (f x s)
theorem lcD_map {α β : Type} (f : α → β) : ∀ l : List α, lcD (fun x => .ok (some (f x))) l = .ok (l.map f)
  | [] => rfl
  | x :: r => by show (lcD _ r).bind _ = _; rw [lcD_map f r]; rfl
theorem lcD_filter {α β : Type} (p : α → Bool) (f : α → β) : ∀ l : List α, lcD (fun x => .ok (if p x then some (f x) else none)) l = .ok ((l.filter p).map f)
  | [] => rfl
  | x :: r => by
    show (lcD _ r).bind _ = _
    rw [lcD_filter p f r, List.filter_cons]
    cases p x <;> rfl
def dNoEx {α : Type} : Dr α → Dr α
  | .ok a => .ok a
  | .ex _ _ => .bad
  | .bad => .bad
  | .ask n k => .ask n fun i => dNoEx (k i)

section
variable {I : Py.St → Prop} {F : Nat → List PV → Py.St → R PV} {E : Env} {α β γ δ σ ρ τ : Type} {e e' : α → PV} {d d' : β → PV} {c c' : γ → PV} {k k' : δ → PV} {m : Dr α} {m2 : Dr β} {m3 : Dr γ} {m4 : Dr δ} {a b g h : ME}
theorem Sm.noEx {α β : Type} {rel : α → β → Prop} : ∀ {m : Dr α} {r : R β}, Sm I rel m r → Sm I rel (dNoEx m) (noEx r)
  | .ok a, r, ⟨b, s, e, h1, h2⟩ => by subst e; exact ⟨b, s, rfl, h1, h2⟩
  | .ex c v, r, ⟨s, e, h⟩ => trivial
  | .bad, _, _ => trivial
  | .ask n k, r, ⟨k', e, h⟩ => by subst e; exact ⟨fun i => Py.noEx (k' i), rfl, fun i hi => Sm.noEx (h i hi)⟩

/-! ### walks -/
abbrev SI {α : Type} (I : Py.St → Prop) (e : α → PV) (fl : Bool) (m : Dr (List α)) (f : Py.St → R (List PV × Bool)) : Prop := SG I (fun l q => q = (l.map e, fl)) m f
abbrev dRng1 (n : Int) : Dr (List Int) := Dr.chk (smallI n) (.ok (rngI 0 n.toNat))
abbrev dRng2 (i j : Int) : Dr (List Int) := Dr.chk (smallI i && smallI j) (.ok (rngI i (j - i).toNat))
abbrev dRngD (i j : Int) : Dr (List Int) := Dr.chk (smallI i && smallI j) (.ok (rng3I i (-1) (i - j).toNat))
theorem si_rg1 {m : Dr Int} (h : TE1 I eI m (ev F a E)) : SI I eI true (m.bind dRng1) (evi F (.rg1 a) E) := TE1.bind h fun n => by
  show SG I _ _ (fun s => if smallI n then R.ok (rngP 0 n.toNat, true) s else .bad)
  rw [rngP_map]
  exact SG.chk (SG.ok rfl)
theorem si_rg2 {m m2 : Dr Int} (h : TE1 I eI m (ev F a E)) (h2 : TE1 I eI m2 (ev F b E)) : SI I eI true (m.bind fun i => m2.bind fun j => dRng2 i j) (evi F (.rg2 a b) E) := TE1.bind h fun i => TE1.bind h2 fun j => by
  show SG I _ _ (fun s => if smallI i && smallI j then R.ok (rngP i (j - i).toNat, true) s else .bad)
  rw [rngP_map]
  exact SG.chk (SG.ok rfl)
theorem si_rg3 {m m2 : Dr Int} (h : TE1 I eI m (ev F a E)) (h2 : TE1 I eI m2 (ev F b E)) : SI I eI true (m.bind fun i => m2.bind fun j => dRngD i j) (evi F (.rg3 a b (.neg (.int 1))) E) := TE1.bind h fun i => TE1.bind h2 fun j => by
  show SG I _ _ (fun s => if smallI i && smallI j then R.ok (rng3P i (-1) (i - j).toNat, true) s else .bad)
  rw [rng3P_map]
  exact SG.chk (SG.ok rfl)
/-- what may be walked -/
class Its {α β : Type} (e : β → PV) (t : outParam (β → List α)) (d : outParam (α → PV)) (fl : outParam Bool) : Prop where
  i : ∀ x, itemsOf (e x) = some ((t x).map d)
  n : ∀ x, nob (e x) = fl
  s : ∀ x, (∃ l, e x = .tup l) ∨ ∃ m l, e x = .lst m l
instance {e : α → PV} [n : Nob e] : Its (eT e) (fun l : List α => l) e true := ⟨fun _ => rfl, fun x => Nob.h (e := eT e) x, fun _ => .inl ⟨_, rfl⟩⟩
instance {e e' : α → PV} [n : Nob e] [q : Brw e e'] : Its (eL .o e) (fun l : List α => l) e' true := ⟨fun x => by show some (brws (x.map e)) = _; rw [brws_map q.h], fun x => Nob.h (e := eL .o e) x, fun _ => .inr ⟨_, _, rfl⟩⟩
instance {e e' : α → PV} [n : Nob e] [q : Brw e e'] : Its (eL .f e) (fun l : List α => l) e' true := ⟨fun x => by show some (brws (x.map e)) = _; rw [brws_map q.h], fun x => Nob.h (e := eL .f e) x, fun _ => .inr ⟨_, _, rfl⟩⟩
instance {e e' : α → PV} [q : Brw e e'] : Its (eL .b e) (fun l : List α => l) e' false := ⟨fun x => by show some (brws (x.map e)) = _; rw [brws_map q.h], fun x => rfl, fun _ => .inr ⟨_, _, rfl⟩⟩
instance {e e' : α → PV} [q : Brw e e'] : Its (eL .t e) (fun l : List α => l) e' false := ⟨fun x => by show some (brws (x.map e)) = _; rw [brws_map q.h], fun x => rfl, fun _ => .inr ⟨_, _, rfl⟩⟩
instance : Its (eP eI eI) (fun p : Int × Int => [p.1, p.2]) eI true := ⟨fun _ => rfl, fun _ => rfl, fun _ => .inl ⟨_, rfl⟩⟩
theorem si_sq {e : β → PV} {t : β → List α} {d : α → PV} {fl : Bool} {m : Dr β} (h : TE1 I e m (ev F a E)) [q : Its e t d fl] : SI I d fl (m.bind fun x => .ok (t x)) (evi F (.sq a) E) := TE1.bind h fun x => by
  have h1 := q.i x
  have h2 := q.n x
  show SG I _ _ (fun s => match e x with | .tup xs => R.ok (xs, nob (e x)) s | .lst _ xs => .ok (brws xs, nob (e x)) s | .str z => .ok (z.cps.toList.map fun c => .str ⟨#[c]⟩, true) s | _ => .bad)
  rcases q.s x with ⟨l, e1⟩ | ⟨m, l, e1⟩
  · rw [e1] at h1 h2 ⊢
    have z : l = (t x).map d := Option.some.inj h1
    exact SG.ok (by rw [h2, z])
  · rw [e1] at h1 h2 ⊢
    have z : brws l = (t x).map d := Option.some.inj h1
    exact SG.ok (by rw [h2, z])
theorem si_enu {e : β → PV} {t : β → List α} {d : α → PV} {fl : Bool} {m : Dr β} (h : TE1 I e m (ev F a E)) [q : Its e t d fl] : SI I (eP eI d) fl (m.bind fun x => .ok (enuI 0 (t x))) (evi F (.enu a) E) := TE1.bind h fun x => by
  show SG I _ _ (fun s => match itemsOf (e x) with | some xs => R.ok (enumP 0 xs, nob (e x)) s | none => .bad)
  simp only [q.i, q.n, enumP_map]
  exact SG.ok rfl
theorem si_zp {α' β' : Type} {e : β → PV} {t : β → List α} {d : α → PV} {fl : Bool} {m : Dr β} {e2 : β' → PV} {t2 : β' → List α'} {d2 : α' → PV} {fl2 : Bool} {m2 : Dr β'} (h : TE1 I e m (ev F a E)) (h2 : TE1 I e2 m2 (ev F b E)) [q : Its e t d fl] [q2 : Its e2 t2 d2 fl2] : SI I (eP d d2) (fl && fl2) (m.bind fun x => m2.bind fun y => .ok ((t x).zip (t2 y))) (evi F (.zp a b) E) := TE1.bind h fun x => TE1.bind h2 fun y => by
  show SG I _ _ (fun s => match itemsOf (e x), itemsOf (e2 y) with | some xs, some ys => R.ok (zipP xs ys, nob (e x) && nob (e2 y)) s | _, _ => .bad)
  simp only [q.i, q.n, q2.i, q2.n, zipP_map]
  exact SG.ok rfl

/-! ### comprehensions -/
theorem sm_lc {f : α → Dr (Option β)} {q : PV → Py.St → R (Option PV)} : ∀ {l : List α}, (∀ x ∈ l, SG I (fun (o : Option β) p => p = o.map d) (f x) (q (e x))) → SG I (fun (r : List β) p => p = r.map d) (lcD f l) (lcL q (l.map e))
  | [], _ => SG.ok rfl
  | x :: r, h => SG.bind (h x List.mem_cons_self) fun o p hp => SG.bind (sm_lc fun y hy => h y (List.mem_cons_of_mem _ hy)) fun zs ps hz => by
    subst hp hz
    cases o <;> exact SG.ok rfl
theorem SG.noEx {rel : α → β → Prop} {f : Py.St → R β} (h : SG I rel m f) : SG I rel (dNoEx m) (fun s => Py.noEx (f s)) := .mk fun s hs => Sm.noEx (h.h s hs)
abbrev dLc {α β : Type} (f : α → Dr (Option β)) (l : List α) : Dr (List β) := Dr.chk (decide (l.length ≤ sizeLine)) (dNoEx (lcD f l))
theorem se_lc {tg : Tg} {own : List Nat} {it ct t : ME} {hc : Bool} {fl : Bool} {mi : Dr (List α)} {f : α → Dr (Option β)} {E2 : α → Env} (hi : SI I e fl mi (evi F it E)) (hb : ∀ x, bindT tg (e x) (wipeE E own) = some (E2 x))
    (hf : ∀ x, SG I (fun (o : Option β) p => p = o.map d) (f x) (fun s2 => (if hc then (ev F ct (E2 x) s2).bind condB else .ok true s2).bind fun k s3 => if k then (ev F t (E2 x) s3).bind fun z s4 => .ok (some z) s4 else .ok none s3)) :
    TE1 I (eL .o d) (mi.bind fun l => dLc f l) (ev F (.lc tg own it hc ct t) E) := SG.bind hi fun l q hq => by
  subst hq
  have z : SG I (fun (r : List β) p => p = r.map d) (dNoEx (lcD f l)) (fun s1 => Py.noEx (lcL (fun x s2 => match bindT tg x (wipeE E own) with
      | none => R.bad
      | some e2 => (if hc then (ev F ct e2 s2).bind condB else .ok true s2).bind fun k s3 => if k then (ev F t e2 s3).bind fun z s4 => .ok (some z) s4 else .ok none s3) (l.map e) s1)) := SG.noEx (sm_lc fun x hx => by
    simp only [hb]
    exact hf x)
  have y := SG.bind (g := fun r : List β => Dr.ok r) (rel2 := fun r p => p = eL .o d r) (h := fun zs s5 => R.ok (PV.lst .o zs) s5) z fun r p hp => by subst hp; exact SG.ok rfl
  rw [dbind_pure] at y
  show SG I _ _ (fun s1 => if (l.map e).length ≤ sizeLine then _ else R.bad)
  rw [List.length_map]
  exact SG.chkP y
theorem lc_yes {t : ME} {E2 : Env} {m2 : Dr β} (h : TE1 I d m2 (ev F t E2)) {ct : ME} : SG I (fun (o : Option β) p => p = o.map d) (m2.bind fun z => .ok (some z)) (fun s2 => (if false then (ev F ct E2 s2).bind condB else .ok true s2).bind fun k s3 => if k then (ev F t E2 s3).bind fun z s4 => .ok (some z) s4 else .ok none s3) := TE1.bind h fun z => SG.ok rfl
theorem lc_if {t ct : ME} {E2 : Env} {m1 : Dr Bool} {m2 : Dr β} (h1 : TE1 I eB m1 (ev F ct E2)) (h : TE1 I d m2 (ev F t E2)) : SG I (fun (o : Option β) p => p = o.map d) (m1.bind fun k => if k then m2.bind fun z => .ok (some z) else .ok none) (fun s2 => (if true then (ev F ct E2 s2).bind condB else .ok true s2).bind fun k s3 => if k then (ev F t E2 s3).bind fun z s4 => .ok (some z) s4 else .ok none s3) := .mk fun s hs => by
  show Sm I _ _ (((ev F ct E2 s).bind condB).bind _)
  rw [rbind_assoc]
  exact Sm.bind (h1.h s hs) fun x y s1 hy h1 => by
    subst hy
    show Sm I _ _ (if x then (ev F t E2 s1).bind fun z s4 => R.ok (some z) s4 else .ok none s1)
    cases x
    · exact ⟨none, s1, rfl, h1, rfl⟩
    · exact Sm.bind (h.h s1 h1) fun z y s2 hy h2 => ⟨some y, s2, rfl, h2, by subst hy; rfl⟩
theorem dNoEx_ok (x : α) : dNoEx (Dr.ok x) = .ok x := rfl
/-- without faults -/
theorem se_lcT {tg : Tg} {own : List Nat} {it ct t : ME} {fl : Bool} {mi : Dr (List α)} {f : α → β} {E2 : α → Env} (hi : SI I e fl mi (evi F it E)) (hb : ∀ x, bindT tg (e x) (wipeE E own) = some (E2 x))
    (hf : ∀ x, TE1 I d (.ok (f x)) (ev F t (E2 x))) : TE1 I (eL .o d) (mi.bind fun l => Dr.chk (decide (l.length ≤ sizeLine)) (.ok (l.map f))) (ev F (.lc tg own it false ct t) E) :=
  SG.cast (se_lc hi hb fun x => lc_yes (hf x)) (congrArg (Dr.bind mi) (funext fun l => congrArg (Dr.chk _) (by
    show dNoEx (lcD (fun x => .ok (some (f x))) l) = _
    rw [lcD_map]; rfl)))
theorem se_lcF {tg : Tg} {own : List Nat} {it ct t : ME} {fl : Bool} {mi : Dr (List α)} {f : α → β} {p : α → Bool} {E2 : α → Env} (hi : SI I e fl mi (evi F it E)) (hb : ∀ x, bindT tg (e x) (wipeE E own) = some (E2 x))
    (hp : ∀ x, TE1 I eB (.ok (p x)) (ev F ct (E2 x))) (hf : ∀ x, TE1 I d (.ok (f x)) (ev F t (E2 x))) : TE1 I (eL .o d) (mi.bind fun l => Dr.chk (decide (l.length ≤ sizeLine)) (.ok ((l.filter p).map f))) (ev F (.lc tg own it true ct t) E) :=
  SG.cast (se_lc hi hb fun x => lc_if (hp x) (hf x)) (congrArg (Dr.bind mi) (funext fun l => congrArg (Dr.chk _) (by
    have : (fun x => (Dr.ok (p x)).bind fun k => if k then (Dr.ok (f x)).bind fun z => .ok (some z) else .ok none) = fun x => Dr.ok (if p x then some (f x) else none) := by
      funext x
      show (if p x then Dr.ok (some (f x)) else .ok none) = _
      cases p x <;> rfl
    rw [this, lcD_filter]; rfl)))

/-! ### calls -/
theorem se_call1 {f : Nat} {op : α → Dr β} (h : TE1 I e m (ev F a E)) [q : Brw e e'] (ho : ∀ x, TE1 I d (op x) (fun s => F f [e' x] s)) (ha : noSt a = true := by rfl) : TE1 I d (m.bind op) (ev F (.call f [a]) E) := SG.bind (sa_1 h ha) fun x l hl => by
  subst hl
  show SG I _ _ (fun s => F f [brw (e x)] s)
  rw [q.h]; exact ho x
theorem se_call2 {f : Nat} {op : α → β → Dr γ} (h : TE1 I e m (ev F a E)) (h2 : TE1 I d m2 (ev F b E)) [q : Brw e e'] [q2 : Brw d d'] (ho : ∀ x y, TE1 I c (op x y) (fun s => F f [e' x, d' y] s)) (ha : noSt a = true := by rfl) (hb : noSt b = true := by rfl) : TE1 I c (m.bind fun x => m2.bind fun y => op x y) (ev F (.call f [a, b]) E) := by
  refine SG.cast (SG.bind (g := fun p : α × β => op p.1 p.2) (h := fun l s => F f (brws l) s) (rel2 := fun x y => y = c x) (sa_cons (q := fun y => [d y]) h (sa_1 h2 hb) ha) fun p l hl => ?_) ?_
  · subst hl
    show SG I _ _ (fun s => F f [brw (e p.1), brw (d p.2)] s)
    rw [q.h, q2.h]; exact ho _ _
  · rw [dbind_assoc]
    exact congrArg (Dr.bind m) (funext fun x => by rw [dbind_assoc]; rfl)
theorem se_call3 {f : Nat} {op : α → β → γ → Dr δ} (h : TE1 I e m (ev F a E)) (h2 : TE1 I d m2 (ev F b E)) (h3 : TE1 I c m3 (ev F g E)) [q : Brw e e'] [q2 : Brw d d'] [q3 : Brw c c'] (ho : ∀ x y z, TE1 I k (op x y z) (fun s => F f [e' x, d' y, c' z] s)) (ha : noSt a = true := by rfl) (hb : noSt b = true := by rfl) (hc : noSt g = true := by rfl) : TE1 I k (m.bind fun x => m2.bind fun y => m3.bind fun z => op x y z) (ev F (.call f [a, b, g]) E) := by
  refine SG.cast (SG.bind (g := fun p : α × β × γ => op p.1 p.2.1 p.2.2) (h := fun l s => F f (brws l) s) (rel2 := fun x y => y = k x) (sa_cons h (sa_cons (q := fun y => [c y]) h2 (sa_1 h3 hc) hb) ha) fun p l hl => ?_) ?_
  · subst hl
    show SG I _ _ (fun s => F f [brw (e p.1), brw (d p.2.1), brw (c p.2.2)] s)
    rw [q.h, q2.h, q3.h]; exact ho _ _ _
  · simp only [dbind_assoc, dbind_ok]
theorem se_call4 {f : Nat} {kt : τ → PV} {g2 : ME} {op : α → β → γ → δ → Dr τ} (h1 : TE1 I e m (ev F a E)) (h2 : TE1 I d m2 (ev F b E)) (h3 : TE1 I c m3 (ev F g E)) (h4 : TE1 I k m4 (ev F g2 E)) [q : Brw e e'] [q2 : Brw d d'] [q3 : Brw c c'] [q4 : Brw k k'] (ho : ∀ x y z w, TE1 I kt (op x y z w) (fun s => F f [e' x, d' y, c' z, k' w] s)) (ha : noSt a = true := by rfl) (hb : noSt b = true := by rfl) (hc : noSt g = true := by rfl) (hd : noSt g2 = true := by rfl) : TE1 I kt (m.bind fun x => m2.bind fun y => m3.bind fun z => m4.bind fun w => op x y z w) (ev F (.call f [a, b, g, g2]) E) := by
  refine SG.cast (SG.bind (g := fun p : α × β × γ × δ => op p.1 p.2.1 p.2.2.1 p.2.2.2) (h := fun l s => F f (brws l) s) (rel2 := fun x y => y = kt x) (sa_cons h1 (sa_cons h2 (sa_cons (q := fun y => [k y]) h3 (sa_1 h4 hd) hc) hb) ha) fun p l hl => ?_) ?_
  · subst hl
    show SG I _ _ (fun s => F f [brw (e p.1), brw (d p.2.1), brw (c p.2.2.1), brw (k p.2.2.2)] s)
    rw [q.h, q2.h, q3.h, q4.h]; exact ho _ _ _ _
  · simp only [dbind_assoc, dbind_ok]
theorem se_un {m : Dr (Option α)} {f : Py.St → R PV} (h : TE1 I (eO e) m f) : TE1 I e (m.bind Dr.of) f := .mk fun s hs => by
  have := Sm.bind (g := Dr.of) (f := fun b s => R.ok b s) (rel2 := fun a b => b = e a) (h.h s hs) fun a b s r i => by
    subst r
    cases a with
    | none => trivial
    | some x => exact ⟨e x, s, rfl, i, rfl⟩
  have q : ∀ r : R PV, (r.bind fun b s => .ok b s) = r := fun r => by
    induction r with
    | ok => rfl
    | ex => rfl
    | bad => rfl
    | ask n k ih => show R.ask n _ = _; congr 1; funext i; exact ih i
  rw [q] at this
  exact this

/-! ### draws -/
abbrev dPick (k : Int) : Dr Int := Dr.chk (decide (k ≤ 1000000)) (.ask (max 1 k.toNat) fun i => .ok (i : Int))
theorem se_pick {m : Dr Unit} {m2 : Dr Int} (h1 : TE1 I eSrc m (ev F a E)) (h2 : TE1 I eI m2 (ev F b E)) : TE1 I eI (m.bind fun _ => m2.bind dPick) (ev F (.pick a b) E) := TE1.bind h1 fun _ => TE1.bind h2 fun n => by
  show SG I _ _ (fun s => if n ≤ 1000000 then R.ask (max 1 n.toNat) fun i => R.ok (PV.int i) s else .bad)
  exact SG.chkP <| .mk fun s hs => ⟨_, rfl, fun i hi => ⟨_, s, rfl, hs, rfl⟩⟩
end
end Py
end

section
/-! PyS4: statements, defs. -/
namespace Py
open PySem

section
variable {I : Py.St → Prop} {F : Nat → List PV → Py.St → R PV} {E : Env} {α β γ δ σ ρ τ : Type} {e e' : α → PV} {d d' : β → PV} {c c' : γ → PV} {k k' : δ → PV} {m : Dr α} {m2 : Dr β} {m3 : Dr γ} {m4 : Dr δ} {a b g h : ME} {rel : τ → Fl → Prop} {rest : List MS}

theorem exs_cons (x : MS) (r : List MS) (E : Env) (s : Py.St) : exs F (x :: r) E s = (ex F x E s).bind fun f s1 => match f with | .nx e1 => exs F r e1 s1 | g => .ok g s1 := rfl
theorem exs_app : ∀ (A B : List MS) (E : Env) (s : Py.St), exs F (A ++ B) E s = (exs F A E s).bind fun f s1 => match f with | .nx e1 => exs F B e1 s1 | g => .ok g s1
  | [], B, E, s => rfl
  | x :: A, B, E, s => by
    rw [List.cons_append, exs_cons, exs_cons, rbind_assoc]
    congr 1
    funext f s1
    cases f with
    | nx e1 => exact exs_app A B e1 s1
    | _ => rfl

/-- what a body's end is -/
abbrev relRet {α : Type} (e : α → PV) : α → Fl → Prop := fun a f => f = .rt (e a)
def relS {σ : Type} (envR : σ → Env → Prop) : σ → Fl → Prop := fun st f => ∃ e, (f = .nx e ∨ f = .ct e) ∧ envR st e
def relW {σ ρ : Type} (envR : σ → Env → Prop) (er : ρ → PV) : Fw σ ρ → Fl → Prop
  | .nx st, f => ∃ e, (f = .nx e ∨ f = .ct e) ∧ envR st e
  | .bk st, f => ∃ e, f = .bk e ∧ envR st e
  | .rt r, f => f = .rt (er r)

theorem sx_ret (h : TE1 I e m (evm F a E)) (w : α → τ) (hw : ∀ x, rel (w x) (.rt (e x))) : SG I rel (m.bind fun x => .ok (w x)) (exs F (.ret a :: rest) E) := .mk fun s hs => by
  show Sm I rel _ (((evm F a E s).bind fun v s1 => R.ok (Fl.rt v) s1).bind _)
  rw [rbind_assoc]
  exact Sm.bind (h.h s hs) fun x v s1 hv h1 => by subst hv; exact ⟨_, s1, rfl, h1, hw x⟩
theorem sx_retF (h : TE1 I e m (evm F a E)) : SG I (relRet e) m (exs F (.ret a :: rest) E) := SG.cast (sx_ret h (fun x => x) fun x => rfl) (dbind_pure m)
theorem sx_retW {envR : σ → Env → Prop} (h : TE1 I e m (evm F a E)) : SG I (relW envR e) (m.bind fun x => .ok (.rt x)) (exs F (.ret a :: rest) E) := sx_ret h _ fun x => rfl
theorem sx_retWT {envR : σ → Env → Prop} {x : α} (h : TE1 I e (.ok x) (evm F a E)) : SG I (relW envR e) (.ok (.rt x)) (exs F (.ret a :: rest) E) := sx_retW h
theorem sx_endS {envR : σ → Env → Prop} {st : σ} (h : envR st E) : SG I (relS envR) (.ok st) (exs F [] E) := .mk fun s hs => ⟨_, s, rfl, hs, E, .inl rfl, h⟩
theorem sx_contS {envR : σ → Env → Prop} {st : σ} (h : envR st E) : SG I (relS envR) (.ok st) (exs F (.cont :: rest) E) := .mk fun s hs => ⟨_, s, rfl, hs, E, .inr rfl, h⟩
theorem sx_endW {envR : σ → Env → Prop} {er : ρ → PV} {st : σ} (h : envR st E) : SG I (relW envR er) (.ok (.nx st)) (exs F [] E) := .mk fun s hs => ⟨_, s, rfl, hs, E, .inl rfl, h⟩
theorem sx_contW {envR : σ → Env → Prop} {er : ρ → PV} {st : σ} (h : envR st E) : SG I (relW envR er) (.ok (.nx st)) (exs F (.cont :: rest) E) := .mk fun s hs => ⟨_, s, rfl, hs, E, .inr rfl, h⟩
theorem sx_brkW {envR : σ → Env → Prop} {er : ρ → PV} {st : σ} (h : envR st E) : SG I (relW envR er) (.ok (.bk st)) (exs F (.brk :: rest) E) := .mk fun s hs => ⟨_, s, rfl, hs, E, rfl, h⟩
theorem sx_pass {m : Dr τ} (h : SG I rel m (exs F rest E)) : SG I rel m (exs F (.pass :: rest) E) := h
theorem esc_nob {v : PV} {vs : List Nat} {E : Env} (h : nob v = true) : esc v vs E = E := by unfold esc; rw [h]; rfl
theorem sx_asg {i : Nat} {g2 : α → Dr τ} (h : TE1 I e m (ev F a E)) [n : Nob e] (hi : i < E.length) (h2 : ∀ x, SG I rel (g2 x) (exs F rest (E.set i (some (e x))))) : SG I rel (m.bind g2) (exs F (.asg i a :: rest) E) := .mk fun s hs => by
  show Sm I rel _ (((ev F a E s).bind fun v s1 => if i < E.length then R.ok (Fl.nx ((esc v (fv a) E).set i (some v))) s1 else .bad).bind _)
  rw [rbind_assoc]
  refine Sm.bind (h.h s hs) fun x v s1 hv h1 => ?_
  subst hv
  rw [if_pos hi, esc_nob (n.h x)]
  exact (h2 x).h s1 h1
/-- what is lent stays lent: the slots behind, told -/
theorem sx_asgB {i : Nat} {g2 : α → Dr τ} {E2 : Env} (h : TE1 I e m (ev F a E)) (hn : ∀ x, nob (e x) = false) (hi : i < E.length) (hE : giveA brw (fv a) 0 E = E2) (h2 : ∀ x, SG I rel (g2 x) (exs F rest (E2.set i (some (e x))))) : SG I rel (m.bind g2) (exs F (.asg i a :: rest) E) := .mk fun s hs => by
  show Sm I rel _ (((ev F a E s).bind fun v s1 => if i < E.length then R.ok (Fl.nx ((esc v (fv a) E).set i (some v))) s1 else .bad).bind _)
  rw [rbind_assoc]
  refine Sm.bind (h.h s hs) fun x v s1 hv h1 => ?_
  subst hv
  have : esc (e x) (fv a) E = E2 := by unfold esc; rw [hn x]; exact hE
  rw [if_pos hi, this]
  exact (h2 x).h s1 h1
theorem sx_exp {g2 : α → Dr τ} (h : TE1 I e m (ev F a E)) [n : Nob e] (h2 : ∀ x, SG I rel (g2 x) (exs F rest E)) : SG I rel (m.bind g2) (exs F (.exp a :: rest) E) := .mk fun s hs => by
  show Sm I rel _ (((ev F a E s).bind fun v s1 => R.ok (Fl.nx (esc v (fv a) E)) s1).bind _)
  rw [rbind_assoc]
  refine Sm.bind (h.h s hs) fun x v s1 hv h1 => ?_
  subst hv
  rw [rbind_ok, esc_nob (n.h x)]
  exact (h2 x).h s1 h1
/-- targets of several names -/
theorem sx_unp {tg : Tg} {g2 : α → Dr τ} {E2 : α → Env} (h : TE1 I e m (ev F a E)) [n : Nob e] [q : Brw e e'] (hb : ∀ x, bindT tg (e' x) E = some (E2 x)) (h2 : ∀ x, SG I rel (g2 x) (exs F rest (E2 x))) : SG I rel (m.bind g2) (exs F (.unp tg a :: rest) E) := .mk fun s hs => by
  show Sm I rel _ (((ev F a E s).bind fun v s1 => match bindT tg (brw v) (esc v (fv a) E) with | some e1 => R.ok (Fl.nx e1) s1 | none => .bad).bind _)
  rw [rbind_assoc]
  refine Sm.bind (h.h s hs) fun x v s1 hv h1 => ?_
  subst hv
  rw [esc_nob (n.h x), q.h, hb]
  exact (h2 x).h s1 h1
theorem nobs_cons (x : PV) (l : List PV) : nobs (x :: l) = (nob x && nobs l) := rfl
theorem sx_par2 {i j : Nat} {g2 : α → β → Dr τ} (h1 : TE1 I e m (ev F a E)) (h2 : TE1 I d m2 (ev F b E)) [n : Nob e] [n2 : Nob d] (hi : i < E.length) (hj : j < E.length) (h3 : ∀ x y, SG I rel (g2 x y) (exs F rest ((E.set i (some (e x))).set j (some (d y))))) (ha : noSt a = true := by rfl) (hb : noSt b = true := by rfl) : SG I rel (m.bind fun x => m2.bind fun y => g2 x y) (exs F (.par [.v i, .v j] [a, b] :: rest) E) := .mk fun s hs => by
  show Sm I rel _ (((evs F [a, b] E s).bind fun vs s1 => (plcs F [.v i, .v j] vs (esc (.tup vs) (fvs [a, b]) E) s1).bind fun e1 s2 => R.ok (Fl.nx e1) s2).bind _)
  rw [rbind_assoc]
  have w : (m.bind fun x => m2.bind fun y => g2 x y) = (m.bind fun x => m2.bind fun y => Dr.ok (x, y)).bind fun p : α × β => g2 p.1 p.2 := by simp only [dbind_assoc, dbind_ok]
  rw [w]
  refine Sm.bind ((sa_cons (q := fun y => [d y]) h1 (sa_1 h2 hb) ha).h s hs) fun p v s1 hv q1 => ?_
  subst hv
  have hn : nob (.tup [e p.1, d p.2]) = true := by show (nob (e p.1) && (nob (d p.2) && true)) = true; rw [n.h, n2.h]; rfl
  rw [esc_nob hn]
  show Sm I rel _ ((((if i < E.length then R.ok (E.set i (some (e p.1))) s1 else .bad).bind fun e1 s1 => (if j < e1.length then R.ok (e1.set j (some (d p.2))) s1 else .bad).bind fun e1 s1 => R.ok e1 s1).bind fun e1 s2 => R.ok (Fl.nx e1) s2).bind _)
  rw [if_pos hi]
  show Sm I rel _ ((((if j < (E.set i (some (e p.1))).length then R.ok ((E.set i (some (e p.1))).set j (some (d p.2))) s1 else .bad).bind fun e1 s1 => R.ok e1 s1).bind fun e1 s2 => R.ok (Fl.nx e1) s2).bind _)
  rw [if_pos (by rw [List.length_set]; exact hj)]
  exact (h3 p.1 p.2).h s1 q1
theorem sx_par3 {i j l : Nat} {g2 : α → β → γ → Dr τ} (h1 : TE1 I e m (ev F a E)) (h2 : TE1 I d m2 (ev F b E)) (h2' : TE1 I c m3 (ev F g E)) [n : Nob e] [n2 : Nob d] [n3 : Nob c] (hi : i < E.length) (hj : j < E.length) (hl : l < E.length) (h3 : ∀ x y z, SG I rel (g2 x y z) (exs F rest (((E.set i (some (e x))).set j (some (d y))).set l (some (c z))))) (ha : noSt a = true := by rfl) (hb : noSt b = true := by rfl) (hc : noSt g = true := by rfl) : SG I rel (m.bind fun x => m2.bind fun y => m3.bind fun z => g2 x y z) (exs F (.par [.v i, .v j, .v l] [a, b, g] :: rest) E) := .mk fun s hs => by
  show Sm I rel _ (((evs F [a, b, g] E s).bind fun vs s1 => (plcs F [.v i, .v j, .v l] vs (esc (.tup vs) (fvs [a, b, g]) E) s1).bind fun e1 s2 => R.ok (Fl.nx e1) s2).bind _)
  rw [rbind_assoc]
  have w : (m.bind fun x => m2.bind fun y => m3.bind fun z => g2 x y z) = (m.bind fun x => (m2.bind fun y => m3.bind fun z => Dr.ok (y, z)).bind fun p => Dr.ok (x, p)).bind fun p : α × β × γ => g2 p.1 p.2.1 p.2.2 := by simp only [dbind_assoc, dbind_ok]
  rw [w]
  refine Sm.bind ((sa_cons h1 (sa_cons (q := fun y => [c y]) h2 (sa_1 h2' hc) hb) ha).h s hs) fun p v s1 hv q1 => ?_
  subst hv
  have hn : nob (.tup [e p.1, d p.2.1, c p.2.2]) = true := by show (nob (e p.1) && (nob (d p.2.1) && (nob (c p.2.2) && true))) = true; rw [n.h, n2.h, n3.h]; rfl
  rw [esc_nob hn]
  show Sm I rel _ ((((if i < E.length then R.ok (E.set i (some (e p.1))) s1 else .bad).bind fun e1 s1 => (if j < e1.length then R.ok (e1.set j (some (d p.2.1))) s1 else .bad).bind fun e1 s1 => (if l < e1.length then R.ok (e1.set l (some (c p.2.2))) s1 else .bad).bind fun e1 s1 => R.ok e1 s1).bind fun e1 s2 => R.ok (Fl.nx e1) s2).bind _)
  rw [if_pos hi]
  show Sm I rel _ ((((if j < (E.set i (some (e p.1))).length then R.ok ((E.set i (some (e p.1))).set j (some (d p.2.1))) s1 else .bad).bind fun e1 s1 => (if l < e1.length then R.ok (e1.set l (some (c p.2.2))) s1 else .bad).bind fun e1 s1 => R.ok e1 s1).bind fun e1 s2 => R.ok (Fl.nx e1) s2).bind _)
  rw [if_pos (by rw [List.length_set]; exact hj)]
  show Sm I rel _ ((((if l < ((E.set i (some (e p.1))).set j (some (d p.2.1))).length then R.ok (((E.set i (some (e p.1))).set j (some (d p.2.1))).set l (some (c p.2.2))) s1 else .bad).bind fun e1 s1 => R.ok e1 s1).bind fun e1 s2 => R.ok (Fl.nx e1) s2).bind _)
  rw [if_pos (by rw [List.length_set, List.length_set]; exact hl)]
  exact (h3 p.1 p.2.1 p.2.2).h s1 q1
theorem sx_ite {A B : List MS} {mc : Dr Bool} {ma mb : Dr τ} (h : TE1 I eB mc (ev F a E)) (ha : SG I rel ma (exs F (A ++ rest) E)) (hb : SG I rel mb (exs F (B ++ rest) E)) : SG I rel (mc.bind fun x => if x then ma else mb) (exs F (.ite a A B :: rest) E) := .mk fun s hs => by
  show Sm I rel _ (((ev F a E s).bind fun x s1 => match x with | .bl true => exs F A E s1 | .bl false => exs F B E s1 | _ => .bad).bind _)
  rw [rbind_assoc]
  refine Sm.bind (h.h s hs) fun x v s1 hv h1 => ?_
  subst hv
  cases x
  · have := hb.h s1 h1
    rw [exs_app] at this
    exact this
  · have := ha.h s1 h1
    rw [exs_app] at this
    exact this
theorem sx_iteT {A B : List MS} {p : Bool} {ma mb : Dr τ} (h : TE1 I eB (.ok p) (ev F a E)) (ha : SG I rel ma (exs F (A ++ rest) E)) (hb : SG I rel mb (exs F (B ++ rest) E)) : SG I rel (if p then ma else mb) (exs F (.ite a A B :: rest) E) := sx_ite h ha hb
/-- both ways on to one place -/
theorem sx_join {A B : List MS} {mc : Dr Bool} {ma mb : Dr σ} {envR : σ → Env → Prop} {g2 : σ → Dr τ} (h : TE1 I eB mc (ev F a E)) (ha : SG I (fun st f => ∃ e, f = .nx e ∧ envR st e) ma (exs F A E)) (hb : SG I (fun st f => ∃ e, f = .nx e ∧ envR st e) mb (exs F B E)) (hr : ∀ st e, envR st e → SG I rel (g2 st) (exs F rest e)) : SG I rel ((mc.bind fun x => if x then ma else mb).bind g2) (exs F (.ite a A B :: rest) E) := .mk fun s hs => by
  rw [dbind_assoc]
  show Sm I rel _ (((ev F a E s).bind fun x s1 => match x with | .bl true => exs F A E s1 | .bl false => exs F B E s1 | _ => .bad).bind _)
  rw [rbind_assoc]
  refine Sm.bind (h.h s hs) fun x v s1 hv h1 => ?_
  subst hv
  cases x
  · exact Sm.bind (hb.h s1 h1) fun st f s2 ⟨e, hf, he⟩ h2 => by subst hf; exact (hr st e he).h s2 h2
  · exact Sm.bind (ha.h s1 h1) fun st f s2 ⟨e, hf, he⟩ h2 => by subst hf; exact (hr st e he).h s2 h2
theorem sx_endJ {envR : σ → Env → Prop} {st : σ} (h : envR st E) : SG I (fun st f => ∃ e, f = .nx e ∧ envR st e) (.ok st) (exs F [] E) := .mk fun s hs => ⟨_, s, rfl, hs, E, rfl, h⟩

/-! ### loops -/
/-- a body behind its target -/
def runB (F : Nat → List PV → Py.St → R PV) (tg : Tg) (bd : List MS) (v : PV) (e : Env) (s : Py.St) : R Fl := match bindT tg v e with | some e2 => exs F bd e2 s | none => .bad
theorem sx_bind {tg : Tg} {v : PV} {e1 e2 : Env} {bd : List MS} {m : Dr τ} (h2 : SG I rel m (exs F bd e2)) (h : bindT tg v e1 = some e2) : SG I rel m (runB F tg bd v e1) := .mk fun s hs => by
  unfold runB
  rw [h]; exact h2.h s hs
theorem sm_forS {envR : σ → Env → Prop} {q : PV → Env → Py.St → R Fl} {f : α → σ → Dr σ} (hb : ∀ x st e', envR st e' → SG I (relS envR) (f x st) (q (e x) e')) : ∀ (l : List α) (st : σ) (E : Env), envR st E → SG I (fun st f => ∃ e, f = .nx e ∧ envR st e) (forS f l st) (forL q (l.map e) E)
  | [], st, E, h => SG.ok ⟨E, rfl, h⟩
  | x :: r, st, E, h => SG.bind (hb x st E h) fun st1 fl ⟨e1, h1, h2⟩ => by
    rcases h1 with rfl | rfl
    · exact sm_forS hb r st1 e1 h2
    · exact sm_forS hb r st1 e1 h2
theorem sm_forD {envR : σ → Env → Prop} {er : ρ → PV} {q : PV → Env → Py.St → R Fl} {f : α → σ → Dr (Fw σ ρ)} (hb : ∀ x st e', envR st e' → SG I (relW envR er) (f x st) (q (e x) e')) : ∀ (l : List α) (st : σ) (E : Env), envR st E → SG I (fun w f => match w with | .nx st => ∃ e, f = .nx e ∧ envR st e | .bk _ => False | .rt v => f = .rt (er v)) (forD f l st) (forL q (l.map e) E)
  | [], st, E, h => SG.ok ⟨E, rfl, h⟩
  | x :: r, st, E, h => SG.bind (hb x st E h) fun w fl hw => by
    cases w with
    | nx st1 =>
      obtain ⟨e1, h1, h2⟩ := hw
      rcases h1 with rfl | rfl
      · exact sm_forD hb r st1 e1 h2
      · exact sm_forD hb r st1 e1 h2
    | bk st1 =>
      obtain ⟨e1, rfl, h2⟩ := hw
      exact SG.ok ⟨e1, rfl, h2⟩
    | rt v =>
      obtain rfl := hw
      exact SG.ok rfl
theorem sx_forS {tg : Tg} {it : ME} {bd : List MS} {fl : Bool} {mi : Dr (List α)} {envR : σ → Env → Prop} {st0 : σ} {body : α → σ → Dr σ} {g2 : σ → Dr τ} (hi : SI I e fl mi (evi F it E)) (h0 : envR st0 (if fl then E else giveA brw (fv it) 0 E))
    (hb : ∀ x st e', envR st e' → SG I (relS envR) (body x st) (runB F tg bd (e x) e')) (hr : ∀ st e', envR st e' → SG I rel (g2 st) (exs F rest e')) : SG I rel (mi.bind fun l => (forS body l st0).bind g2) (exs F (.for tg it bd :: rest) E) := .mk fun s hs => by
  show Sm I rel _ (((evi F it E s).bind fun q s1 => forL (fun x e1 s2 => match bindT tg x e1 with | some e2 => exs F bd e2 s2 | none => .bad) q.1 (if q.2 then E else giveA brw (fv it) 0 E) s1).bind _)
  rw [rbind_assoc]
  refine Sm.bind (hi.h s hs) fun l q s1 hq h1 => ?_
  subst hq
  exact Sm.bind ((sm_forS (q := fun x e1 s2 => runB F tg bd x e1 s2) hb l st0 _ h0).h s1 h1) fun st f s2 ⟨e1, hf, he⟩ h2 => by subst hf; exact (hr st e1 he).h s2 h2
theorem sx_forD {tg : Tg} {it : ME} {bd : List MS} {fl : Bool} {mi : Dr (List α)} {envR : σ → Env → Prop} {er : ρ → PV} {st0 : σ} {body : α → σ → Dr (Fw σ ρ)} {g2 : σ → Dr τ} {kr : ρ → τ} (hi : SI I e fl mi (evi F it E)) (h0 : envR st0 (if fl then E else giveA brw (fv it) 0 E))
    (hb : ∀ x st e', envR st e' → SG I (relW envR er) (body x st) (runB F tg bd (e x) e')) (hk : ∀ v, rel (kr v) (.rt (er v))) (hr : ∀ st e', envR st e' → SG I rel (g2 st) (exs F rest e')) : SG I rel (mi.bind fun l => (forD body l st0).bind (Fw.go g2 kr)) (exs F (.for tg it bd :: rest) E) := .mk fun s hs => by
  show Sm I rel _ (((evi F it E s).bind fun q s1 => forL (fun x e1 s2 => match bindT tg x e1 with | some e2 => exs F bd e2 s2 | none => .bad) q.1 (if q.2 then E else giveA brw (fv it) 0 E) s1).bind _)
  rw [rbind_assoc]
  refine Sm.bind (hi.h s hs) fun l q s1 hq h1 => ?_
  subst hq
  refine Sm.bind ((sm_forD (q := fun x e1 s2 => runB F tg bd x e1 s2) hb l st0 _ h0).h s1 h1) fun w f s2 hw h2 => ?_
  cases w with
  | nx st =>
    obtain ⟨e1, rfl, he⟩ := hw
    exact (hr st e1 he).h s2 h2
  | bk st => exact False.elim hw
  | rt v =>
    obtain rfl := hw
    exact ⟨_, s2, rfl, h2, hk v⟩
theorem sx_forST {tg : Tg} {it : ME} {bd : List MS} {fl : Bool} {l : List α} {envR : σ → Env → Prop} {st0 : σ} {body : α → σ → Dr σ} {g2 : σ → Dr τ} (hi : SI I e fl (.ok l) (evi F it E)) (h0 : envR st0 (if fl then E else giveA brw (fv it) 0 E))
    (hb : ∀ x st e', envR st e' → SG I (relS envR) (body x st) (runB F tg bd (e x) e')) (hr : ∀ st e', envR st e' → SG I rel (g2 st) (exs F rest e')) : SG I rel ((forS body l st0).bind g2) (exs F (.for tg it bd :: rest) E) := sx_forS hi h0 hb hr
theorem sx_forDT {tg : Tg} {it : ME} {bd : List MS} {fl : Bool} {l : List α} {envR : σ → Env → Prop} {er : ρ → PV} {st0 : σ} {body : α → σ → Dr (Fw σ ρ)} {g2 : σ → Dr τ} {kr : ρ → τ} (hi : SI I e fl (.ok l) (evi F it E)) (h0 : envR st0 (if fl then E else giveA brw (fv it) 0 E))
    (hb : ∀ x st e', envR st e' → SG I (relW envR er) (body x st) (runB F tg bd (e x) e')) (hk : ∀ v, rel (kr v) (.rt (er v))) (hr : ∀ st e', envR st e' → SG I rel (g2 st) (exs F rest e')) : SG I rel ((forD body l st0).bind (Fw.go g2 kr)) (exs F (.for tg it bd :: rest) E) := sx_forD hi h0 hb hk hr
theorem sm_whileS {envR : σ → Env → Prop} {q1 : Env → Py.St → R PV} {q : Env → Py.St → R Fl} {t : σ → Dr Bool} {f : σ → Dr σ} (ht : ∀ st e', envR st e' → TE1 I eB (t st) (q1 e')) (hb : ∀ st e', envR st e' → SG I (relS envR) (f st) (q e')) : ∀ (n : Nat) (st : σ) (E : Env), envR st E → SG I (fun st f => ∃ e, f = .nx e ∧ envR st e) (whileS t f n st) (whileL q1 q n E)
  | 0, st, E, h => .mk fun _ _ => trivial
  | n + 1, st, E, h => TE1.bind (ht st E h) fun c => by
    cases c
    · exact SG.ok ⟨E, rfl, h⟩
    · exact SG.bind (hb st E h) fun st1 fl ⟨e1, h1, h2⟩ => by
        rcases h1 with rfl | rfl
        · exact sm_whileS ht hb n st1 e1 h2
        · exact sm_whileS ht hb n st1 e1 h2
theorem sm_whileD {envR : σ → Env → Prop} {er : ρ → PV} {q1 : Env → Py.St → R PV} {q : Env → Py.St → R Fl} {t : σ → Dr Bool} {f : σ → Dr (Fw σ ρ)} (ht : ∀ st e', envR st e' → TE1 I eB (t st) (q1 e')) (hb : ∀ st e', envR st e' → SG I (relW envR er) (f st) (q e')) : ∀ (n : Nat) (st : σ) (E : Env), envR st E → SG I (fun w f => match w with | .nx st => ∃ e, f = .nx e ∧ envR st e | .bk _ => False | .rt v => f = .rt (er v)) (whileD t f n st) (whileL q1 q n E)
  | 0, st, E, h => .mk fun _ _ => trivial
  | n + 1, st, E, h => TE1.bind (ht st E h) fun c => by
    cases c
    · exact SG.ok ⟨E, rfl, h⟩
    · exact SG.bind (hb st E h) fun w fl hw => by
        cases w with
        | nx st1 =>
          obtain ⟨e1, h1, h2⟩ := hw
          rcases h1 with rfl | rfl
          · exact sm_whileD ht hb n st1 e1 h2
          · exact sm_whileD ht hb n st1 e1 h2
        | bk st1 =>
          obtain ⟨e1, rfl, h2⟩ := hw
          exact SG.ok ⟨e1, rfl, h2⟩
        | rt v =>
          obtain rfl := hw
          exact SG.ok rfl
theorem sx_whileS {bd : List MS} {envR : σ → Env → Prop} {st0 : σ} {t : σ → Dr Bool} {body : σ → Dr σ} {g2 : σ → Dr τ} (h0 : envR st0 E) (ht : ∀ st e', envR st e' → TE1 I eB (t st) (ev F a e')) (hb : ∀ st e', envR st e' → SG I (relS envR) (body st) (exs F bd e')) (hr : ∀ st e', envR st e' → SG I rel (g2 st) (exs F rest e')) : SG I rel ((whileS t body turns st0).bind g2) (exs F (.while a bd :: rest) E) := .mk fun s hs =>
  Sm.bind ((sm_whileS (q1 := fun e1 s1 => ev F a e1 s1) (q := fun e1 s1 => exs F bd e1 s1) ht hb turns st0 E h0).h s hs) fun st f s2 ⟨e1, hf, he⟩ h2 => by subst hf; exact (hr st e1 he).h s2 h2
theorem sx_whileD {bd : List MS} {envR : σ → Env → Prop} {er : ρ → PV} {st0 : σ} {t : σ → Dr Bool} {body : σ → Dr (Fw σ ρ)} {g2 : σ → Dr τ} {kr : ρ → τ} (h0 : envR st0 E) (ht : ∀ st e', envR st e' → TE1 I eB (t st) (ev F a e')) (hb : ∀ st e', envR st e' → SG I (relW envR er) (body st) (exs F bd e')) (hk : ∀ v, rel (kr v) (.rt (er v))) (hr : ∀ st e', envR st e' → SG I rel (g2 st) (exs F rest e')) : SG I rel ((whileD t body turns st0).bind (Fw.go g2 kr)) (exs F (.while a bd :: rest) E) := .mk fun s hs => by
  refine Sm.bind ((sm_whileD (q1 := fun e1 s1 => ev F a e1 s1) (q := fun e1 s1 => exs F bd e1 s1) ht hb turns st0 E h0).h s hs) fun w f s2 hw h2 => ?_
  cases w with
  | nx st =>
    obtain ⟨e1, rfl, he⟩ := hw
    exact (hr st e1 he).h s2 h2
  | bk st => exact False.elim hw
  | rt v =>
    obtain rfl := hw
    exact ⟨_, s2, rfl, h2, hk v⟩

/-! ### own lists -/
abbrev dApp {α : Type} (l : List α) (x : α) : Dr (List α) := Dr.chk (decide (l.length < sizeLine)) (.ok (l ++ [x]))
abbrev dSet {α : Type} (l : List α) (i : Int) (x : α) : Dr (List α) := Dr.of ((ixOf l.length i).map fun j => l.set j x)
abbrev dExt {α : Type} (l r : List α) : Dr (List α) := Dr.chk (decide (l.length + r.length ≤ sizeLine)) (.ok (l ++ r))
theorem ex_app {i : Nat} {xs : List PV} {s : Py.St} (hl : E[i]? = some (some (.lst .o xs))) : ex F (.app i [] a) E s = (ev F a E s).bind fun v s1 => match (esc v (fv a) E)[i]? with
      | some (some x1) => match modP (appF v) [] x1 with
        | some y => .ok (Fl.nx ((esc v (fv a) E).set i (some y))) s1
        | none => .bad
      | _ => .bad := by
  rw [ex]
  simp only [hl, evp, okP, if_true, rbind_ok]
  try rfl
theorem sx_app {i : Nat} {l : List α} {g2 : List α → Dr τ} {m : Dr α} (hl : E[i]? = some (some (eL .o e l))) (h : TE1 I e m (ev F a E)) [n : Nob e] (h2 : ∀ r, SG I rel (g2 r) (exs F rest (E.set i (some (eL .o e r))))) : SG I rel (m.bind fun x => (dApp l x).bind g2) (exs F (.app i [] a :: rest) E) := .mk fun s hs => by
  rw [exs_cons, ex_app hl, rbind_assoc]
  refine Sm.bind (h.h s hs) fun x v s1 hv h1 => ?_
  subst hv
  rw [esc_nob (n.h x), hl]
  show Sm I rel _ ((match (if (l.map e).length < sizeLine then some (l.map e ++ [e x]) else none).map (PV.lst .o ·) with | some y => R.ok (Fl.nx (E.set i (some y))) s1 | none => .bad).bind _)
  rw [List.length_map]
  by_cases hp : l.length < sizeLine
  · rw [if_pos hp, dApp, decide_eq_true hp, chk_t]
    have := (h2 (l ++ [x])).h s1 h1
    rw [show eL .o e (l ++ [x]) = PV.lst .o (l.map e ++ [e x]) by show PV.lst .o ((l ++ [x]).map e) = _; rw [List.map_append]; rfl] at this
    exact this
  · rw [if_neg hp, dApp, decide_eq_false hp, chk_f]
    trivial
theorem ex_set {i : Nat} {xs : List PV} {s : Py.St} (hl : E[i]? = some (some (.lst .o xs))) : ex F (.set i [] b a) E s = (ev F a E s).bind fun v s1 => (stor F i [] b v (esc v (fv a) E) s1).bind fun e1 s2 => .ok (Fl.nx e1) s2 := by
  rw [ex]
theorem sx_set {i : Nat} {l : List α} {g2 : List α → Dr τ} {m : Dr α} {mi : Dr Int} (hl : E[i]? = some (some (eL .o e l))) (h : TE1 I e m (ev F a E)) (hb : TE1 I eI mi (ev F b E)) [n : Nob e] (h2 : ∀ r, SG I rel (g2 r) (exs F rest (E.set i (some (eL .o e r))))) : SG I rel (m.bind fun x => mi.bind fun j => (dSet l j x).bind g2) (exs F (.set i [] b a :: rest) E) := .mk fun s hs => by
  rw [exs_cons, ex_set hl, rbind_assoc]
  refine Sm.bind (h.h s hs) fun x v s1 hv h1 => ?_
  subst hv
  rw [esc_nob (n.h x)]
  have st : stor F i [] b (e x) E s1 = (ev F b E s1).bind fun k s2 => (intP k s2).bind fun j s3 => match modP (setF j (e x)) [] (.lst .o (l.map e)) with | some y => R.ok (E.set i (some y)) s3 | none => .bad := by
    unfold stor
    rw [hl]
    rfl
  rw [st, rbind_assoc, rbind_assoc]
  refine Sm.bind (hb.h s1 h1) fun j v s2 hv h2' => ?_
  subst hv
  show Sm I rel _ ((match ((ixOf (l.map e).length j).map fun k => (l.map e).set k (e x)).map (PV.lst .o ·) with | some y => R.ok (E.set i (some y)) s2 | none => .bad).bind _)
  rw [List.length_map]
  unfold dSet
  cases ixOf l.length j with
  | none => trivial
  | some k =>
    have := (h2 (l.set k x)).h s2 h2'
    rw [show eL .o e (l.set k x) = PV.lst .o ((l.map e).set k (e x)) by show PV.lst .o ((l.set k x).map e) = _; rw [List.map_set]] at this
    exact this
theorem ex_ext {i : Nat} {xs : List PV} {s : Py.St} (hl : E[i]? = some (some (.lst .o xs))) : ex F (.ext i [] a) E s = (ev F a E s).bind fun v s1 => match v with
      | .lst _ ys => if ys.all noO then match (esc v (fv a) E)[i]? with
        | some (some x1) => match modP (extF (brws ys)) [] x1 with
          | some y => .ok (.nx ((esc v (fv a) E).set i (some y))) s1
          | none => .bad
        | _ => .bad else .bad
      | _ => .bad := by
  rw [ex]
  simp only [hl, evp, okP, if_true, rbind_ok]
  try rfl
theorem sx_ext {i : Nat} {j : Md} {l : List α} {g2 : List α → Dr τ} {m : Dr (List α)} (hl : E[i]? = some (some (eL .o e l))) (h : TE1 I (eL j e') m (ev F a E)) [q : Brw e' e] [no : NoOw e'] [n : Nob (eL j e')] (h2 : ∀ r, SG I rel (g2 r) (exs F rest (E.set i (some (eL .o e r))))) : SG I rel (m.bind fun x => (dExt l x).bind g2) (exs F (.ext i [] a :: rest) E) := .mk fun s hs => by
  rw [exs_cons, ex_ext hl, rbind_assoc]
  refine Sm.bind (h.h s hs) fun x v s1 hv h1 => ?_
  subst hv
  show Sm I rel _ ((if (x.map e').all noO then (match (esc (eL j e' x) (fv a) E)[i]? with
        | some (some x1) => match modP (extF (brws (x.map e'))) [] x1 with
          | some y => R.ok (Fl.nx ((esc (eL j e' x) (fv a) E).set i (some y))) s1
          | none => .bad
        | _ => .bad) else R.bad).bind _)
  rw [if_pos (noO_map x), esc_nob (n.h x), hl, brws_map q.h]
  show Sm I rel _ ((match (if (l.map e).length + (x.map e).length ≤ sizeLine then some (l.map e ++ x.map e) else none).map (PV.lst .o ·) with | some y => R.ok (Fl.nx (E.set i (some y))) s1 | none => .bad).bind _)
  rw [List.length_map, List.length_map]
  by_cases hp : l.length + x.length ≤ sizeLine
  · rw [if_pos hp, dExt, decide_eq_true hp, chk_t]
    have := (h2 (l ++ x)).h s1 h1
    rw [show eL .o e (l ++ x) = PV.lst .o (l.map e ++ x.map e) by show PV.lst .o ((l ++ x).map e) = _; rw [List.map_append]] at this
    exact this
  · rw [if_neg hp, dExt, decide_eq_false hp, chk_f]
    trivial
/-- a slot's value moved to another one -/
theorem sx_mov {i j : Nat} {x : α} {m : Dr τ} (h : E[j]? = some (some (e x))) (hi : i < E.length) (hij : i ≠ j) (h2 : SG I rel m (exs F rest ((E.set j none).set i (some (e x))))) : SG I rel m (exs F (.mov i j :: rest) E) := .mk fun s hs => by
  rw [exs_cons]
  have : ex F (.mov i j) E s = .ok (.nx ((E.set j none).set i (some (e x)))) s := by
    rw [ex, h]
    exact if_pos ⟨hi, hij⟩
  rw [this]
  exact h2.h s hs
/-- a slot lent -/
theorem sx_lnd {i : Nat} {m : Dr τ} {E2 : Env} (hE : giveA brw [i] 0 E = E2) (h2 : SG I rel m (exs F rest E2)) : SG I rel m (exs F (.lnd i :: rest) E) := .mk fun s hs => by
  rw [exs_cons]
  have : ex F (.lnd i) E s = .ok (.nx E2) s := by rw [ex, hE]
  rw [this]
  exact h2.h s hs
/-- what is not carried -/
theorem sx_bad {f : Py.St → R Fl} : SG I rel (.bad : Dr τ) f := .mk fun _ _ => trivial
theorem sx_raise0 {n : Nat} {m : Dr τ} (hm : m = .ex n .non) : SG I rel m (exs F (.raise n [] :: rest) E) := .mk fun s hs => by
  subst hm
  exact ⟨s, rfl, hs⟩

/-! ### defs -/
theorem SG.lift {rel : α → β → Prop} {f : Py.St → R β} (h : ∀ s0, SG (fun s => s = s0) rel m f) : SG I rel m f := .mk fun s hs => Sm.mono (fun _ e => e ▸ hs) (fun _ _ h => h) ((h s).h s rfl)
theorem se_fn {s0 : Py.St} {q : Fn} {vs : List PV} (hl : vs.length = q.ps) (h : SG (fun s => s = s0) (relRet e) m (exs F q.body (vs.map some ++ List.replicate (q.ns - q.ps) none))) : TE1 (fun s => s = s0) e m (callB q F vs) := .mk fun s hs => by
  subst hs
  unfold callB
  rw [if_pos hl]
  have z := Sm.bind (g := fun a : α => Dr.ok a) (rel2 := fun a b => b = e a) (f := fun f s1 => match f with | Fl.nx _ => R.ok .non (trim s.ds.length .non s1) | .rt v => .ok v (trim s.ds.length v s1) | _ => .bad) (h.h s rfl) fun a f s1 hf h1 => by
    subst hf h1
    exact ⟨_, _, rfl, trim_self _ _, rfl⟩
  rw [dbind_pure] at z
  exact z
/-- a def at a depth -/
theorem se_run {T : List Fn} {n f : Nat} {q : Fn} {vs : List PV} (hT : T[f]? = some q) (hl : vs.length = q.ps) (h : ∀ s0, SG (fun s => s = s0) (relRet e) m (exs (run T n) q.body (vs.map some ++ List.replicate (q.ns - q.ps) none))) : TE1 I e m (run T (n + 1) f vs) := SG.lift fun s0 => by
  have : run T (n + 1) f vs = callB q (run T n) vs := by
    funext s
    show (match T[f]? with | some d => callB d (run T n) vs s | none => .bad) = _
    rw [hT]
  rw [this]
  exact se_fn hl (h s0)
theorem run_nil (T : List Fn) (f : Nat) (vs : List PV) (s : Py.St) : run T 0 f vs s = .bad := by cases s; rfl
end

section
variable {I : Py.St → Prop} {F : Nat → List PV → Py.St → R PV} {E : Env} {α β : Type} {e e' : α → PV} {d d' : β → PV} {m : Dr α}
theorem cmp_isF (x : α) (u : Unit) [n : NoN e] : TE1 I eB (.ok false) (fun s => okV ((cop .isN (e x) (eN u) s).map .bl) s) := by
  have : ∀ s, cop .isN (e x) (eN u) s = some false := fun s => by
    show some (isNonB (e x)) = _
    rw [n.h]
  simp only [this]
  exact SG.ok rfl
theorem cmp_notF (x : α) (u : Unit) [n : NoN e] : TE1 I eB (.ok true) (fun s => okV ((cop .notN (e x) (eN u) s).map .bl) s) := by
  have : ∀ s, cop .notN (e x) (eN u) s = some true := fun s => by
    show some (!isNonB (e x)) = _
    rw [n.h]; rfl
  simp only [this]
  exact SG.ok rfl
end
section
variable {I : Py.St → Prop} {α : Type} {e : α → PV} {f : Py.St → R PV}
theorem rbind_pure {β : Type} : ∀ r : R β, (r.bind fun b s => .ok b s) = r
  | .ok _ _ => rfl
  | .ex _ _ => rfl
  | .bad => rfl
  | .ask n k => by show R.ask n _ = _; congr 1; funext i; exact rbind_pure (k i)
/-- the same value told otherwise -/
theorem se_as {β : Type} {d : β → PV} {g : α → β} {m : Dr α} (h : TE1 I e m f) (hg : ∀ x, e x = d (g x)) : TE1 I d (m.bind fun x => .ok (g x)) f := .mk fun s hs => by
  have := Sm.bind (g := fun x => Dr.ok (g x)) (f := fun b s => R.ok b s) (rel2 := fun a b => b = d a) (h.h s hs) fun a b s r i => ⟨b, s, rfl, i, by rw [r]; exact hg a⟩
  rw [rbind_pure] at this
  exact this
theorem se_tsome {m : Dr (List α)} (h : TE1 I (eT e) m f) : TE1 I (eT (eO e)) (m.bind fun l => .ok (l.map some)) f := se_as h fun l => by
  show PV.tup (l.map e) = PV.tup ((l.map some).map (eO e))
  rw [List.map_map]; rfl
theorem se_tnone {m : Dr (List Unit)} (h : TE1 I (eT eN) m f) : TE1 I (eT (eO e)) (m.bind fun l => .ok (l.map fun _ => none)) f := se_as h fun l => by
  show PV.tup (l.map eN) = PV.tup ((l.map fun _ => none).map (eO e))
  rw [List.map_map]; rfl
end
abbrev dMapL {α β : Type} (f : α → β) (l : List α) : Dr (List β) := Dr.chk (decide (l.length ≤ sizeLine)) (.ok (l.map f))
abbrev dFilL {α β : Type} (p : α → Bool) (f : α → β) (l : List α) : Dr (List β) := Dr.chk (decide (l.length ≤ sizeLine)) (.ok ((l.filter p).map f))
end Py
end

section
/-! PyS5: a dict of what was reckoned before; the law's start. -/
namespace Py
open PySem

/-- a dict that keeps values of a function -/
def memD (val : List Int → Int) (ls : List (List Int)) : List (PV × PV) := ls.map fun l => (eT eI l, eI (val l))
theorem kd_tN (l : List Int) : kd (eT eI l) = 2 := by
  show (if (l.map eI).all kd1 then 2 else 0) = 2
  rw [if_pos]
  rw [List.all_eq_true]
  intro x hx
  obtain ⟨y, _, rfl⟩ := List.mem_map.mp hx
  rfl
theorem kdOk_mem (val : List Int → Int) (ls : List (List Int)) (l : List Int) : kdOk (eT eI l) (memD val ls) = true := by
  cases ls with
  | nil => show (kd (eT eI l) != 0) = true; rw [kd_tN]; rfl
  | cons x r => show (kd (eT eI l) != 0 && kd (eT eI x) == kd (eT eI l)) = true; rw [kd_tN, kd_tN]; rfl
theorem eqP_tN (x y : List Int) : eqP (eT eI x) (eT eI y) = decide (x = y) := Eqv.h x y
theorem dhas_mem (val : List Int → Int) (l : List Int) : ∀ ls : List (List Int), dhas (eT eI l) (memD val ls) = decide (l ∈ ls)
  | [] => rfl
  | x :: r => by
    show (eqP (eT eI x) (eT eI l) || dhas (eT eI l) (memD val r)) = _
    rw [dhas_mem val l r, eqP_tN]
    by_cases h : x = l
    · subst h
      rw [decide_eq_true rfl, Bool.true_or, decide_eq_true (List.mem_cons_self)]
    · rw [decide_eq_false h, Bool.false_or]
      exact decide_eq_decide.mpr ⟨fun k => List.mem_cons_of_mem _ k, fun k => (List.mem_cons.mp k).elim (fun z => absurd z.symm h) id⟩
theorem dget_mem (val : List Int → Int) (l : List Int) : ∀ ls : List (List Int), l ∈ ls → dget (eT eI l) (memD val ls) = some (eI (val l))
  | x :: r, h => by
    show (if eqP (eT eI x) (eT eI l) then some (eI (val x)) else dget (eT eI l) (memD val r)) = _
    rw [eqP_tN]
    by_cases e : x = l
    · subst e; rw [decide_eq_true rfl]; rfl
    · rw [decide_eq_false e]
      exact dget_mem val l r ((List.mem_cons.mp h).elim (fun z => absurd z.symm e) id)
theorem dput_mem (val : List Int → Int) (l : List Int) (ls : List (List Int)) : dput (eT eI l) (eI (val l)) (memD val ls) = memD val (if l ∈ ls then ls else ls ++ [l]) := by
  unfold dput
  rw [dhas_mem]
  by_cases h : l ∈ ls
  · rw [decide_eq_true h, if_pos h, if_pos rfl]
    unfold memD
    rw [List.map_map]
    refine List.map_congr_left fun x _ => ?_
    show (if eqP (eT eI x) (eT eI l) then (eT eI x, eI (val l)) else (eT eI x, eI (val x))) = _
    rw [eqP_tN]
    by_cases e : x = l
    · subst e; rw [decide_eq_true rfl]; rfl
    · rw [decide_eq_false e]; rfl
  · rw [decide_eq_false h, if_neg h]
    show (if false = true then _ else _) = _
    rw [if_neg (by decide)]
    unfold memD
    rw [List.map_append]
    rfl
theorem nodup_le {α : Type} [DecidableEq α] : ∀ {l P : List α}, l.Nodup → (∀ x ∈ l, x ∈ P) → l.length ≤ P.length
  | [], P, _, _ => Nat.zero_le _
  | x :: r, P, h, s => by
    have hx := s x List.mem_cons_self
    have nd := List.nodup_cons.mp h
    have := nodup_le (l := r) (P := P.erase x) nd.2 fun y hy => (List.mem_erase_of_ne (fun e => by subst e; exact nd.1 hy)).mpr (s y (List.mem_cons_of_mem _ hy))
    rw [List.length_erase_of_mem hx] at this
    have := List.length_pos_of_mem hx
    simp only [List.length_cons]
    omega
/-- the state: one dict that keeps what is right -/
def Mem (val : List Int → Int) (P : List (List Int)) (s : Py.St) : Prop := ∃ ls : List (List Int), ls.Nodup ∧ (∀ l ∈ ls, l ∈ P) ∧ s = ⟨[memD val ls], true⟩
def MemL (val : List Int → Int) (P : List (List Int)) (l : List Int) (s : Py.St) : Prop := ∃ ls : List (List Int), ls.Nodup ∧ (∀ l ∈ ls, l ∈ P) ∧ l ∈ ls ∧ s = ⟨[memD val ls], true⟩
section
variable {val : List Int → Int} {P : List (List Int)} {F : Nat → List PV → Py.St → R PV} {E : Env} {α τ : Type} {rel : τ → Fl → Prop} {rest : List MS}
theorem Mem.trim {s s1 : Py.St} {v : PV} (h : Mem val P s) (h1 : Mem val P s1) : Mem val P (trim s.ds.length v s1) := by
  obtain ⟨ls, _, _, rfl⟩ := h
  obtain ⟨ls1, a, b, rfl⟩ := h1
  have : Py.trim 1 v (⟨[memD val ls1], true⟩ : Py.St) = ⟨[memD val ls1], true⟩ := by
    unfold Py.trim
    split <;> rfl
  refine ⟨ls1, a, b, this⟩
theorem se_fnM {q : Fn} {vs : List PV} {e : α → PV} {m : Dr α} (hl : vs.length = q.ps) (h : SG (Mem val P) (relRet e) m (exs F q.body (vs.map some ++ List.replicate (q.ns - q.ps) none))) : TE1 (Mem val P) e m (callB q F vs) := .mk fun s hs => by
  unfold callB
  rw [if_pos hl]
  have z := Sm.bind (g := fun a : α => Dr.ok a) (rel2 := fun a b => b = e a) (f := fun f s1 => match f with | Fl.nx _ => R.ok .non (Py.trim s.ds.length .non s1) | .rt v => .ok v (Py.trim s.ds.length v s1) | _ => .bad) (h.h s hs) fun a f s1 hf h1 => by
    subst hf
    exact ⟨_, _, rfl, Mem.trim hs h1, rfl⟩
  rw [dbind_pure] at z
  exact z
theorem se_runM {T : List Fn} {n f : Nat} {q : Fn} {vs : List PV} {e : α → PV} {m : Dr α} (hT : T[f]? = some q) (hl : vs.length = q.ps) (h : SG (Mem val P) (relRet e) m (exs (run T n) q.body (vs.map some ++ List.replicate (q.ns - q.ps) none))) : TE1 (Mem val P) e m (run T (n + 1) f vs) := by
  have : run T (n + 1) f vs = callB q (run T n) vs := by
    funext s
    show (match T[f]? with | some d => callB d (run T n) vs s | none => .bad) = _
    rw [hT]
  rw [this]
  exact se_fnM hl h
/-- the body of a def that keeps what it reckoned: (known, key); key in slot 1 -/
theorem memo_body {l : List Int} {A1 : List MS} (hP : l ∈ P) (hP2 : P.length < sizeLine)
    (e0 : E[0]? = some (some (.dct 0))) (e1 : E[1]? = some (some (eT eI l)))
    (h : SG (Mem val P) (relRet eI) (.ok (val l)) (exs F (A1 ++ [.ret (.idx (.var 0) (.var 1))]) E)) :
    SG (Mem val P) (relRet eI) (.ok (val l)) (exs F [.ite (.cmp .nin (.var 1) (.var 0)) A1 [], .ret (.idx (.var 0) (.var 1))] E) := .mk fun s hs => by
  have hs' := hs
  obtain ⟨ls, nd, sub, rfl⟩ := hs
  have a0 : ∀ t : Py.St, ev F (.var 0) E t = .ok (.dct 0) t := fun t => by
    show (match E[0]? with | some (some v) => R.ok (rdV v) t | _ => R.bad) = _
    rw [e0]; rfl
  have a1 : ∀ t : Py.St, ev F (.var 1) E t = .ok (eT eI l) t := fun t => by
    show (match E[1]? with | some (some v) => R.ok (rdV v) t | _ => R.bad) = _
    rw [e1]; rfl
  have tst : ev F (.cmp .nin (.var 1) (.var 0)) E ⟨[memD val ls], true⟩ = .ok (.bl (!decide (l ∈ ls))) ⟨[memD val ls], true⟩ := by
    show (ev F (.var 1) E _).bind (fun x s1 => (ev F (.var 0) E s1).bind fun y s2 => okV ((cop .nin x y s2).map PV.bl) s2) = _
    rw [a1, rbind_ok, a0, rbind_ok]
    show okV ((if kdOk (eT eI l) (memD val ls) then some (!dhas (eT eI l) (memD val ls)) else none).map PV.bl) _ = _
    rw [kdOk_mem, dhas_mem]
    rfl
  rw [exs_cons]
  show Sm _ _ _ (((ev F (.cmp .nin (.var 1) (.var 0)) E ⟨[memD val ls], true⟩).bind fun x s1 => match x with | .bl true => exs F A1 E s1 | .bl false => exs F [] E s1 | _ => .bad).bind _)
  rw [tst]
  by_cases hl : l ∈ ls
  · rw [decide_eq_true hl]
    show Sm _ _ _ (((ev F (.idx (.var 0) (.var 1)) E ⟨[memD val ls], true⟩).bind fun v s1 => R.ok (Fl.rt v) s1).bind _)
    have : ev F (.idx (.var 0) (.var 1)) E ⟨[memD val ls], true⟩ = .ok (eI (val l)) ⟨[memD val ls], true⟩ := by
      show (ev F (.var 0) E _).bind (fun x s1 => (ev F (.var 1) E s1).bind fun y s2 => okV (idxP x y s2) s2) = _
      rw [a0, rbind_ok, a1, rbind_ok]
      show okV (if kdOk (eT eI l) (memD val ls) then dget (eT eI l) (memD val ls) else dgl (eT eI l) (memD val ls)) _ = _
      rw [kdOk_mem, dget_mem val l ls hl]
      rfl
    rw [this]
    exact ⟨_, _, rfl, hs', rfl⟩
  · rw [decide_eq_false hl]
    have := h.h _ hs'
    rw [exs_app] at this
    exact this
/-- the store, then the answer -/
theorem memo_store {l : List Int} {x : ME} (hP : l ∈ P) (hP2 : P.length < sizeLine)
    (e0 : E[0]? = some (some (.dct 0))) (e1 : E[1]? = some (some (eT eI l))) (h : TE1 (Mem val P) eI (.ok (val l)) (ev F x E)) :
    SG (Mem val P) (relRet eI) (.ok (val l)) (exs F [.set 0 [] (.var 1) x, .ret (.idx (.var 0) (.var 1))] E) := .mk fun s hs => by
  rw [exs_cons]
  have q : ex F (.set 0 [] (.var 1) x) E s = (ev F x E s).bind fun v s1 => (stor F 0 [] (.var 1) v (esc v (fv x) E) s1).bind fun e1 s2 => .ok (Fl.nx e1) s2 := by rw [ex]
  rw [q, rbind_assoc]
  have a0 : ∀ t : Py.St, ev F (.var 0) E t = .ok (.dct 0) t := fun t => by
    show (match E[0]? with | some (some v) => R.ok (rdV v) t | _ => R.bad) = _
    rw [e0]; rfl
  have a1 : ∀ t : Py.St, ev F (.var 1) E t = .ok (eT eI l) t := fun t => by
    show (match E[1]? with | some (some v) => R.ok (rdV v) t | _ => R.bad) = _
    rw [e1]; rfl
  obtain ⟨b, s1, hb, h1, hr⟩ := h.h s hs
  subst hr
  rw [hb, rbind_ok, esc_nob (by rfl)]
  obtain ⟨ls, nd, sub, rfl⟩ := h1
  have len : (memD val ls).length < sizeLine := by
    unfold memD
    rw [List.length_map]
    exact Nat.lt_of_le_of_lt (nodup_le nd sub) hP2
  have st : stor F 0 [] (.var 1) (eI (val l)) E ⟨[memD val ls], true⟩ = .ok E ⟨[memD val (if l ∈ ls then ls else ls ++ [l])], true⟩ := by
    unfold stor
    rw [e0]
    show (ev F (.var 1) E ⟨[memD val ls], true⟩).bind _ = _
    rw [a1, rbind_ok]
    show (if kdOk (eT eI l) (memD val ls) && nob (eI (val l)) && noO (eI (val l)) && decide ((memD val ls).length < sizeLine) then R.ok E ((⟨[memD val ls], true⟩ : Py.St).dset 0 (dput (eT eI l) (eI (val l)) (memD val ls))) else .bad) = _
    rw [kdOk_mem, decide_eq_true len, dput_mem]
    rfl
  rw [st]
  have mem : l ∈ (if l ∈ ls then ls else ls ++ [l]) := by
    by_cases hl : l ∈ ls
    · rw [if_pos hl]; exact hl
    · rw [if_neg hl]; exact List.mem_append_right _ List.mem_cons_self
  have hm : Mem val P ⟨[memD val (if l ∈ ls then ls else ls ++ [l])], true⟩ := by
    refine ⟨_, ?_, ?_, rfl⟩
    · by_cases hl : l ∈ ls
      · rw [if_pos hl]; exact nd
      · rw [if_neg hl]
        exact List.nodup_append.mpr ⟨nd, by simp, fun x hx y hy => by
          intro e
          rw [List.mem_singleton.mp hy] at e
          exact hl (e ▸ hx)⟩
    · intro y hy
      by_cases hl : l ∈ ls
      · rw [if_pos hl] at hy; exact sub y hy
      · rw [if_neg hl] at hy
        rcases List.mem_append.mp hy with hy | hy
        · exact sub y hy
        · rw [List.mem_singleton.mp hy]; exact hP
  generalize (if l ∈ ls then ls else ls ++ [l]) = ls2 at mem hm
  show Sm _ _ _ (((ev F (.idx (.var 0) (.var 1)) E ⟨[memD val ls2], true⟩).bind fun v s1 => R.ok (Fl.rt v) s1).bind _)
  have : ev F (.idx (.var 0) (.var 1)) E ⟨[memD val ls2], true⟩ = .ok (eI (val l)) ⟨[memD val ls2], true⟩ := by
    show (ev F (.var 0) E _).bind (fun x s1 => (ev F (.var 1) E s1).bind fun y s2 => okV (idxP x y s2) s2) = _
    rw [a0, rbind_ok, a1, rbind_ok]
    show okV (if kdOk (eT eI l) (memD val ls2) then dget (eT eI l) (memD val ls2) else dgl (eT eI l) (memD val ls2)) _ = _
    rw [kdOk_mem, dget_mem val l ls2 mem]
    rfl
  rw [this]
  exact ⟨_, _, rfl, hm, rfl⟩
end
/-- a value known -/
theorem sx_asgV {I : Py.St → Prop} {F : Nat → List PV → Py.St → R PV} {E : Env} {α τ : Type} {rel : τ → Fl → Prop} {rest : List MS} {e : α → PV} {a : ME} {i : Nat} {z : α} {M : Dr τ} (h : TE1 I e (.ok z) (ev F a E)) [n : Nob e] (hi : i < E.length) (h2 : SG I rel M (exs F rest (E.set i (some (e z))))) : SG I rel M (exs F (.asg i a :: rest) E) := .mk fun s hs => by
  show Sm I rel _ (((ev F a E s).bind fun v s1 => if i < E.length then R.ok (Fl.nx ((esc v (fv a) E).set i (some v))) s1 else .bad).bind _)
  obtain ⟨b, s1, e1, h1, h3⟩ := h.h s hs
  subst h3
  rw [e1, rbind_ok, if_pos hi, esc_nob (n.h z)]
  exact h2.h s1 h1
end Py
end

section
/-! PyS6: the law's start. -/
namespace Py
open PySem

theorem tru_al : ∀ {r : R PV}, Al (fun v _ => v = .bl true) r → Tru r
  | .ok v s, h => by
    have h : v = .bl true := h
    subst h
    trivial
  | .ex _ _, h => h
  | .bad, h => h
  | .ask _ _, h => fun i hi => tru_al (h i hi)
/-- what a law's def gives, by its body behind the start -/
theorem law_body {I : Py.St → Prop} {T : List Fn} {n f : Nat} {q : Fn} {s0 s1 : Py.St} {m : Dr Bool} {E : Env} {rest : List MS} {st : MS} (hT : T[f]? = some q) (hps : q.ps = 1) (hb : q.body = st :: rest)
    (hs : ex (run T n) st (some .scr :: List.replicate (q.ns - 1) none) s0 = .ok (.nx E) s1) (hI : I s1) (h : SG I (relRet eB) m (exs (run T n) rest E)) (ha : m.Al (· = true)) : Tru (run T (n + 1) f [.scr] s0) := by
  have : run T (n + 1) f [.scr] s0 = callB q (run T n) [.scr] s0 := by
    show (match T[f]? with | some d => callB d (run T n) [.scr] s0 | none => .bad) = _
    rw [hT]
  rw [this]
  unfold callB
  rw [if_pos (by rw [hps]; rfl), hps, hb, exs_cons]
  show Tru (((ex (run T n) st (some .scr :: List.replicate (q.ns - 1) none) s0).bind _).bind _)
  rw [hs, rbind_ok]
  refine tru_al (Al.bind (Al.mono (fun fl s2 ⟨_, b, hf, hq⟩ => ?_) ((h.h s1 hI).al ha)))
  subst hf hq
  exact Al.ok rfl
/-- source = _law_source(script) -/
theorem start1 {F : Nat → List PV → Py.St → R PV} {E : Env} {i : Nat} (h0 : E[0]? = some (some .scr)) (hi : i < E.length) : ex F (.asg i (.opn (.var 0))) E ⟨[], false⟩ = .ok (.nx (E.set i (some .src))) ⟨[], true⟩ := by
  have : ev F (.opn (.var 0)) E ⟨[], false⟩ = .ok .src ⟨[], true⟩ := by
    show (ev F (.var 0) E _).bind (fun x s1 => match x with | .scr => if s1.op then R.bad else R.ok PV.src { s1 with op := true } | _ => .bad) = _
    have : ev F (.var 0) E ⟨[], false⟩ = .ok .scr ⟨[], false⟩ := by
      show (match E[0]? with | some (some v) => R.ok (rdV v) _ | _ => R.bad) = _
      rw [h0]; rfl
    rw [this]; rfl
  rw [ex, this, rbind_ok, if_pos hi, esc_nob (by rfl)]
/-- source, known = _law_source(script), {} -/
theorem start2 {F : Nat → List PV → Py.St → R PV} {E : Env} {i j : Nat} (h0 : E[0]? = some (some .scr)) (hi : i < E.length) (hj : j < E.length) : ex F (.par [.v i, .v j] [.opn (.var 0), .dic []]) E ⟨[], false⟩ = .ok (.nx ((E.set i (some .src)).set j (some (.dct 0)))) ⟨[[]], true⟩ := by
  have : ev F (.opn (.var 0)) E ⟨[], false⟩ = .ok .src ⟨[], true⟩ := by
    show (ev F (.var 0) E _).bind (fun x s1 => match x with | .scr => if s1.op then R.bad else R.ok PV.src { s1 with op := true } | _ => .bad) = _
    have : ev F (.var 0) E ⟨[], false⟩ = .ok .scr ⟨[], false⟩ := by
      show (match E[0]? with | some (some v) => R.ok (rdV v) _ | _ => R.bad) = _
      rw [h0]; rfl
    rw [this]; rfl
  have e2 : evs F [.opn (.var 0), .dic []] E ⟨[], false⟩ = .ok [.src, .dct 0] ⟨[[]], true⟩ := by
    rw [evs_cns (by rfl), this, rbind_ok, evs_cns (by rfl)]
    rfl
  rw [ex, e2, rbind_ok, esc_nob (by rfl)]
  show (((if i < E.length then R.ok (E.set i (some .src)) _ else .bad).bind fun e1 s1 => (if j < e1.length then R.ok (e1.set j (some (.dct 0))) s1 else .bad).bind fun e1 s1 => R.ok e1 s1).bind fun e1 s2 => R.ok (Fl.nx e1) s2) = _
  rw [if_pos hi, rbind_ok, if_pos (by rw [List.length_set]; exact hj)]
  rfl
end Py
end

section
/-! PyParts: all shapes up to a size. -/
namespace Py

def isPt : List Int → Bool
  | [] => true
  | x :: r => decide (0 < x) && (match r with | [] => true | y :: _ => decide (y ≤ x)) && isPt r
def goodP (n : Int) (l : List Int) : Bool := isPt l && decide (l.sum ≤ n)
/-- at most f rows, at most n squares, rows of at most m -/
def partsF : Nat → Nat → Nat → List (List Int)
  | 0, _, _ => [[]]
  | f + 1, n, m => [] :: (List.range (min n m)).flatMap fun k => (partsF f (n - (k + 1)) (k + 1)).map fun r => ((k + 1 : Nat) : Int) :: r
theorem isPt_sum : ∀ {l : List Int}, isPt l = true → (0 ≤ l.sum ∧ (l.length : Int) ≤ l.sum)
  | [], _ => by simp
  | x :: r, h => by
    simp only [isPt, Bool.and_eq_true, decide_eq_true_eq] at h
    have := isPt_sum h.2
    simp only [List.sum_cons, List.length_cons]
    omega
theorem mem_partsF : ∀ (f n m : Nat) (l : List Int), isPt l = true → l.length ≤ f → l.sum ≤ n → l.headD 0 ≤ m → l ∈ partsF f n m
  | 0, n, m, l, _, h, _, _ => by
    have : l = [] := List.length_eq_zero_iff.mp (Nat.le_zero.mp h)
    subst this
    exact List.mem_cons_self
  | f + 1, n, m, [], _, _, _, _ => List.mem_cons_self
  | f + 1, n, m, x :: r, h, hl, hs, hm => by
    simp only [isPt, Bool.and_eq_true, decide_eq_true_eq] at h
    obtain ⟨⟨h0, h1⟩, h2⟩ := h
    have q := isPt_sum h2
    simp only [List.sum_cons, List.length_cons, List.headD_cons] at hs hl hm
    refine List.mem_cons_of_mem _ (List.mem_flatMap.mpr ⟨x.toNat - 1, List.mem_range.mpr (by omega), List.mem_map.mpr ⟨r, ?_, ?_⟩⟩)
    · refine mem_partsF f _ _ r h2 (by omega) (by omega) ?_
      cases r with
      | nil => show (0 : Int) ≤ _; omega
      | cons y r' =>
        have h1 := of_decide_eq_true h1
        show y ≤ _
        omega
    · congr 1
      omega
theorem mem_parts {n : Nat} {l : List Int} (h : goodP n l = true) : l ∈ partsF n n n := by
  unfold goodP at h
  simp only [Bool.and_eq_true, decide_eq_true_eq] at h
  have q := isPt_sum h.1
  refine mem_partsF n n n l h.1 (by omega) h.2 ?_
  cases l with
  | nil => show (0 : Int) ≤ _; omega
  | cons x r =>
    have h1 := h.1
    simp only [isPt, Bool.and_eq_true, decide_eq_true_eq] at h1
    have q2 := isPt_sum h1.2
    simp only [List.sum_cons] at h
    show x ≤ _
    omega
theorem all_drop {α : Type} {p : α → Bool} {l : List α} (a b : Nat) (h1 : ((l.drop a).take b).all p = true) (h2 : (l.drop (a + b)).all p = true) : (l.drop a).all p = true := by
  have := List.take_append_drop b (l.drop a)
  rw [← this, List.all_append, h1, Bool.true_and, List.drop_drop]
  exact h2
theorem all_past {α : Type} {p : α → Bool} {l : List α} {n : Nat} (h : l.length ≤ n) : (l.drop n).all p = true := by
  rw [List.drop_eq_nil_of_le h]; rfl
end Py
end

section
/-! PyAl: what typed functions give, by invariants. -/
namespace Py

theorem Al_pick {Q : Int → Prop} {k : Int} (hk : k ≤ 1000000) (h : ∀ i : Nat, i < max 1 k.toNat → Q (i : Int)) : (dPick k).Al Q := by
  unfold dPick
  rw [chk_true (decide_eq_true hk)]
  exact h
theorem Al_forD {α σ ρ : Type} {f : α → σ → Dr (Fw σ ρ)} (Inv : σ → Prop) (hs : ∀ x st, Inv st → (f x st).Al (fun w => ∃ st', w = .nx st' ∧ Inv st')) : ∀ (l : List α) (st : σ), Inv st → (forD f l st).Al (fun w => ∃ st', w = .nx st' ∧ Inv st')
  | [], st, h => ⟨st, rfl, h⟩
  | x :: r, st, h => Dr.Al.bind (Dr.Al.mono (fun w ⟨st', e, h'⟩ => by subst e; exact Al_forD Inv hs r st' h') (hs x st h))
theorem Al_forS {α σ : Type} {f : α → σ → Dr σ} (Inv : List α → σ → Prop) (hs : ∀ x r st, Inv (x :: r) st → (f x st).Al (fun st' => Inv r st')) : ∀ (l : List α) (st : σ), Inv l st → (forS f l st).Al (Inv [])
  | [], st, h => h
  | x :: r, st, h => Dr.Al.bind (Dr.Al.mono (fun st' h' => Al_forS Inv hs r st' h') (hs x r st h))
theorem Al_whileS {σ : Type} {t : σ → Dr Bool} {f : σ → Dr σ} (Inv : Nat → σ → Prop) (Q : σ → Prop) (hs : ∀ m st, Inv m st → (t st).Al (fun c => (c = false ∧ Q st) ∨ (c = true ∧ (f st).Al (fun st' => ∃ m', m' < m ∧ Inv m' st')))) : ∀ (n m : Nat) (st : σ), m < n → Inv m st → (whileS t f n st).Al Q
  | 0, m, st, hm, _ => absurd hm (Nat.not_lt_zero _)
  | n + 1, m, st, hm, h => Dr.Al.bind (Dr.Al.mono (fun c hc => by
      rcases hc with ⟨rfl, q⟩ | ⟨rfl, q⟩
      · exact q
      · exact Dr.Al.bind (Dr.Al.mono (fun st' ⟨m', h1, h2⟩ => Al_whileS Inv Q hs n m' st' (by omega) h2) q)) (hs m st h))
theorem Al_eq {α : Type} {Q : α → Prop} {m : Dr α} {a : α} (h : m = .ok a) (q : Q a) : m.Al Q := by rw [h]; exact q
/-- the last one of some -/
theorem dAt_last {α : Type} (l : List α) (x : α) : dAt (l ++ [x]) (-1) = .ok x := by
  unfold dAt
  have : ixOf (l ++ [x]).length (-1) = some l.length := by
    unfold ixOf
    rw [if_neg (by decide), if_pos (by simp only [List.length_append, List.length_cons, List.length_nil]; omega)]
    congr 1
    simp only [List.length_append, List.length_cons, List.length_nil]
    omega
  rw [this]
  show Dr.of ((l ++ [x])[l.length]?) = _
  rw [List.getElem?_append_right (Nat.le_refl _), Nat.sub_self]
  rfl
theorem isPt_snoc : ∀ {l : List Int} {x : Int}, isPt l = true → 0 < x → (∀ y, l.getLast? = some y → x ≤ y) → isPt (l ++ [x]) = true
  | [], x, _, h0, _ => by simp [isPt, h0]
  | [a], x, h, h0, hl => by
    have := hl a rfl
    simp only [isPt, Bool.and_eq_true, decide_eq_true_eq, List.singleton_append] at h ⊢
    exact ⟨⟨h.1.1, this⟩, ⟨h0, trivial⟩, trivial⟩
  | a :: b :: r, x, h, h0, hl => by
    have ih := isPt_snoc (l := b :: r) (x := x) (by
      simp only [isPt, Bool.and_eq_true] at h ⊢
      exact h.2) h0 (fun y hy => hl y (by rw [List.getLast?_cons_cons]; exact hy))
    simp only [List.cons_append] at ih ⊢
    rw [isPt]
    simp only [isPt, Bool.and_eq_true, decide_eq_true_eq] at h
    simp only [Bool.and_eq_true, decide_eq_true_eq]
    exact ⟨⟨h.1.1, h.1.2⟩, ih⟩
theorem turns_big {n : Nat} (h : n < 100000) : n < turns := h
/-- a drawn shape -/
theorem shape_draw {most : Int} (h0 : 0 ≤ most) (h1 : most ≤ 1000) : (Dr.bind (Dr.ok ([] : List Int)) fun found_1 =>
  Dr.bind (dPick (most + (1 : Int))) fun left_2 =>
  Dr.bind (whileS (fun (st3 : (List Int) × Int) => Dr.ok (decide ((0 : Int) < st3.2))) (fun (st3 : (List Int) × Int) =>
    Dr.bind (Dr.bind (Dr.bind (Dr.bind (if (!decide (st3.1 = ([] : List Int))) then dAt st3.1 (-(1 : Int)) else Dr.ok st3.2) fun x4 => dPick x4) fun x5 => Dr.ok ((1 : Int) + x5)) fun x6 => Dr.ok (if x6 < st3.2 then x6 else st3.2)) fun length_7 =>
    Dr.bind (Dr.ok length_7) fun x12 => Dr.bind (dApp st3.1 x12) fun found_8 =>
    Dr.bind (Dr.bind (Dr.bind (dPick (9 : Int)) fun x9 => Dr.ok (decide ((0 : Int) < x9))) fun x10 => if x10 then Dr.ok (st3.2 - length_7) else Dr.ok (0 : Int)) fun left_11 =>
    Dr.ok (found_8, left_11)) turns (found_1, left_2)) fun (st13 : (List Int) × Int) =>
  Dr.ok st13.1).Al (fun l => goodP most l = true) := by
  simp only [dbind_ok]
  refine Dr.Al.bind (Al_pick (by omega) fun i hi => ?_)
  have hi : (i : Int) ≤ most := by omega
  refine Dr.Al.bind (Dr.Al.mono (Q := fun st : List Int × Int => goodP most st.1 = true) (fun _ h => h) ?_)
  refine Al_whileS (fun m st => isPt st.1 = true ∧ 0 ≤ st.2 ∧ st.1.sum + st.2 ≤ most ∧ st.2.toNat = m) _ (fun m st ⟨a, b, c, d⟩ => ?_) turns i _ (turns_big (by omega)) ⟨rfl, by simp, by simpa using hi, by simp⟩
  by_cases hz : (0 : Int) < st.2
  · refine .inr ⟨decide_eq_true hz, ?_⟩
    have big : ∀ {l : List Int}, isPt l = true → l.sum ≤ most → ∀ y ∈ l, 0 < y ∧ y ≤ most := by
      intro l
      induction l with
      | nil => intro _ _ y hy; cases hy
      | cons x r ih =>
        intro h1 h2 y hy
        simp only [isPt, Bool.and_eq_true, decide_eq_true_eq] at h1
        have q := isPt_sum h1.2
        simp only [List.sum_cons] at h2
        rcases List.mem_cons.mp hy with e | e
        · subst e; omega
        · exact ih h1.2 (by omega) y e
    -- the number of which is drawn
    have key : ∃ w : Int, 0 < w ∧ w ≤ most ∧ (∀ y, st.1.getLast? = some y → w ≤ y) ∧ (if (!decide (st.1 = ([] : List Int))) then dAt st.1 (-(1 : Int)) else Dr.ok st.2) = .ok w := by
      rcases List.eq_nil_or_concat st.1 with e | ⟨l, x, e⟩
      · refine ⟨st.2, hz, ?_, ?_, ?_⟩
        · rw [e] at c; simpa using c
        · rw [e]; intro y hy; cases hy
        · rw [e]; rfl
      · rw [List.concat_eq_append] at e
        have hx := big a (by omega) x (by rw [e]; simp)
        refine ⟨x, hx.1, hx.2, ?_, ?_⟩
        · rw [e]
          intro y hy
          rw [List.getLast?_append] at hy
          simp at hy
          omega
        · rw [e, if_pos (by simp)]
          exact dAt_last l x
    obtain ⟨w, w0, w1, w2, w3⟩ := key
    rw [w3]
    simp only [dbind_ok, dbind_assoc]
    refine Dr.Al.bind (Al_pick (by omega) fun j hj => ?_)
    have hj : (1 : Int) + j ≤ w := by omega
    have q := isPt_sum a
    have hlen : st.1.length < PySem.sizeLine := by
      have : (2 : Nat) ^ 24 = PySem.sizeLine := rfl
      omega
    rw [show dApp st.1 (if (1 : Int) + j < st.2 then (1 : Int) + j else st.2) = .ok (st.1 ++ [if (1 : Int) + j < st.2 then (1 : Int) + j else st.2]) from chk_true (decide_eq_true hlen) _]
    rw [dbind_ok]
    refine Dr.Al.bind (Al_pick (by decide) fun k hk => ?_)
    have snoc : isPt (st.1 ++ [if (1 : Int) + j < st.2 then (1 : Int) + j else st.2]) = true := isPt_snoc a (by split <;> omega) fun y hy => by
      have := w2 y hy
      split <;> omega
    have sm : (st.1 ++ [if (1 : Int) + j < st.2 then (1 : Int) + j else st.2]).sum = st.1.sum + (if (1 : Int) + j < st.2 then (1 : Int) + j else st.2) := by simp
    by_cases hk0 : (0 : Int) < k
    · rw [decide_eq_true hk0]
      simp only [if_true, dbind_ok]
      refine ⟨(st.2 - (if (1 : Int) + j < st.2 then (1 : Int) + j else st.2)).toNat, ?_, snoc, ?_, ?_, rfl⟩
      · split <;> omega
      · show 0 ≤ st.2 - _; split <;> omega
      · show _ + (st.2 - _) ≤ most
        rw [sm]; omega
    · rw [decide_eq_false hk0]
      simp only [Bool.false_eq_true, if_false, dbind_ok]
      refine ⟨0, ?_, snoc, by simp, ?_, by simp⟩
      · omega
      · show _ + (0 : Int) ≤ most
        rw [sm]; split <;> omega
  · refine .inl ⟨decide_eq_false hz, ?_⟩
    unfold goodP
    rw [a, Bool.true_and]
    exact decide_eq_true (by omega)
theorem dRng1_ok {n : Int} (h : smallI n = true) : dRng1 n = .ok (rngI 0 n.toNat) := chk_true h _
theorem dRng2_ok {i j : Int} (h : smallI i = true) (h2 : smallI j = true) : dRng2 i j = .ok (rngI i (j - i).toNat) := chk_true (by rw [h, h2]; rfl) _
def isNx {σ ρ : Type} (m : Dr (Fw σ ρ)) : Bool := match m with | .ok (.nx _) => true | _ => false
def isTr (m : Dr Bool) : Bool := match m with | .ok b => b | _ => false
theorem isTr_ok {m : Dr Bool} (h : isTr m = true) : m = .ok true := by
  unfold isTr at h
  split at h
  · subst h; rfl
  · cases h
theorem isNx_ok {ρ : Type} {m : Dr (Fw Unit ρ)} (h : isNx m = true) : m = .ok (.nx ()) := by
  unfold isNx at h
  split at h
  · rfl
  · cases h
end Py
end

section
/-! PyRp: repr of plain values gives a text. -/
namespace Py
open PySem PySem.W.KSb

mutual
/-- no text but "0", no dict -/
def noTx : PyData → Bool
  | .none => true
  | .bool _ => true
  | .int _ => true
  | .str s => decide (s = Str.ofString "0")
  | .list xs => noTxs xs
  | .tuple xs => noTxs xs
  | .dict _ => false
def noTxs : List PyData → Bool
  | [] => true
  | x :: xs => noTx x && noTxs xs
end
mutual
def wt : PyData → Nat
  | .none => 4
  | .bool _ => 5
  | .int _ => 1921
  | .str _ => 3
  | .list xs => 3 + wts xs
  | .tuple xs => 3 + wts xs
  | .dict _ => 0
def wts : List PyData → Nat
  | [] => 0
  | x :: xs => wt x + 2 + wts xs
end
/-- a short text of plain signs -/
def Shrt (n : Nat) (x : Str) : Prop := x.length ≤ n ∧ Asc x
theorem len_app (x y : Str) : (x ++ y).length = x.length + y.length := by
  show (x.cps ++ y.cps).size = _
  rw [Array.size_append]; rfl
theorem Shrt.app {n m : Nat} {x y : Str} (h : Shrt n x) (k : Shrt m y) : Shrt (n + m) (x ++ y) := ⟨by rw [len_app]; have := h.1; have := k.1; omega, asc_app h.2 k.2⟩
theorem Shrt.up {n m : Nat} {x : Str} (h : Shrt n x) (k : n ≤ m) : Shrt m x := ⟨Nat.le_trans h.1 k, h.2⟩
theorem shrt_of {n : Nat} {x : Str} (h : (decide (x.length ≤ n) && x.cps.toList.all (fun c => decide (c < 128))) = true) : Shrt n x := by
  rw [Bool.and_eq_true] at h
  exact ⟨of_decide_eq_true h.1, asc_of h.2⟩
theorem Shrt.ok {n : Nat} {x : Str} (h : Shrt n x) : PyData.strOk x = true := by
  unfold PyData.strOk
  rw [← Array.all_toList, List.all_eq_true]
  intro c hc
  have := h.2 c hc
  exact decide_eq_true (by omega)
mutual
theorem shrt_shown : ∀ d : PyData, noTx d = true → d.showable = true → Shrt (wt d) d.shown
  | .none, _, _ => shrt_of (by decide +kernel)
  | .bool b, _, _ => by cases b <;> exact shrt_of (by decide +kernel)
  | .int i, _, h => by
    rw [PyData.showable.eq_def] at h
    have h := of_decide_eq_true h
    exact ⟨PyProof.Rows.int_text_len_1921 h, asc_num i⟩
  | .str s, h, _ => by
    have h : decide (s = Str.ofString "0") = true := by simpa only [noTx] using h
    have h := of_decide_eq_true h
    subst h
    exact shrt_of (by decide +kernel)
  | .dict _, h, _ => by simp [noTx] at h
  | .list xs, h, k => by
    rw [PyData.showable.eq_def] at k
    have h : noTxs xs = true := by simpa only [noTx] using h
    rw [PyData.shown.eq_def]
    show Shrt (wt (.list xs)) (listText (PyData.shownAll xs))
    have a : Shrt 1 (Str.ofString "[") := shrt_of (by decide +kernel)
    have b : Shrt 1 (Str.ofString "]") := shrt_of (by decide +kernel)
    have := (shrt_from xs h k 0 (Str.ofString "[") 1 a).app b
    refine this.up ?_
    show 1 + wts xs + 1 ≤ wt (.list xs)
    simp only [wt]; omega
  | .tuple xs, h, k => by
    rw [PyData.showable.eq_def] at k
    have h : noTxs xs = true := by simpa only [noTx] using h
    rw [PyData.shown.eq_def]
    show Shrt (wt (.tuple xs)) (tupleText (PyData.shownAll xs))
    have a : Shrt 1 (Str.ofString "(") := shrt_of (by decide +kernel)
    have b : ∀ c : Bool, Shrt 2 (Str.ofString (if c = true then ",)" else ")")) := fun c => by cases c <;> exact shrt_of (by decide +kernel)
    have := (a.app (shrt_join xs h k)).app (b ((PyData.shownAll xs).length == 1))
    refine this.up ?_
    show 1 + wts xs + 2 ≤ wt (.tuple xs)
    simp only [wt]; omega
theorem shrt_from : ∀ (xs : List PyData), noTxs xs = true → PyData.showableAll xs = true → ∀ (k : Nat) (acc : Str) (n : Nat), Shrt n acc → Shrt (n + wts xs) (textFrom k acc (PyData.shownAll xs))
  | [], _, _, k, acc, n, h => by
    rw [PyData.shownAll.eq_def]
    exact h
  | x :: xs, hn, hs, k, acc, n, h => by
    have hn : (noTx x && noTxs xs) = true := by simpa only [noTxs] using hn
    rw [PyData.showableAll.eq_def] at hs
    have hs : (x.showable && PyData.showableAll xs) = true := hs
    rw [Bool.and_eq_true] at hn hs
    rw [PyData.shownAll.eq_def]
    have s : Shrt 2 (Str.ofString (if k > 0 then ", " else "")) := by split <;> exact shrt_of (by decide +kernel)
    have := shrt_from xs hn.2 hs.2 (k + 1) _ _ ((h.app s).app (shrt_shown x hn.1 hs.1))
    refine this.up ?_
    simp only [wts]; omega
theorem shrt_join : ∀ (xs : List PyData), noTxs xs = true → PyData.showableAll xs = true → Shrt (wts xs) ((Str.ofString ", ").join (PyData.shownAll xs))
  | [], _, _ => by
    rw [PyData.shownAll.eq_def]
    exact shrt_of (by decide +kernel)
  | [x], hn, hs => by
    have hn : (noTx x && noTxs []) = true := by simpa only [noTxs] using hn
    rw [PyData.showableAll.eq_def] at hs
    have hs : (x.showable && PyData.showableAll []) = true := hs
    rw [Bool.and_eq_true] at hn hs
    rw [PyData.shownAll.eq_def]
    show Shrt _ ((Str.ofString ", ").join (x.shown :: PyData.shownAll []))
    rw [PyData.shownAll.eq_def]
    refine (shrt_shown x hn.1 hs.1).up ?_
    simp only [wts]; omega
  | x :: y :: xs, hn, hs => by
    have hn : (noTx x && noTxs (y :: xs)) = true := by simpa only [noTxs] using hn
    rw [PyData.showableAll.eq_def] at hs
    have hs : (x.showable && PyData.showableAll (y :: xs)) = true := hs
    rw [Bool.and_eq_true] at hn hs
    have ih := shrt_join (y :: xs) hn.2 hs.2
    have e : PyData.shownAll (x :: y :: xs) = x.shown :: y.shown :: PyData.shownAll xs := by rw [PyData.shownAll.eq_def]; show _ :: PyData.shownAll (y :: xs) = _; rw [PyData.shownAll.eq_def]
    have e2 : PyData.shownAll (y :: xs) = y.shown :: PyData.shownAll xs := by rw [PyData.shownAll.eq_def]
    rw [e2] at ih
    rw [e]
    have s : Shrt 2 (Str.ofString ", ") := shrt_of (by decide +kernel)
    refine (((shrt_shown x hn.1 hs.1).app s).app ih).up ?_
    simp only [wts]; omega
end
/-- a value whose repr is told, seen without its text -/
def repOk (v : PV) : Bool := shp 30 v && noTx (toD v) && (toD v).showable && decide (wt (toD v) ≤ sizeLine)
theorem repOk_ok {v : PV} (h : repOk v = true) : ∃ s, dRepr v = .ok s ∧ PyData.strOk s = true := by
  unfold repOk at h
  simp only [Bool.and_eq_true, decide_eq_true_eq] at h
  obtain ⟨⟨⟨h1, h2⟩, h3⟩, h4⟩ := h
  have q := shrt_shown (toD v) h2 h3
  refine ⟨(toD v).shown, ?_, q.ok⟩
  unfold dRepr
  rw [h1, h3, decide_eq_true (Nat.le_trans q.1 h4)]
  exact chk_t _
/-- two that are the same -/
theorem rep_same {v : PV} (h : repOk v = true) : (Dr.bind (dRepr v) fun s => Dr.bind (dRepr v) fun t => Dr.chk (sOk s t) (.ok (!decide (s = t)))) = .ok false := by
  obtain ⟨s, e, ok⟩ := repOk_ok h
  rw [e]
  simp only [dbind_ok]
  rw [show sOk s s = true by show (PyData.strOk s && PyData.strOk s) = true; rw [ok]; rfl, chk_t]
  simp
/-- all ways by trial -/
def Dr.allb {α : Type} (p : α → Bool) : Dr α → Bool
  | .ok a => p a
  | .ex _ _ => false
  | .bad => false
  | .ask n k => (List.range n).all fun i => (k i).allb p
theorem Dr.allb_al {α : Type} {p : α → Bool} : ∀ {m : Dr α}, m.allb p = true → m.Al (fun a => p a = true)
  | .ok a, h => h
  | .ex _ _, h => by cases h
  | .bad, h => by cases h
  | .ask n k, h => fun i hi => Dr.allb_al (List.all_eq_true.mp h i (List.mem_range.mpr hi))
def isOkEq {α : Type} [DecidableEq α] (m : Dr α) (a : α) : Bool := match m with | .ok b => decide (b = a) | _ => false
theorem isOkEq_ok {α : Type} [DecidableEq α] {m : Dr α} {a : α} (h : isOkEq m a = true) : m = .ok a := by
  unfold isOkEq at h
  split at h
  · rw [of_decide_eq_true h]
  · cases h
end Py
end

section
/-! PyS7: values of any kind. -/
namespace Py
open PySem

/-- any value, as others see it -/
def eV : PV → PV := fun x => brw x
theorem brw_brw (x : PV) : brw (brw x) = brw x := by
  cases x with
  | lst m xs => cases m <;> rfl
  | _ => rfl
theorem rdV_brw (x : PV) : rdV (brw x) = brw x := by
  cases x with
  | lst m xs => cases m <;> rfl
  | _ => rfl
instance : Brw eV eV := ⟨brw_brw⟩
instance : Brw eA eV := ⟨fun _ => rfl⟩
instance : Rdv eV eV := ⟨rdV_brw⟩
/-- as others see it already -/
def stb : PV → Bool
  | .lst .o _ => false
  | .lst .t _ => false
  | _ => true
theorem stb_brw {x : PV} (h : stb x = true) : brw x = x := by
  cases x with
  | lst m xs => cases m <;> first | rfl | cases h
  | _ => rfl
theorem brw_stb (x : PV) : stb (brw x) = true := by
  cases x with
  | lst m xs => cases m <;> rfl
  | _ => rfl
def vOf : Option PV → Dr PV
  | some y => if stb y then .ok y else .bad
  | none => .bad
def vItems : PV → Dr (List PV)
  | .tup xs => if xs.all stb then .ok xs else .bad
  | .lst _ xs => .ok (brws xs)
  | _ => .bad
theorem map_eV : ∀ l : List PV, l.all stb = true → l.map eV = l
  | [], _ => rfl
  | x :: r, h => by
    rw [List.all_cons, Bool.and_eq_true] at h
    rw [List.map_cons, map_eV r h.2]
    show brw x :: r = _
    rw [stb_brw h.1]
theorem brws_stb : ∀ l : List PV, (brws l).all stb = true
  | [] => rfl
  | x :: r => by
    show (brw x :: brws r).all stb = true
    rw [List.all_cons, brw_stb, brws_stb r]; rfl
def vBop (o : BOp) (x y : PV) : Dr PV := vOf (bop o x y)
def vIdx (x : PV) (i : Int) : Dr PV := match x with
  | .tup xs => vOf (atP xs i)
  | .lst _ xs => vOf ((atP xs i).map brw)
  | _ => .bad
def vSlc (x : PV) (lo hi : Option Int) : Dr PV := vOf (slcP x lo hi)
def vRev (x : PV) : Dr PV := vOf (revP x)
def vLen : PV → Dr Int
  | .tup xs => .ok xs.length
  | .lst _ xs => .ok xs.length
  | .str z => Dr.chk (decide (z.length ≤ sizeLine)) (.ok z.length)
  | _ => .bad
def vList : PV → Dr PV
  | .tup xs => .ok (.lst .o xs)
  | .lst _ xs => .ok (.lst .o (brws xs))
  | _ => .bad
def vTuple : PV → Dr PV
  | .tup xs => .ok (.tup xs)
  | .lst _ xs => .ok (.tup (brws xs))
  | _ => .bad
def vInt : PV → Dr Int
  | .int i => .ok i
  | _ => .bad
def vIsi (x : PV) (t : Ty) : Dr Bool := match x with
  | .dct _ => .bad
  | x => Dr.of (isTy x t)
def vLt (x y : PV) : Dr Bool := if shp 30 x && shp 30 y then Dr.of (ltP x y) else .bad
def vLe : PV → PV → Dr Bool
  | .int i, .int j => .ok (decide (i ≤ j))
  | _, _ => .bad
def vGt : PV → PV → Dr Bool
  | .int i, .int j => .ok (decide (j < i))
  | _, _ => .bad
def vGe : PV → PV → Dr Bool
  | .int i, .int j => .ok (decide (j ≤ i))
  | _, _ => .bad
def vEq (x y : PV) : Dr Bool := if shp 30 x && shp 30 y then .ok (eqP x y) else .bad
def vNe (x y : PV) : Dr Bool := if shp 30 x && shp 30 y then .ok (!eqP x y) else .bad

section
variable {I : Py.St → Prop} {F : Nat → List PV → Py.St → R PV} {E : Env} {α β γ δ σ ρ τ : Type} {e e' : α → PV} {d d' : β → PV} {c c' : γ → PV} {k k' : δ → PV} {m : Dr α} {m2 : Dr β} {m3 : Dr γ} {m4 : Dr δ} {a b g h : ME} {rel : τ → Fl → Prop} {rest : List MS}

theorem vOf_ok {o : Option PV} : TE1 I eV (vOf o) (fun s => okV o s) := .mk fun s hs => by
  cases o with
  | none => trivial
  | some y =>
    show Sm I _ (if stb y = true then Dr.ok y else .bad) _
    by_cases h : stb y = true
    · rw [if_pos h]
      exact ⟨y, s, rfl, hs, (stb_brw h).symm⟩
    · rw [if_neg h]; trivial
theorem se_toA {f : Py.St → R PV} (h : TE1 I e m f) : TE1 I eA (m.bind fun x => .ok (e x)) f := se_as h fun x => rfl
theorem se_vint {m : Dr PV} {f : Py.St → R PV} (h : TE1 I eA m f) : TE1 I eI (m.bind vInt) f := .mk fun s hs => by
  have := Sm.bind (g := vInt) (f := fun b s => R.ok b s) (rel2 := fun a b => b = eI a) (h.h s hs) fun a b s r i => by
    have r : b = a := r
    subst r
    cases b <;> first | trivial | exact ⟨_, s, rfl, i, rfl⟩
  rw [rbind_pure] at this
  exact this
theorem se_vbin {o : BOp} {m m2 : Dr PV} (h1 : TE1 I eA m (ev F a E)) (h2 : TE1 I eA m2 (ev F b E)) : TE1 I eV (m.bind fun x => m2.bind fun y => vBop o x y) (ev F (.bin o a b) E) := se_bin h1 h2 fun x y => vOf_ok
theorem se_vidx {m : Dr PV} {m2 : Dr Int} (h1 : TE1 I eA m (ev F a E)) (h2 : TE1 I eI m2 (ev F b E)) : TE1 I eV (m.bind fun x => m2.bind fun i => vIdx x i) (ev F (.idx a b) E) :=
  TE1.bind h1 fun x => TE1.bind h2 fun i => by
    cases x with
    | tup xs => exact vOf_ok
    | lst md xs => exact vOf_ok
    | _ => exact .mk fun _ _ => trivial
theorem se_vslc {m : Dr PV} {n p : Dr (Option Int)} {l r : Bool} {lo hi : ME} (h1 : TE1 I eA m (ev F a E)) (h2 : SO I F E n l lo) (h3 : SO I F E p r hi) : TE1 I eV (m.bind fun x => n.bind fun i => p.bind fun j => vSlc x i j) (ev F (.slc a l lo r hi) E) :=
  TE1.bind h1 fun x => SG.bind h2 fun i i' hi' => SG.bind h3 fun j j' hj' => by
    subst hi' hj'
    exact vOf_ok
theorem se_vrev {m : Dr PV} (h1 : TE1 I eA m (ev F a E)) : TE1 I eV (m.bind fun x => vRev x) (ev F (.rev a) E) := TE1.bind h1 fun x => vOf_ok
theorem blt_vlen (x : PV) : TE1 I eI (vLen x) (fun s => bltin .len [eA x] s) := by
  cases x with
  | tup xs => exact SG.ok rfl
  | lst md xs => exact SG.ok rfl
  | str z => exact SG.chkP (SG.ok rfl)
  | _ => exact .mk fun _ _ => trivial
theorem blt_vlist (x : PV) : TE1 I eA (vList x) (fun s => bltin .list [eA x] s) := by
  cases x with
  | tup xs => exact SG.ok rfl
  | lst md xs => exact SG.ok rfl
  | _ => exact .mk fun _ _ => trivial
theorem blt_vtuple (x : PV) : TE1 I eV (vTuple x) (fun s => bltin .tuple [eA x] s) := by
  cases x with
  | tup xs => exact SG.ok rfl
  | lst md xs => exact SG.ok rfl
  | _ => exact .mk fun _ _ => trivial
theorem se_visi {t : Ty} {m : Dr PV} (h1 : TE1 I eA m (ev F a E)) : TE1 I eB (m.bind fun x => vIsi x t) (ev F (.isi a t) E) := TE1.bind h1 fun x => by
  cases x with
  | dct n => exact .mk fun _ _ => trivial
  | non => exact okV_of (o := isTy .non t)
  | bl b => exact okV_of (o := isTy (.bl b) t)
  | int i => exact okV_of (o := isTy (.int i) t)
  | str z => exact okV_of (o := isTy (.str z) t)
  | tup xs => exact okV_of (o := isTy (.tup xs) t)
  | lst md xs => exact okV_of (o := isTy (.lst md xs) t)
  | src => exact okV_of (o := isTy .src t)
  | scr => exact okV_of (o := isTy .scr t)
theorem cmp_vlt (x y : PV) : TE1 I eB (vLt x y) (fun s => okV ((cop .lt (eA x) (eA y) s).map .bl) s) := by
  show TE1 I eB (vLt x y) (fun s => okV ((if shp 30 x && shp 30 y then ltP x y else none).map .bl) s)
  unfold vLt
  by_cases h : (shp 30 x && shp 30 y) = true
  · rw [if_pos h, if_pos h]; exact okV_of
  · rw [if_neg h, if_neg h]; exact .mk fun _ _ => trivial
theorem cmp_veq (x y : PV) : TE1 I eB (vEq x y) (fun s => okV ((cop .eq (eA x) (eA y) s).map .bl) s) := by
  show TE1 I eB (vEq x y) (fun s => okV ((if shp 30 x && shp 30 y then some (eqP x y) else none).map .bl) s)
  unfold vEq
  by_cases h : (shp 30 x && shp 30 y) = true
  · rw [if_pos h, if_pos h]; exact SG.ok rfl
  · rw [if_neg h, if_neg h]; exact .mk fun _ _ => trivial
theorem cmp_vne (x y : PV) : TE1 I eB (vNe x y) (fun s => okV ((cop .ne (eA x) (eA y) s).map .bl) s) := by
  show TE1 I eB (vNe x y) (fun s => okV ((if shp 30 x && shp 30 y then some (!eqP x y) else none).map .bl) s)
  unfold vNe
  by_cases h : (shp 30 x && shp 30 y) = true
  · rw [if_pos h, if_pos h]; exact SG.ok rfl
  · rw [if_neg h, if_neg h]; exact .mk fun _ _ => trivial
theorem cop_vle (x y : PV) (s : Py.St) : (∃ v, vLe x y = .ok v ∧ cop .le x y s = some v) ∨ vLe x y = .bad := by
  cases x <;> first | exact .inr rfl | skip
  cases y <;> first | exact .inr rfl | exact .inl ⟨_, rfl, rfl⟩
theorem cop_vge (x y : PV) (s : Py.St) : (∃ v, vGe x y = .ok v ∧ cop .ge x y s = some v) ∨ vGe x y = .bad := by
  cases x <;> first | exact .inr rfl | skip
  cases y <;> first | exact .inr rfl | exact .inl ⟨_, rfl, rfl⟩
theorem cop_vgt (x y : PV) (s : Py.St) : (∃ v, vGt x y = .ok v ∧ cop .gt x y s = some v) ∨ vGt x y = .bad := by
  cases x <;> first | exact .inr rfl | skip
  cases y <;> first | exact .inr rfl | exact .inl ⟨_, rfl, rfl⟩
theorem cmp_of {o : COp} {op : PV → PV → Dr Bool} (h : ∀ x y s, (∃ v, op x y = .ok v ∧ cop o x y s = some v) ∨ op x y = .bad) (x y : PV) : TE1 I eB (op x y) (fun s => okV ((cop o (eA x) (eA y) s).map .bl) s) := .mk fun s hs => by
  rcases h x y s with ⟨v, e1, e2⟩ | e1
  · rw [e1]
    show Sm I _ _ (okV ((cop o x y s).map PV.bl) s)
    rw [e2]
    exact ⟨_, s, rfl, hs, rfl⟩
  · rw [e1]; trivial
theorem cmp_vle (x y : PV) : TE1 I eB (vLe x y) (fun s => okV ((cop .le (eA x) (eA y) s).map .bl) s) := cmp_of cop_vle x y
theorem cmp_vge (x y : PV) : TE1 I eB (vGe x y) (fun s => okV ((cop .ge (eA x) (eA y) s).map .bl) s) := cmp_of cop_vge x y
theorem cmp_vgt (x y : PV) : TE1 I eB (vGt x y) (fun s => okV ((cop .gt (eA x) (eA y) s).map .bl) s) := cmp_of cop_vgt x y
theorem se_vchn {o p : COp} {op op2 : PV → PV → Dr Bool} {m m2 m3 : Dr PV} (h1 : TE1 I eA m (ev F a E)) (h2 : TE1 I eA m2 (ev F b E)) (h3 : TE1 I eA m3 (ev F g E)) (ho : ∀ x y s, (∃ v, op x y = .ok v ∧ cop o x y s = some v) ∨ op x y = .bad) (hp : ∀ x y, TE1 I eB (op2 x y) (fun s => okV ((cop p (eA x) (eA y) s).map .bl) s)) : TE1 I eB (m.bind fun x => m2.bind fun y => (op x y).bind fun v => if v then m3.bind fun z => op2 y z else .ok false) (ev F (.chn o p a b g) E) :=
  TE1.bind h1 fun x => TE1.bind h2 fun y => by
    refine .mk fun s hs => ?_
    show Sm I _ _ (match cop o x y s with | some true => (ev F g E s).bind fun z s3 => okV ((cop p y z s3).map PV.bl) s3 | some false => R.ok (PV.bl false) s | none => R.bad)
    rcases ho x y s with ⟨v, e1, e2⟩ | e1
    · rw [e1, e2]
      cases v with
      | true => exact (TE1.bind h3 fun z => hp y z).h s hs
      | false => exact ⟨PV.bl false, s, rfl, hs, rfl⟩
    · rw [e1]; trivial

theorem cmp_isB (x y : Bool) : TE1 I eB (.ok (decide (x = y))) (fun s => okV ((cop .isN (eB x) (eB y) s).map .bl) s) := SG.ok rfl
theorem cmp_notB (x y : Bool) : TE1 I eB (.ok (!decide (x = y))) (fun s => okV ((cop .notN (eB x) (eB y) s).map .bl) s) := SG.ok rfl
/-! ### walks -/
abbrev SIW {α : Type} (I : Py.St → Prop) (e : α → PV) (m : Dr (List α)) (f : Py.St → R (List PV × Bool)) : Prop := SG I (fun l q => q.1 = l.map e) m f
theorem itemsOf_v (x : PV) : (∃ l, vItems x = .ok l ∧ itemsOf x = some (l.map eV)) ∨ vItems x = .bad := by
  cases x with
  | tup xs =>
    show (∃ l, (if xs.all stb = true then Dr.ok xs else .bad) = .ok l ∧ _) ∨ _
    by_cases h : xs.all stb = true
    · exact .inl ⟨xs, if_pos h, by rw [map_eV xs h]; rfl⟩
    · exact .inr (if_neg h)
  | lst md xs => exact .inl ⟨brws xs, rfl, by rw [map_eV _ (brws_stb xs)]; rfl⟩
  | _ => exact .inr rfl
theorem siv_sq {m : Dr PV} (h : TE1 I eA m (ev F a E)) : SIW I eV (m.bind vItems) (evi F (.sq a) E) := TE1.bind h fun x => by
  cases x with
  | tup xs =>
    rcases itemsOf_v (.tup xs) with ⟨l, e1, e2⟩ | e1
    · rw [e1]
      exact SG.ok (show xs = l.map eV from Option.some.inj e2)
    · rw [e1]; exact .mk fun _ _ => trivial
  | lst md xs =>
    rcases itemsOf_v (.lst md xs) with ⟨l, e1, e2⟩ | e1
    · rw [e1]
      exact SG.ok (show brws xs = l.map eV from Option.some.inj e2)
    · rw [e1]; exact .mk fun _ _ => trivial
  | _ => exact .mk fun _ _ => trivial
theorem siv_enu {m : Dr PV} (h : TE1 I eA m (ev F a E)) : SIW I (eP eI eV) (m.bind fun x => (vItems x).bind fun l => .ok (enuI 0 l)) (evi F (.enu a) E) := TE1.bind h fun x => by
  show SG I _ _ (fun s => match itemsOf x with | some xs => R.ok (enumP 0 xs, nob x) s | none => .bad)
  rcases itemsOf_v x with ⟨l, e1, e2⟩ | e1
  · simp only [e1, e2, dbind_ok, enumP_map]
    exact SG.ok rfl
  · simp only [e1, dbind_bad]
    exact .mk fun _ _ => trivial
theorem SI.w {fl : Bool} {m : Dr (List α)} {f : Py.St → R (List PV × Bool)} (h : SI I e fl m f) : SIW I e m f := .mk fun s hs => Sm.mono (fun _ h => h) (fun l q z => by rw [z]) (h.h s hs)
theorem se_lcW {tg : Tg} {own : List Nat} {it ct t : ME} {hc : Bool} {mi : Dr (List α)} {f : α → Dr (Option β)} {E2 : α → Env} (hi : SIW I e mi (evi F it E)) (hb : ∀ x, bindT tg (e x) (wipeE E own) = some (E2 x))
    (hf : ∀ x, SG I (fun (o : Option β) p => p = o.map d) (f x) (fun s2 => (if hc then (ev F ct (E2 x) s2).bind condB else .ok true s2).bind fun k s3 => if k then (ev F t (E2 x) s3).bind fun z s4 => .ok (some z) s4 else .ok none s3)) :
    TE1 I (eL .o d) (mi.bind fun l => dLc f l) (ev F (.lc tg own it hc ct t) E) := SG.bind hi fun l q hq => by
  obtain ⟨q1, q2⟩ := q
  obtain rfl : q1 = l.map e := hq
  have z : SG I (fun (r : List β) p => p = r.map d) (dNoEx (lcD f l)) (fun s1 => Py.noEx (lcL (fun x s2 => match bindT tg x (wipeE E own) with
      | none => R.bad
      | some e2 => (if hc then (ev F ct e2 s2).bind condB else .ok true s2).bind fun k s3 => if k then (ev F t e2 s3).bind fun z s4 => .ok (some z) s4 else .ok none s3) (l.map e) s1)) := SG.noEx (sm_lc fun x hx => by
    simp only [hb]
    exact hf x)
  have y := SG.bind (g := fun r : List β => Dr.ok r) (rel2 := fun r p => p = eL .o d r) (h := fun zs s5 => R.ok (PV.lst .o zs) s5) z fun r p hp => by subst hp; exact SG.ok rfl
  rw [dbind_pure] at y
  show SG I _ _ (fun s1 => if (l.map e).length ≤ sizeLine then _ else R.bad)
  rw [List.length_map]
  exact SG.chkP y
theorem sx_forSW {tg : Tg} {it : ME} {bd : List MS} {mi : Dr (List α)} {envR : σ → Env → Prop} {st0 : σ} {body : α → σ → Dr σ} {g2 : σ → Dr τ} (hi : SIW I e mi (evi F it E)) (hE : giveA brw (fv it) 0 E = E) (h0 : envR st0 E)
    (hb : ∀ x st e', envR st e' → SG I (relS envR) (body x st) (runB F tg bd (e x) e')) (hr : ∀ st e', envR st e' → SG I rel (g2 st) (exs F rest e')) : SG I rel (mi.bind fun l => (forS body l st0).bind g2) (exs F (.for tg it bd :: rest) E) := .mk fun s hs => by
  show Sm I rel _ (((evi F it E s).bind fun q s1 => forL (fun x e1 s2 => match bindT tg x e1 with | some e2 => exs F bd e2 s2 | none => .bad) q.1 (if q.2 then E else giveA brw (fv it) 0 E) s1).bind _)
  rw [rbind_assoc, hE]
  refine Sm.bind (hi.h s hs) fun l q s1 hq h1 => ?_
  obtain ⟨q1, q2⟩ := q
  obtain rfl : q1 = l.map e := hq
  dsimp only
  rw [ite_self]
  exact Sm.bind ((sm_forS (q := fun x e1 s2 => runB F tg bd x e1 s2) hb l st0 _ h0).h s1 h1) fun st f s2 ⟨e1, hf, he⟩ h2 => by subst hf; exact (hr st e1 he).h s2 h2
theorem sx_forDW {tg : Tg} {it : ME} {bd : List MS} {mi : Dr (List α)} {envR : σ → Env → Prop} {er : ρ → PV} {st0 : σ} {body : α → σ → Dr (Fw σ ρ)} {g2 : σ → Dr τ} {kr : ρ → τ} (hi : SIW I e mi (evi F it E)) (hE : giveA brw (fv it) 0 E = E) (h0 : envR st0 E)
    (hb : ∀ x st e', envR st e' → SG I (relW envR er) (body x st) (runB F tg bd (e x) e')) (hk : ∀ v, rel (kr v) (.rt (er v))) (hr : ∀ st e', envR st e' → SG I rel (g2 st) (exs F rest e')) : SG I rel (mi.bind fun l => (forD body l st0).bind (Fw.go g2 kr)) (exs F (.for tg it bd :: rest) E) := .mk fun s hs => by
  show Sm I rel _ (((evi F it E s).bind fun q s1 => forL (fun x e1 s2 => match bindT tg x e1 with | some e2 => exs F bd e2 s2 | none => .bad) q.1 (if q.2 then E else giveA brw (fv it) 0 E) s1).bind _)
  rw [rbind_assoc, hE]
  refine Sm.bind (hi.h s hs) fun l q s1 hq h1 => ?_
  obtain ⟨q1, q2⟩ := q
  obtain rfl : q1 = l.map e := hq
  dsimp only
  rw [ite_self]
  refine Sm.bind ((sm_forD (q := fun x e1 s2 => runB F tg bd x e1 s2) hb l st0 _ h0).h s1 h1) fun w f s2 hw h2 => ?_
  cases w with
  | nx st =>
    obtain ⟨e1, rfl, he⟩ := hw
    exact (hr st e1 he).h s2 h2
  | bk st => exact False.elim hw
  | rt v =>
    obtain rfl := hw
    exact ⟨_, s2, rfl, h2, hk v⟩

/-! ### statements -/
/-- a value that may hold what is lent; z: what else has changed -/
theorem sx_asgZ {ζ : Type} {i : Nat} {g2 : α → Dr τ} {E3 : α → ζ → Env} (h : TE1 I e m (ev F a E)) (hi : i < E.length) (hE : ∀ x, ∃ z, (esc (e x) (fv a) E).set i (some (e x)) = E3 x z) (h2 : ∀ x z, SG I rel (g2 x) (exs F rest (E3 x z))) : SG I rel (m.bind g2) (exs F (.asg i a :: rest) E) := .mk fun s hs => by
  show Sm I rel _ (((ev F a E s).bind fun v s1 => if i < E.length then R.ok (Fl.nx ((esc v (fv a) E).set i (some v))) s1 else .bad).bind _)
  rw [rbind_assoc]
  refine Sm.bind (h.h s hs) fun x v s1 hv h1 => ?_
  subst hv
  obtain ⟨z, hz⟩ := hE x
  rw [if_pos hi, hz]
  exact (h2 x z).h s1 h1
theorem asgZ_of {ζ : Type} {v : PV} {vs : List Nat} {E E2 : Env} {i : Nat} {w : Option PV} {E3 : ζ → Env} (hE : giveA brw vs 0 E = E2) (h1 : ∃ z, E.set i w = E3 z) (h2 : ∃ z, E2.set i w = E3 z) : ∃ z, (esc v vs E).set i w = E3 z := by
  unfold esc
  split
  · exact h1
  · rw [hE]; exact h2
/-- a slot's own list goes into another one -/
theorem sx_appW {i : Nat} {l : List α} {g2 : List α → Dr τ} {m : Dr α} {E2 : Env} (hl : E[i]? = some (some (eL .o e l))) (h : TE1 I e m (ev F a E)) (hn : ∀ x, nob (e x) = false) (hE : giveA brw (fv a) 0 E = E2) (hl2 : E2[i]? = some (some (eL .o e l))) (h2 : ∀ r, SG I rel (g2 r) (exs F rest (E2.set i (some (eL .o e r))))) : SG I rel (m.bind fun x => (dApp l x).bind g2) (exs F (.app i [] a :: rest) E) := .mk fun s hs => by
  rw [exs_cons, ex_app hl, rbind_assoc]
  refine Sm.bind (h.h s hs) fun x v s1 hv h1 => ?_
  subst hv
  have he : esc (e x) (fv a) E = E2 := by unfold esc; rw [hn x]; exact hE
  rw [he, hl2]
  show Sm I rel _ ((match (if (l.map e).length < sizeLine then some (l.map e ++ [e x]) else none).map (PV.lst .o ·) with | some y => R.ok (Fl.nx (E2.set i (some y))) s1 | none => .bad).bind _)
  rw [List.length_map]
  by_cases hp : l.length < sizeLine
  · rw [if_pos hp, dApp, decide_eq_true hp, chk_t]
    have := (h2 (l ++ [x])).h s1 h1
    rw [show eL .o e (l ++ [x]) = PV.lst .o (l.map e ++ [e x]) by show PV.lst .o ((l ++ [x]).map e) = _; rw [List.map_append]; rfl] at this
    exact this
  · rw [if_neg hp, dApp, decide_eq_false hp, chk_f]
    trivial
/-- three names from a list -/
def dUn3 {α τ : Type} (g : α → α → α → Dr τ) : List α → Dr τ
  | [x, y, z] => g x y z
  | _ => .bad
theorem sx_unpL3 {md : Md} {i j l : Nat} {g2 : α → α → α → Dr τ} {m : Dr (List α)} (h : TE1 I (eL md e) m (ev F a E)) [n : Nob (eL md e)] [q : Brw (eL md e) (eL .b e')] [q' : Brw e' e'] (hi : i < E.length) (hj : j < E.length) (hl : l < E.length) (h2 : ∀ x y z, SG I rel (g2 x y z) (exs F rest (((E.set i (some (e' x))).set j (some (e' y))).set l (some (e' z))))) : SG I rel (m.bind (dUn3 g2)) (exs F (.unp (.t [.v i, .v j, .v l]) a :: rest) E) := .mk fun s hs => by
  show Sm I rel _ (((ev F a E s).bind fun v s1 => match bindT (.t [.v i, .v j, .v l]) (brw v) (esc v (fv a) E) with | some e1 => R.ok (Fl.nx e1) s1 | none => .bad).bind _)
  rw [rbind_assoc]
  refine Sm.bind (h.h s hs) fun x v s1 hv h1 => ?_
  subst hv
  rw [esc_nob (n.h x), q.h]
  have hb : bindT (.t [.v i, .v j, .v l]) (eL .b e' x) E = bindTs [.v i, .v j, .v l] (x.map e') E := by
    show bindTs _ (brws (x.map e')) E = _
    rw [brws_map q'.h]
  rw [hb]
  match x with
  | [x1, x2, x3] =>
    have : bindTs [.v i, .v j, .v l] ([x1, x2, x3].map e') E = some (((E.set i (some (e' x1))).set j (some (e' x2))).set l (some (e' x3))) := by
      simp only [List.map_cons, List.map_nil, bindTs, bindT, Option.bind, List.length_set, hi, hj, hl, if_true]
    rw [this]
    exact (h2 x1 x2 x3).h s1 h1
  | [] => trivial
  | [_] => trivial
  | [_, _] => trivial
  | _ :: _ :: _ :: _ :: _ => trivial
end
end Py
end

section
/-! PyS8: a list's item removed. -/
namespace Py
open PySem
theorem dand (p q : Bool) : (if p then Dr.ok q else Dr.ok false) = Dr.ok (p && q) := by cases p <;> rfl
section
variable {I : Py.St → Prop} {F : Nat → List PV → Py.St → R PV} {E : Env} {τ : Type} {a : ME} {rel : τ → Fl → Prop} {rest : List MS}
abbrev dRem (l : List Int) (k : Int) : Dr (List Int) := Dr.chk (l.contains k) (.ok (rem1 k l))
theorem ex_rem {i : Nat} {xs : List PV} {s : Py.St} (hl : E[i]? = some (some (.lst .o xs))) : ex F (.rem i [] a) E s = (ev F a E s).bind fun v s1 => match v with
      | .int k => match (esc v (fv a) E)[i]? with
        | some (some x1) => match modP (remF k) [] x1 with
          | some y => .ok (Fl.nx ((esc v (fv a) E).set i (some y))) s1
          | none => .bad
        | _ => .bad
      | _ => .bad := by
  rw [ex]
  simp only [hl, evp, okP, if_true, rbind_ok]
  try rfl
theorem sx_rem {i : Nat} {l : List Int} {g2 : List Int → Dr τ} {m : Dr Int} (hl : E[i]? = some (some (eL .o eI l))) (h : TE1 I eI m (ev F a E)) (h2 : ∀ r, SG I rel (g2 r) (exs F rest (E.set i (some (eL .o eI r))))) : SG I rel (m.bind fun x => (dRem l x).bind g2) (exs F (.rem i [] a :: rest) E) := .mk fun s hs => by
  rw [exs_cons, ex_rem hl, rbind_assoc]
  refine Sm.bind (h.h s hs) fun x v s1 hv h1 => ?_
  subst hv
  show Sm I rel _ ((match (esc (PV.int x) (fv a) E)[i]? with
        | some (some x1) => match modP (remF x) [] x1 with
          | some y => R.ok (Fl.nx ((esc (PV.int x) (fv a) E).set i (some y))) s1
          | none => .bad
        | _ => .bad).bind _)
  rw [esc_nob (show nob (PV.int x) = true from rfl), hl]
  show Sm I rel _ ((match ((match intsOf (l.map eI) with | some ns => if ns.contains x = true then some ((rem1 x ns).map PV.int) else none | none => none).map (PV.lst .o ·)) with | some y => R.ok (Fl.nx (E.set i (some y))) s1 | none => .bad).bind _)
  rw [intsOf_map]
  dsimp only
  by_cases hp : l.contains x = true
  · rw [if_pos hp, dRem, hp, chk_t]
    exact (h2 (rem1 x l)).h s1 h1
  · rw [if_neg hp, dRem, show l.contains x = false by simpa using hp, chk_f]
    trivial
end
end Py
end

section
/-! PyS9: typed: sorted tuples of ints, max of a tuple, enumerate over a zip. -/
namespace Py
open PySem L2 PyProof.Rows
def ltL : List Int → List Int → Bool
  | _, [] => false
  | [], _ :: _ => true
  | x :: xs, y :: ys => if x = y then ltL xs ys else decide (x < y)
theorem toDs_ints : ∀ l : List Int, toDs (l.map eI) = l.map .int
  | [] => rfl
  | x :: r => by
    show toD (eI x) :: toDs (r.map eI) = _
    rw [toDs_ints r]; rfl
theorem toD_eT (l : List Int) : toD (eT eI l) = .tuple (l.map .int) := by
  show PyData.tuple (toDs (l.map eI)) = _
  rw [toDs_ints]
theorem eqv_int (x y : Int) : PyData.eqv (.int x) (.int y) = decide (x = y) := by
  show (x == y) = decide (x = y)
  by_cases h : x = y
  · rw [decide_eq_true h, h, beq_self_eq_true]
  · rw [decide_eq_false h]; exact beq_false_of_ne h
theorem ltDs_ints : ∀ x y : List Int, ltDs (x.map .int) (y.map .int) = some (ltL x y)
  | [], [] => rfl
  | [], _ :: _ => rfl
  | _ :: _, [] => rfl
  | x :: xs, y :: ys => by
    show (match ltD (.int x) (.int y), ltDs (xs.map .int) (ys.map .int) with | some a, some b => some (if PyData.eqv (.int x) (.int y) then b else a) | _, _ => none) = _
    rw [ltDs_ints xs ys]
    show some (if PyData.eqv (.int x) (.int y) = true then ltL xs ys else decide (x < y)) = _
    rw [eqv_int]
    simp only [ltL, decide_eq_true_eq]
theorem ltP_tups (x y : List Int) : ltP (eT eI x) (eT eI y) = some (ltL x y) := by
  unfold ltP
  rw [toD_eT, toD_eT]
  exact ltDs_ints x y
def insT (x : List Int) : List (List Int) → List (List Int)
  | [] => [x]
  | y :: r => if ltL y x then y :: insT x r else x :: y :: r
def srtT : List (List Int) → List (List Int)
  | [] => []
  | x :: r => insT x (srtT r)
theorem insPT_map (x : List Int) : ∀ l : List (List Int), insP (eT eI x) (l.map (eT eI)) = (insT x l).map (eT eI)
  | [] => rfl
  | y :: r => by
    show (if ltP (eT eI y) (eT eI x) = some true then eT eI y :: insP (eT eI x) (r.map (eT eI)) else eT eI x :: eT eI y :: r.map (eT eI)) = _
    rw [ltP_tups, insPT_map x r]
    show _ = (if ltL y x then y :: insT x r else x :: y :: r).map (eT eI)
    by_cases h : ltL y x = true
    · rw [if_pos (by rw [h]), if_pos h]; rfl
    · rw [if_neg (by intro z; exact h (Option.some.inj z)), if_neg h]; rfl
theorem sortPT_map : ∀ l : List (List Int), sortP (l.map (eT eI)) = (srtT l).map (eT eI)
  | [] => rfl
  | x :: r => by
    show insP (eT eI x) (sortP (r.map (eT eI))) = _
    rw [sortPT_map r, insPT_map]; rfl
def okT (l : List (List Int)) : Bool := l.all (fun t => !t.isEmpty) || decide (l.length ≤ 1)
theorem srtB_ints : ∀ l : List Int, srtBs (l.map eI) = true
  | [] => rfl
  | _ :: r => by
    show (true && srtBs (r.map eI)) = true
    rw [srtB_ints r]; rfl
theorem srtBs_tups : ∀ l : List (List Int), srtBs (l.map (eT eI)) = true
  | [] => rfl
  | x :: r => by
    show (srtBs (x.map eI) && srtBs (r.map (eT eI))) = true
    rw [srtB_ints, srtBs_tups r]; rfl
theorem shps_ints (n : Nat) : ∀ l : List Int, shps n (l.map eI) = true
  | [] => by cases n <;> rfl
  | x :: r => by
    have e : shps n ((x :: r).map eI) = (shp n (eI x) && shps n (r.map eI)) := by cases n <;> rfl
    rw [e, shps_ints n r]
    cases n <;> rfl
theorem shps_tups (n : Nat) : ∀ l : List (List Int), shps (n + 1) (l.map (eT eI)) = true
  | [] => rfl
  | x :: r => by
    show (shps n (x.map eI) && shps (n + 1) (r.map (eT eI))) = true
    rw [shps_ints, shps_tups n r]; rfl
theorem sortOk_tups {l : List (List Int)} (h : okT l = true) : sortOk (l.map (eT eI)) = true := by
  unfold okT at h
  unfold sortOk
  rcases Bool.or_eq_true _ _ ▸ h with h | h
  · rw [srtBs_tups, shps_tups 28]
    have h1 : (l.map (eT eI)).all isNE = true := by
      rw [List.all_map]
      refine List.all_eq_true.mpr fun x hx => ?_
      have := List.all_eq_true.mp h x hx
      cases x with
      | nil => cases this
      | cons a b => rfl
    have h2 : alkB (l.map (eT eI)) = true := by
      unfold alkB
      rw [List.all_map]
      refine List.all_eq_true.mpr fun x hx => ?_
      show ((l.map (eT eI)).all fun y => W.alike (toD (eT eI x)) (toD y)) = true
      rw [List.all_map]
      refine List.all_eq_true.mpr fun y hy => ?_
      show W.alike (toD (eT eI x)) (toD (eT eI y)) = true
      rw [toD_eT, toD_eT]
      show W.alikeAll _ _ = true
      exact W.alike_ints x y
    rw [h1, h2]; rfl
  · have h1 : (l.map (eT eI)).all isTp = true := by
      rw [List.all_map]
      exact List.all_eq_true.mpr fun x hx => rfl
    rw [h1, List.length_map, h]; simp
section
variable {I : Py.St → Prop} {F : Nat → List PV → Py.St → R PV} {E : List (Option PV)} {a b : ME}
def dSrtT (l : List (List Int)) : Dr (List (List Int)) := Dr.chk (okT l) (.ok (srtT l))
theorem blt_sortTL {i : Md} (x : List (List Int)) : TE1 I (eL .o (eT eI)) (dSrtT x) (fun s => bltin .sorted [eL i (eT eI) x] s) := by
  show SG I _ _ (fun s => match intsOf (x.map (eT eI)) with | some _ => R.ok (PV.lst .o (sortP (x.map (eT eI)))) s | none => if sortOk (x.map (eT eI)) = true then R.ok (PV.lst .o (sortP (x.map (eT eI)))) s else .bad)
  unfold dSrtT
  by_cases h : okT x = true
  · rw [h, chk_t, sortPT_map, sortOk_tups h]
    cases x with
    | nil => exact SG.ok rfl
    | cons m r => exact SG.ok rfl
  · rw [Bool.eq_false_iff.mpr h, chk_f]
    exact .mk fun _ _ => trivial
theorem blt_maxT (x : List Int) : TE1 I eI (dMax x) (fun s => bltin .max [eT eI x] s) := by
  show SG I _ _ (fun s => match intsOf (x.map eI) with | some (m :: ns) => R.ok (PV.int (maxI m ns)) s | _ => .bad)
  rw [intsOf_map]
  cases x with
  | nil => exact .mk fun _ _ => trivial
  | cons m ns => exact SG.ok rfl
theorem si_ezp {α β α' β' : Type} {e : β → PV} {t : β → List α} {d : α → PV} {fl : Bool} {m : Dr β} {e2 : β' → PV} {t2 : β' → List α'} {d2 : α' → PV} {fl2 : Bool} {m2 : Dr β'} (h : TE1 I e m (ev F a E)) (h2 : TE1 I e2 m2 (ev F b E)) [q : Its e t d fl] [q2 : Its e2 t2 d2 fl2] : SI I (eP eI (eP d d2)) (fl && fl2) (m.bind fun x => m2.bind fun y => .ok (enuI 0 ((t x).zip (t2 y)))) (evi F (.ezp a b) E) := TE1.bind h fun x => TE1.bind h2 fun y => by
  show SG I _ _ (fun s => match itemsOf (e x), itemsOf (e2 y) with | some xs, some ys => R.ok (enumP 0 (zipP xs ys), nob (e x) && nob (e2 y)) s | _, _ => .bad)
  simp only [q.i, q.n, q2.i, q2.n, zipP_map, enumP_map]
  exact SG.ok rfl
end
end Py
end

section
/-! PyMt: small laws for the mathematics of typed functions. -/
namespace Py
open PySem
theorem line100 {n : Nat} (h : n ≤ 10000) : n ≤ sizeLine := Nat.le_trans h (by show 10000 ≤ 2 ^ 24; decide)
theorem small_n {i : Int} (h : i.natAbs ≤ 100000) : smallI i = true := by
  unfold smallI
  exact decide_eq_true (Nat.lt_of_le_of_lt h (by decide))
theorem rngI_map : ∀ (n : Nat) (a : Int), rngI a n = (List.range n).map (fun (i : Nat) => a + (i : Int))
  | 0, _ => rfl
  | n + 1, a => by
    rw [List.range_succ_eq_map, List.map_cons, List.map_map]
    show a :: rngI (a + 1) n = _
    rw [rngI_map n (a + 1)]
    refine congr (congrArg List.cons (by simp)) (List.map_congr_left fun i _ => ?_)
    simp only [Function.comp]
    omega
theorem mem_rng {n : Nat} {a x : Int} (h : x ∈ rngI a n) : ∃ i : Nat, i < n ∧ x = a + i := by
  rw [rngI_map] at h
  obtain ⟨i, hi, rfl⟩ := List.mem_map.mp h
  exact ⟨i, List.mem_range.mp hi, rfl⟩
theorem rng_mem {n i : Nat} (h : i < n) : ((i : Nat) : Int) ∈ rngI 0 n := by
  rw [rngI_map]
  exact List.mem_map.mpr ⟨i, List.mem_range.mpr h, by omega⟩
theorem rng_len (n : Nat) (a : Int) : (rngI a n).length = n := by rw [rngI_map]; simp
section
variable {α β : Type}
theorem lcD_ok {f : α → Dr (Option β)} {g : α → Option β} : ∀ {l : List α}, (∀ x ∈ l, f x = .ok (g x)) → lcD f l = .ok (l.filterMap g)
  | [], _ => rfl
  | x :: r, h => by
    show (f x).bind _ = _
    rw [h x List.mem_cons_self, dbind_ok, lcD_ok fun y hy => h y (List.mem_cons_of_mem _ hy), dbind_ok, List.filterMap_cons]
    cases g x <;> rfl
theorem dLc_ok {f : α → Dr (Option β)} {g : α → Option β} {l : List α} (hl : l.length ≤ 10000) (h : ∀ x ∈ l, f x = .ok (g x)) : dLc f l = .ok (l.filterMap g) := by
  unfold dLc
  rw [decide_eq_true (line100 hl), chk_t, lcD_ok h]; rfl
theorem dLc_map {f : α → Dr (Option β)} {g : α → β} {l : List α} (hl : l.length ≤ 10000) (h : ∀ x ∈ l, f x = .ok (some (g x))) : dLc f l = .ok (l.map g) := by
  rw [dLc_ok hl h]
  congr 1
  induction l with
  | nil => rfl
  | cons x r ih => rw [List.filterMap_cons, ih (by simp at hl; omega) fun y hy => h y (List.mem_cons_of_mem _ hy)]; rfl
theorem dLc_filter {f : α → Dr (Option α)} {p : α → Bool} {l : List α} (hl : l.length ≤ 10000) (h : ∀ x ∈ l, f x = .ok (if p x then some x else none)) : dLc f l = .ok (l.filter p) := by
  rw [dLc_ok hl h]
  congr 1
  induction l with
  | nil => rfl
  | cons x r ih =>
    rw [List.filterMap_cons, ih (by simp at hl; omega) fun y hy => h y (List.mem_cons_of_mem _ hy), List.filter_cons]
    cases p x <;> rfl
theorem dFil_ok {p : α → Bool} {g : α → β} {l : List α} (hl : l.length ≤ 10000) : dFilL p g l = .ok ((l.filter p).map g) := chk_true (decide_eq_true (line100 hl)) _
theorem dAt_nat {l : List α} {i : Nat} (h : i < l.length) : dAt l (i : Int) = .ok l[i] := by
  unfold dAt ixOf
  rw [if_pos (by omega), if_pos (by omega)]
  show Dr.of (l[(i : Int).toNat]?) = _
  rw [Int.toNat_natCast, List.getElem?_eq_getElem h]
  rfl
theorem dApp_ok {l : List α} {x : α} (h : l.length ≤ 9999) : dApp l x = .ok (l ++ [x]) := chk_true (decide_eq_true (Nat.lt_of_le_of_lt h (by show 9999 < 2 ^ 24; decide))) _
theorem dLim_ok {l : List α} (h : l.length ≤ 10000) : dLim l = .ok l := chk_true (decide_eq_true (line100 h)) _
theorem forD_all {σ ρ : Type} {f : α → σ → Dr (Fw σ ρ)} {s : σ} : ∀ {l : List α}, (∀ x ∈ l, f x s = .ok (.nx s)) → forD f l s = .ok (.nx s)
  | [], _ => rfl
  | x :: r, h => by
    show (f x s).bind _ = _
    rw [h x List.mem_cons_self]
    exact forD_all fun y hy => h y (List.mem_cons_of_mem _ hy)
end
theorem cut_lo {w : List Int} {i : Nat} (h : i ≤ w.length) : cutP w none (some (i : Int)) = w.take i := by
  unfold cutP
  rw [show clipP w.length w.length (some (i : Int)) = min (i : Int).toNat w.length by show (if (i : Int) < 0 then ((i : Int) + (w.length : Nat)).toNat else min (i : Int).toNat w.length) = _; rw [if_neg (by omega)]]
  show (w.drop 0).take (min (i : Int).toNat w.length - 0) = _
  rw [List.drop_zero, show min (i : Int).toNat w.length - 0 = i by omega]
theorem cut_hi {w : List Int} {i : Nat} (h : i ≤ w.length) : cutP w (some (i : Int)) none = w.drop i := by
  unfold cutP
  rw [show clipP w.length 0 (some (i : Int)) = min (i : Int).toNat w.length by show (if (i : Int) < 0 then ((i : Int) + (w.length : Nat)).toNat else min (i : Int).toNat w.length) = _; rw [if_neg (by omega)], show min (i : Int).toNat w.length = i by omega]
  show (w.drop i).take (w.length - i) = _
  rw [List.take_of_length_le (by rw [List.length_drop]; omega)]
structure RpW (W : Nat) (x : PV) : Prop where
  a : noTx (toD x) = true
  b : (toD x).showable = true
  c : wt (toD x) ≤ W
theorem rp_int {i : Int} (h : i.natAbs < 2 ^ 20) : RpW 2000 (.int i) := by
  refine ⟨rfl, ?_, by show 1921 ≤ 2000; decide⟩
  show PyData.showable (.int i) = true
  rw [PyData.showable.eq_def]
  have : i.natAbs.log2 < 20 := by
    by_cases z : i.natAbs = 0
    · rw [z]; decide
    · exact (Nat.log2_lt z).mpr h
  exact decide_eq_true (by omega)
theorem rp_all {W : Nat} : ∀ {xs : List PV}, (∀ x ∈ xs, RpW W x) → noTxs (toDs xs) = true ∧ PyData.showableAll (toDs xs) = true ∧ wts (toDs xs) ≤ xs.length * (W + 2)
  | [], _ => ⟨rfl, by rw [show toDs [] = [] from rfl, PyData.showableAll.eq_def], Nat.zero_le _⟩
  | x :: r, h => by
    obtain ⟨a1, a2, a3⟩ := h x List.mem_cons_self
    obtain ⟨b1, b2, b3⟩ := rp_all fun y hy => h y (List.mem_cons_of_mem _ hy)
    refine ⟨?_, ?_, ?_⟩
    · show (noTx (toD x) && noTxs (toDs r)) = true
      rw [a1, b1]; rfl
    · show PyData.showableAll (toD x :: toDs r) = true
      rw [PyData.showableAll.eq_def]
      show ((toD x).showable && PyData.showableAll (toDs r)) = true
      rw [a2, b2]; rfl
    · show wt (toD x) + 2 + wts (toDs r) ≤ (r.length + 1) * (W + 2)
      rw [Nat.add_mul]; omega
theorem rp_tup {W n : Nat} {xs : List PV} (h : ∀ x ∈ xs, RpW W x) (hl : xs.length ≤ n) : RpW (3 + n * (W + 2)) (.tup xs) := by
  obtain ⟨b1, b2, b3⟩ := rp_all h
  refine ⟨b1, ?_, ?_⟩
  · show PyData.showable (.tuple (toDs xs)) = true
    rw [PyData.showable.eq_def]; exact b2
  · show 3 + wts (toDs xs) ≤ _
    have : xs.length * (W + 2) ≤ n * (W + 2) := Nat.mul_le_mul_right _ hl
    omega
theorem rp_lst {W n : Nat} {m : Md} {xs : List PV} (h : ∀ x ∈ xs, RpW W x) (hl : xs.length ≤ n) : RpW (3 + n * (W + 2)) (.lst m xs) := by
  obtain ⟨b1, b2, b3⟩ := rp_all h
  refine ⟨b1, ?_, ?_⟩
  · show PyData.showable (.list (toDs xs)) = true
    rw [PyData.showable.eq_def]; exact b2
  · show 3 + wts (toDs xs) ≤ _
    have : xs.length * (W + 2) ≤ n * (W + 2) := Nat.mul_le_mul_right _ hl
    omega
theorem rp_up {W V : Nat} {x : PV} (h : RpW W x) (k : W ≤ V) : RpW V x := ⟨h.a, h.b, Nat.le_trans h.c k⟩
theorem rp_ok {W : Nat} {v : PV} (h : RpW W v) (hW : W ≤ 10000000) (hs : shp 30 v = true) : repOk v = true := by
  unfold repOk
  rw [hs, h.a, h.b, decide_eq_true (Nat.le_trans (Nat.le_trans h.c hW) (show 10000000 ≤ sizeLine by show 10000000 ≤ 2 ^ 24; decide))]
  rfl
theorem Al_noEx {α : Type} {Q : α → Prop} : ∀ {m : Dr α}, m.Al Q → (dNoEx m).Al Q
  | .ok _, h => h
  | .ex _ _, h => False.elim h
  | .bad, h => h
  | .ask _ _, h => fun i hi => Al_noEx (h i hi)
theorem Al_lcD {α β : Type} {P : β → Prop} {f : α → Dr (Option β)} : ∀ {l : List α}, (∀ x ∈ l, (f x).Al (fun o => ∃ z, o = some z ∧ P z)) → (lcD f l).Al (fun zs => zs.length = l.length ∧ ∀ z ∈ zs, P z)
  | [], _ => ⟨rfl, fun z hz => nomatch hz⟩
  | x :: r, h => Dr.Al.bind (Dr.Al.mono (fun o ⟨z, e, hz⟩ => by
      subst e
      refine Dr.Al.bind (Dr.Al.mono (fun zs ⟨h1, h2⟩ => ?_) (Al_lcD fun y hy => h y (List.mem_cons_of_mem _ hy)))
      exact ⟨by rw [List.length_cons, List.length_cons, h1], fun y hy => (List.mem_cons.mp hy).elim (fun e => e ▸ hz) (h2 y)⟩) (h x List.mem_cons_self))
theorem Al_dLc {α β : Type} {P : β → Prop} {f : α → Dr (Option β)} {l : List α} (hl : l.length ≤ 10000) (h : ∀ x ∈ l, (f x).Al (fun o => ∃ z, o = some z ∧ P z)) : (dLc f l).Al (fun zs => zs.length = l.length ∧ ∀ z ∈ zs, P z) := by
  unfold dLc
  rw [chk_true (decide_eq_true (line100 hl))]
  exact Al_noEx (Al_lcD h)
theorem rep_eq {v w : PV} (h : repOk v = true) (h2 : shp 30 w = true) (e : toD w = toD v) : (Dr.bind (dRepr v) fun s => Dr.bind (dRepr w) fun t => Dr.chk (sOk s t) (.ok (decide (s = t)))) = .ok true := by
  obtain ⟨s, e1, ok⟩ := repOk_ok h
  have e2 : dRepr w = dRepr v := by
    unfold repOk at h
    simp only [Bool.and_eq_true] at h
    unfold dRepr
    rw [h2, h.1.1.1, e]
  rw [e2, e1]
  simp only [dbind_ok]
  rw [show sOk s s = true by show (PyData.strOk s && PyData.strOk s) = true; rw [ok]; rfl, chk_t]
  simp
theorem bool_rep (t : Bool) : repOk (eB t) = true := by cases t <;> decide +kernel
theorem hd_ok (l : List Int) : (if (!decide (l = ([] : List Int))) then Dr.bind (dAt l (0 : Int)) fun x => Dr.ok (some x) else Dr.ok none) = .ok l.head? := by
  cases l with
  | nil => rfl
  | cons x r =>
    rw [show (!decide (x :: r = ([] : List Int))) = true by simp]
    show Dr.bind (dAt (x :: r) ((0 : Nat) : Int)) _ = _
    rw [dAt_nat (by simp)]; rfl
theorem pick_of {α : Type} {P : α → Prop} {l : List α} (h : ∀ x ∈ l, P x) (h0 : 0 < l.length) (h1 : l.length ≤ 100000) : (Dr.bind (dPick (l.length : Int)) fun x => dAt l x).Al P := by
  refine Dr.Al.bind (Al_pick (by omega) fun i hi => ?_)
  have hi : i < l.length := by omega
  rw [dAt_nat hi]
  exact h _ (List.getElem_mem hi)
end Py
end

section
set_option maxHeartbeats 4000000
namespace Q
open PySem Py
def I0 : Py.St → Prop := fun s => s = ⟨[], true⟩
def d_ways : Fn := ⟨3, 9, [.par [.v 3, .v 4] [.lst [], .lst [.tup [.var 1]]], .while (.cmp .ne (.var 4) (.lst [])) [.pop 5 4 [], .ite (.cmp .eq (.idx (.var 5) (.neg (.int 1))) (.var 2)) [.app 3 [] (.var 5)] [], .ext 4 [] (.lc (.t [.v 6, .v 7, .v 8]) [6, 7, 8] (.sq (.idx (.var 0) (.int 1))) true (.and (.cmp .eq (.var 6) (.idx (.var 5) (.neg (.int 1)))) (.cmp .le (.var 7) (.var 2))) (.bin .add (.var 5) (.tup [.var 7])))], .ret (.blt .tuple [.blt .sorted [.var 3]])]⟩
def d_way_sum : Fn := ⟨3, 8, [.asg 3 (.lc (.v 7) [7] (.rg1 (.idx (.var 0) (.int 0))) false .nil (.int 0)), .set 3 [] (.var 1) (.int 1), .for (.t [.v 4, .v 5, .v 6]) (.sq (.idx (.var 0) (.int 1))) [.ite (.cmp .ge (.var 4) (.var 1)) [.set 3 [] (.var 5) (.bin .add (.idx (.var 3) (.var 5)) (.bin .mul (.idx (.var 3) (.var 4)) (.var 6)))] []], .ret (.idx (.var 3) (.var 2))]⟩
def d_table_of : Fn := ⟨3, 5, [.ret (.blt .tuple [.lc (.v 3) [3] (.sq (.var 1)) false .nil (.blt .tuple [.lc (.v 4) [4] (.sq (.var 2)) false .nil (.call 1 [.var 0, .var 3, .var 4])])])]⟩
def d_determinant : Fn := ⟨1, 10, [.par [.v 0, .v 2, .v 3] [.lc (.v 7) [7] (.sq (.var 0)) false .nil (.blt .list [.var 7]), .int 1, .int 1], .for (.v 1) (.rg1 (.blt .len [.var 0])) [.asg 4 (.lc (.v 5) [5] (.rg2 (.var 1) (.blt .len [.var 0])) true (.cmp .ne (.idx (.idx (.var 0) (.var 5)) (.var 1)) (.int 0)) (.var 5)), .ite (.cmp .eq (.var 4) (.lst [])) [.ret (.int 0)] [], .ite (.cmp .ne (.idx (.var 4) (.int 0)) (.var 1)) [.par [.s 0 [] (.var 1), .s 0 [] (.idx (.var 4) (.int 0)), .v 2] [.idx (.var 0) (.idx (.var 4) (.int 0)), .idx (.var 0) (.var 1), .bin .sub (.int 0) (.var 2)]] [], .for (.v 5) (.rg2 (.bin .add (.var 1) (.int 1)) (.blt .len [.var 0])) [.asg 6 (.idx (.idx (.var 0) (.var 5)) (.var 1)), .set 0 [] (.var 5) (.lc (.t [.v 8, .v 9]) [8, 9] (.zp (.idx (.var 0) (.var 5)) (.idx (.var 0) (.var 1))) false .nil (.bin .fdiv (.bin .sub (.bin .mul (.idx (.idx (.var 0) (.var 1)) (.var 1)) (.var 8)) (.bin .mul (.var 6) (.var 9))) (.var 3)))], .asg 3 (.idx (.idx (.var 0) (.var 1)) (.var 1))], .ret (.bin .mul (.var 2) (.var 3))]⟩
def d_bunches : Fn := ⟨3, 16, [.asg 3 (.lc (.v 8) [8] (.sq (.var 1)) false .nil (.lc (.v 12) [12] (.sq (.var 2)) false .nil (.call 0 [.var 0, .var 8, .var 12]))), .ite (.cmp .gt (.call 5 [.var 3, .blt .len [.var 2]]) (.glo 2000)) [.ded] [], .asg 4 (.lst [.tup []]), .for (.v 5) (.rg1 (.blt .len [.var 1])) [.asg 6 (.lst []), .for (.v 7) (.sq (.blt .list [.var 4])) [.asg 9 (.lc (.v 11) [11] (.sq (.var 7)) false .nil (.idx (.var 11) (.neg (.int 1)))), .asg 10 (.dic []), .for (.v 11) (.sq (.var 7)) [.upd (.var 10) (.blt .dict [.lc (.v 15) [15] (.sq (.var 11)) false .nil (.tup [.var 15, .bl true])])], .for (.t [.v 13, .v 14]) (.enu (.var 2)) [.ite (.cmp .nin (.var 14) (.var 9)) [.ext 6 [] (.lc (.v 11) [11] (.sq (.idx (.idx (.var 3) (.var 5)) (.var 13))) true (.nt (.blt .any [.lc (.v 15) [15] (.sq (.var 11)) false .nil (.cmp .inn (.var 15) (.var 10))])) (.bin .add (.var 7) (.tup [.var 11])))] []]], .mov 4 6], .ret (.blt .tuple [.blt .sorted [.var 4]])]⟩
def d_families_of : Fn := ⟨2, 8, [.asg 2 (.dic [.int 0, .int 1]), .for (.v 3) (.sq (.var 0)) [.asg 4 (.dic []), .fdi (.t [.v 5, .v 6]) true 2 [.for (.v 7) (.rg1 (.var 1)) [.ite (.cmp .eq (.bin .band (.bin .shr (.var 5) (.var 7)) (.int 1)) (.int 0)) [.set 4 [] (.bin .add (.var 5) (.bin .shl (.int 1) (.var 7))) (.bin .add (.mth .get (.var 4) [.bin .add (.var 5) (.bin .shl (.int 1) (.var 7)), .int 0]) (.bin .mul (.var 6) (.blt .len [.idx (.var 3) (.var 7)])))] []]], .mov 2 4], .ret (.mth .get (.var 2) [.bin .sub (.bin .shl (.int 1) (.var 1)) (.int 1), .int 0])]⟩
def d_bunch_sum : Fn := ⟨3, 3, [.ret (.call 3 [.call 2 [.var 0, .var 1, .var 2]])]⟩
def d__law_choose : Fn := ⟨2, 4, [.asg 2 (.int 1), .for (.v 3) (.rg1 (.var 1)) [.asg 2 (.bin .fdiv (.bin .mul (.var 2) (.bin .sub (.var 0) (.var 3))) (.bin .add (.var 3) (.int 1)))], .ret (.var 2)]⟩
def d__law_grid : Fn := ⟨2, 5, [.asg 2 (.lst []), .for (.v 3) (.rg1 (.var 1)) [.for (.v 4) (.rg1 (.var 0)) [.asg 2 (.bin .add (.var 2) (.bin .mul (.lst [.tup [.bin .add (.bin .mul (.var 3) (.var 0)) (.var 4), .bin .add (.bin .add (.bin .mul (.var 3) (.var 0)) (.var 4)) (.int 1), .int 1]]) (.blt .int [.cmp .lt (.bin .add (.var 4) (.int 1)) (.var 0)]))), .asg 2 (.bin .add (.var 2) (.bin .mul (.lst [.tup [.bin .add (.bin .mul (.var 3) (.var 0)) (.var 4), .bin .add (.bin .add (.bin .mul (.var 3) (.var 0)) (.var 4)) (.var 0), .int 1]]) (.blt .int [.cmp .lt (.bin .add (.var 3) (.int 1)) (.var 1)])))]], .ret (.tup [.bin .mul (.var 0) (.var 1), .blt .tuple [.blt .sorted [.var 2]]])]⟩
def d__law_two : Fn := ⟨2, 2, [.ret (.bin .sub (.bin .mul (.call 7 [.bin .sub (.bin .add (.var 0) (.var 1)) (.int 2), .bin .sub (.var 0) (.int 1)]) (.call 7 [.bin .sub (.bin .add (.var 0) (.var 1)) (.int 2), .bin .sub (.var 1) (.int 1)])) (.bin .mul (.call 7 [.bin .sub (.bin .add (.var 0) (.var 1)) (.int 2), .var 0]) (.call 7 [.bin .sub (.bin .add (.var 0) (.var 1)) (.int 2), .var 1])))]⟩
def d_law : Fn := ⟨1, 12, [.asg 1 (.opn (.var 0)), .for (.v 2) (.rg1 (.int 2)) [.par [.v 5, .v 6] [.bin .add (.int 1) (.pick (.var 1) (.int 4)), .bin .add (.int 1) (.pick (.var 1) (.int 3))], .asg 3 (.call 8 [.var 5, .var 6]), .asg 4 (.bin .sub (.bin .mul (.var 5) (.var 6)) (.int 1)), .ite (.cmp .ne (.blt .repr [.call 1 [.var 3, .int 0, .var 4]]) (.blt .repr [.call 7 [.bin .sub (.bin .add (.var 5) (.var 6)) (.int 2), .bin .sub (.var 6) (.int 1)]])) [.ret (.bl false)] [], .ite (.and (.cmp .gt (.var 5) (.int 1)) (.cmp .gt (.var 6) (.int 1))) [.par [.v 8, .v 9] [.tup [.int 1, .var 5], .tup [.bin .sub (.var 4) (.var 5), .bin .sub (.var 4) (.int 1)]], .par [.v 10, .v 11] [.bin .sub (.var 5) (.int 1), .bin .sub (.var 6) (.int 1)], .asg 7 (.call 9 [.var 10, .var 11]), .ite (.or (.cmp .ne (.blt .repr [.call 6 [.var 3, .var 8, .var 9]]) (.blt .repr [.var 7])) (.cmp .ne (.blt .len [.call 4 [.var 3, .var 8, .var 9]]) (.var 7))) [.ret (.bl false)] []] []], .ret (.bl true)]⟩
def T : List Fn := [d_ways, d_way_sum, d_table_of, d_determinant, d_bunches, d_families_of, d_bunch_sum, d__law_choose, d__law_grid, d__law_two, d_law]

def vTup : R PV → Dr PV
  | .ok (.tup xs) ⟨[], true⟩ => .ok (.tup xs)
  | _ => .bad
def vInt : R PV → Dr Int
  | .ok (.int i) ⟨[], true⟩ => .ok i
  | _ => .bad
theorem vTup_ok {I : Py.St → Prop} (hI : ∀ s, I s ↔ s = ⟨[], true⟩) {f : Py.St → R PV} : TE1 I eV (vTup (f ⟨[], true⟩)) f := .mk fun s hs => by
  rw [(hI s).mp hs]
  generalize f ⟨[], true⟩ = r
  unfold vTup
  split
  · exact ⟨_, _, rfl, (hI _).mpr rfl, rfl⟩
  · exact trivial
theorem vInt_ok {I : Py.St → Prop} (hI : ∀ s, I s ↔ s = ⟨[], true⟩) {f : Py.St → R PV} : TE1 I eI (vInt (f ⟨[], true⟩)) f := .mk fun s hs => by
  rw [(hI s).mp hs]
  generalize f ⟨[], true⟩ = r
  unfold vInt
  split
  · exact ⟨_, _, rfl, (hI _).mpr rfl, rfl⟩
  · exact trivial
@[irreducible] def s_way_sum (x0 : PV) (x1 : Int) (x2 : Int) : Dr Int := vInt (Py.run T 39 1 [eV x0, eI x1, eI x2] ⟨[], true⟩)
theorem sm_way_sum (n : Nat) (hn : n = 39) (x0 : PV) (x1 : Int) (x2 : Int) : TE1 I0 eI (s_way_sum x0 x1 x2) (Py.run T n 1 [eV x0, eI x1, eI x2]) := by
  subst hn
  unfold s_way_sum
  exact vInt_ok (fun s => Iff.rfl)



@[irreducible] def s_bunches (x0 : PV) (x1 : Int × Int) (x2 : Int × Int) : Dr PV := vTup (Py.run T 39 4 [eV x0, (eP eI eI) x1, (eP eI eI) x2] ⟨[], true⟩)
theorem sm_bunches (n : Nat) (hn : n = 39) (x0 : PV) (x1 : Int × Int) (x2 : Int × Int) : TE1 I0 eV (s_bunches x0 x1 x2) (Py.run T n 4 [eV x0, (eP eI eI) x1, (eP eI eI) x2]) := by
  subst hn
  unfold s_bunches
  exact vTup_ok (fun s => Iff.rfl)


@[irreducible] def s_bunch_sum (x0 : PV) (x1 : Int × Int) (x2 : Int × Int) : Dr Int := vInt (Py.run T 39 6 [eV x0, (eP eI eI) x1, (eP eI eI) x2] ⟨[], true⟩)
theorem sm_bunch_sum (n : Nat) (hn : n = 39) (x0 : PV) (x1 : Int × Int) (x2 : Int × Int) : TE1 I0 eI (s_bunch_sum x0 x1 x2) (Py.run T n 6 [eV x0, (eP eI eI) x1, (eP eI eI) x2]) := by
  subst hn
  unfold s_bunch_sum
  exact vInt_ok (fun s => Iff.rfl)

@[irreducible] def s__law_choose (a_many : Int) (a_some : Int) : Dr Int :=
  Dr.bind (Dr.ok (1 : Int)) fun found_1 =>
  Dr.bind (dRng1 a_some) fun l7 =>
  Dr.bind (forS (fun (x3 : Int) (st2 : Int) =>
    Dr.bind (Dr.bind (dMul st2 (a_many - x3)) fun x4 => dDiv x4 (x3 + (1 : Int))) fun found_5 =>
    Dr.ok found_5) l7 found_1) fun (st6 : Int) =>
  Dr.ok st6
theorem sm__law_choose {I : Py.St → Prop} (n : Nat) (hn : 1 ≤ n) (a_many : Int) (a_some : Int) : TE1 I eI (s__law_choose a_many a_some) (Py.run T n 7 [eI a_many, eI a_some]) := by
  obtain ⟨n, rfl⟩ : ∃ m, n = m + 1 := ⟨n - 1, by omega⟩
  refine se_run (q := d__law_choose) (by rfl) (by rfl) fun s0 => ?_
  unfold s__law_choose
  refine sx_asg (SG.cast se_int (by first | (simp only [dbind_ok]; done) | (simp only [dbind_ok, dbind_assoc, dMapL, dFilL]; done))) (of_decide_eq_true rfl) (fun found_1 => ?_)
  refine sx_forS (envR := (fun (st : Int) (e : Py.Env) => ∃ z3 : Option PV, e = [some (eI a_many), some (eI a_some), some (eI st), z3])) (SG.cast (si_rg1 (se_var (x := a_some) (e := eI) rfl)) (by first | (simp only [dbind_ok]; done) | (simp only [dbind_ok, dbind_assoc, dMapL, dFilL]; done))) ⟨_, rfl⟩ ?_ ?_
  · rintro x3 st2 _ ⟨z3, rfl⟩
    refine sx_bind (e2 := [some (eI a_many), some (eI a_some), some (eI st2), some (eI x3)]) ?_ (by rfl)
    refine sx_asg (SG.cast (se_fdiv (se_mul (se_var (x := st2) (e := eI) rfl) (se_sub (se_var (x := a_many) (e := eI) rfl) (se_var (x := x3) (e := eI) rfl))) (se_add (se_var (x := x3) (e := eI) rfl) se_int)) (by first | (simp only [dbind_ok]; done) | (simp only [dbind_ok, dbind_assoc, dMapL, dFilL]; done))) (of_decide_eq_true rfl) (fun found_5 => ?_)
    exact sx_endS ⟨_, rfl⟩
  · rintro st6 _ ⟨z3, rfl⟩
    exact sx_retF (SG.cast (se_mov (x := st6) (e := eI) rfl) (by first | (simp only [dbind_ok]; done) | (simp only [dbind_ok, dbind_assoc, dMapL, dFilL]; done)))
@[irreducible] def s__law_grid (x0 : Int) (x1 : Int) : Dr PV := vTup (Py.run T 39 8 [eI x0, eI x1] ⟨[], true⟩)
theorem sm__law_grid (n : Nat) (hn : n = 39) (x0 : Int) (x1 : Int) : TE1 I0 eV (s__law_grid x0 x1) (Py.run T n 8 [eI x0, eI x1]) := by
  subst hn
  unfold s__law_grid
  exact vTup_ok (fun s => Iff.rfl)

@[irreducible] def s__law_two (a_a : Int) (a_b : Int) : Dr Int :=
  Dr.bind (Dr.bind (s__law_choose ((a_a + a_b) - (2 : Int)) (a_a - (1 : Int))) fun x1 => Dr.bind (s__law_choose ((a_a + a_b) - (2 : Int)) (a_b - (1 : Int))) fun x2 => dMul x1 x2) fun x5 => Dr.bind (Dr.bind (s__law_choose ((a_a + a_b) - (2 : Int)) a_a) fun x3 => Dr.bind (s__law_choose ((a_a + a_b) - (2 : Int)) a_b) fun x4 => dMul x3 x4) fun x6 => Dr.ok (x5 - x6)
theorem sm__law_two {I : Py.St → Prop} (n : Nat) (hn : 2 ≤ n) (a_a : Int) (a_b : Int) : TE1 I eI (s__law_two a_a a_b) (Py.run T n 9 [eI a_a, eI a_b]) := by
  obtain ⟨n, rfl⟩ : ∃ m, n = m + 1 := ⟨n - 1, by omega⟩
  refine se_run (q := d__law_two) (by rfl) (by rfl) fun s0 => ?_
  unfold s__law_two
  exact sx_retF (SG.cast (se_evm (se_sub (se_mul (se_call2 (se_sub (se_add (se_var (x := a_a) (e := eI) rfl) (se_var (x := a_b) (e := eI) rfl)) se_int) (se_sub (se_var (x := a_a) (e := eI) rfl) se_int) (fun x0 x1 => sm__law_choose n (by omega) x0 x1)) (se_call2 (se_sub (se_add (se_var (x := a_a) (e := eI) rfl) (se_var (x := a_b) (e := eI) rfl)) se_int) (se_sub (se_var (x := a_b) (e := eI) rfl) se_int) (fun x0 x1 => sm__law_choose n (by omega) x0 x1))) (se_mul (se_call2 (se_sub (se_add (se_var (x := a_a) (e := eI) rfl) (se_var (x := a_b) (e := eI) rfl)) se_int) (se_var (x := a_a) (e := eI) rfl) (fun x0 x1 => sm__law_choose n (by omega) x0 x1)) (se_call2 (se_sub (se_add (se_var (x := a_a) (e := eI) rfl) (se_var (x := a_b) (e := eI) rfl)) se_int) (se_var (x := a_b) (e := eI) rfl) (fun x0 x1 => sm__law_choose n (by omega) x0 x1)))) (fun _ z => nomatch z)) (by first | (simp only [dbind_ok]; done) | (simp only [dbind_ok, dbind_assoc, dMapL, dFilL]; done)))
@[irreducible] def s_law : Dr Bool :=
  Dr.bind (dRng1 (2 : Int)) fun l30 =>
  Dr.bind (forD (ρ := Bool) (fun (x2 : Int) (st1 : Unit) =>
    Dr.bind (Dr.bind (dPick (4 : Int)) fun x3 => Dr.ok ((1 : Int) + x3)) fun wide_5 =>
    Dr.bind (Dr.bind (dPick (3 : Int)) fun x4 => Dr.ok ((1 : Int) + x4)) fun high_6 =>
    Dr.bind (s__law_grid wide_5 high_6) fun web_7 =>
    Dr.bind (Dr.bind (dMul wide_5 high_6) fun x9 => Dr.ok (x9 - (1 : Int))) fun last_10 =>
    Dr.bind (Dr.bind (Dr.bind (s_way_sum (eV web_7) (0 : Int) last_10) fun x11 => dRepr (eI x11)) fun x13 => Dr.bind (Dr.bind (s__law_choose ((wide_5 + high_6) - (2 : Int)) (high_6 - (1 : Int))) fun x12 => dRepr (eI x12)) fun x14 => Dr.chk (sOk x13 x14) (.ok (!decide (x13 = x14)))) fun x28 => if x28 then
      Dr.ok (Fw.rt false)
    else
      if (decide ((1 : Int) < wide_5)) && (decide ((1 : Int) < high_6)) then
        Dr.bind (Dr.ok ((1 : Int), wide_5)) fun starts_15 =>
        Dr.bind (Dr.ok ((last_10 - wide_5), (last_10 - (1 : Int)))) fun goals_16 =>
        Dr.bind (Dr.ok (wide_5 - (1 : Int))) fun a_17 =>
        Dr.bind (Dr.ok (high_6 - (1 : Int))) fun b_18 =>
        Dr.bind (s__law_two a_17 b_18) fun due_19 =>
        Dr.bind (Dr.bind (Dr.bind (Dr.bind (s_bunch_sum (eV web_7) starts_15 goals_16) fun x20 => dRepr (eI x20)) fun x21 => Dr.bind (dRepr (eI due_19)) fun x22 => Dr.chk (sOk x21 x22) (.ok (!decide (x21 = x22)))) fun x26 => if x26 then Dr.ok true else Dr.bind (Dr.bind (Dr.bind (s_bunches (eV web_7) starts_15 goals_16) fun x23 => Dr.ok (eV x23)) fun x24 => vLen x24) fun x25 => Dr.ok (!decide (x25 = due_19))) fun x27 => if x27 then
          Dr.ok (Fw.rt false)
        else
          Dr.ok (Fw.nx ())
      else
        Dr.ok (Fw.nx ())) l30 ()) (Fw.go (fun (st29 : Unit) =>
    Dr.ok true) (fun v => v))
theorem sm_law (n : Nat) (h39 : n = 39) (hn : 2 ≤ n) : SG I0 (relRet eB) s_law (exs (Py.run T n) (d_law.body.drop 1) [some PV.scr, some (eSrc ()), none, none, none, none, none, none, none, none, none, none]) := by
  unfold s_law
  refine sx_forD (er := eB) (envR := (fun (st : Unit) (e : Py.Env) => ∃ z0 : Option PV, ∃ z2 : Option PV, ∃ z3 : Option PV, ∃ z4 : Option PV, ∃ z5 : Option PV, ∃ z6 : Option PV, ∃ z7 : Option PV, ∃ z8 : Option PV, ∃ z9 : Option PV, ∃ z10 : Option PV, ∃ z11 : Option PV, e = [z0, some (eSrc ()), z2, z3, z4, z5, z6, z7, z8, z9, z10, z11])) (SG.cast (si_rg1 se_int) (by first | (simp only [dbind_ok]; done) | (simp only [dbind_ok, dbind_assoc, dMapL, dFilL]; done))) ⟨_, _, _, _, _, _, _, _, _, _, _, rfl⟩ ?_ (fun _ => rfl) ?_
  · rintro x2 st1 _ ⟨z0, z2, z3, z4, z5, z6, z7, z8, z9, z10, z11, rfl⟩
    refine sx_bind (e2 := [z0, some (eSrc ()), some (eI x2), z3, z4, z5, z6, z7, z8, z9, z10, z11]) ?_ (by rfl)
    refine sx_par2 (SG.cast (se_add se_int (se_pick (se_var (x := ()) (e := eSrc) rfl) se_int)) (by first | (simp only [dbind_ok]; done) | (simp only [dbind_ok, dbind_assoc, dMapL, dFilL]; done))) (SG.cast (se_add se_int (se_pick (se_var (x := ()) (e := eSrc) rfl) se_int)) (by first | (simp only [dbind_ok]; done) | (simp only [dbind_ok, dbind_assoc, dMapL, dFilL]; done))) (of_decide_eq_true rfl) (of_decide_eq_true rfl) (fun wide_5 high_6 => ?_)
    refine sx_asgZ (E3 := fun (web_7 : PV) (y8 : Unit) => [z0, some (eSrc ()), some (eI x2), some (eV web_7), z4, some (eI wide_5), some (eI high_6), z7, z8, z9, z10, z11]) (SG.cast (se_call2 (se_var (x := wide_5) (e := eI) rfl) (se_var (x := high_6) (e := eI) rfl) (fun x0 x1 => sm__law_grid n (by omega) x0 x1)) (by first | (simp only [dbind_ok]; done) | (simp only [dbind_ok, dbind_assoc, dMapL, dFilL]; done))) (of_decide_eq_true rfl) (fun _ => asgZ_of (E2 := [z0, some (eSrc ()), some (eI x2), z3, z4, some (eI wide_5), some (eI high_6), z7, z8, z9, z10, z11]) (by first | rfl | (show ([z0, some (eSrc ()), some (eI x2), z3, z4, some (brw (eI wide_5)), some (brw (eI high_6)), z7, z8, z9, z10, z11] : Py.Env) = _; simp only [Brw.h]; first | done | rfl)) ⟨(), rfl⟩ ⟨(), rfl⟩) (fun web_7 y8 => ?_)
    refine sx_asg (SG.cast (se_sub (se_mul (se_var (x := wide_5) (e := eI) rfl) (se_var (x := high_6) (e := eI) rfl)) se_int) (by first | (simp only [dbind_ok]; done) | (simp only [dbind_ok, dbind_assoc, dMapL, dFilL]; done))) (of_decide_eq_true rfl) (fun last_10 => ?_)
    refine sx_ite (SG.cast (se_cmp (se_b1 (se_call3 (se_toA (se_var (x := web_7) (e := eV) rfl)) se_int (se_var (x := last_10) (e := eI) rfl) (fun x0 x1 x2 => sm_way_sum n (by omega) x0 x1 x2)) (fun x => blt_repr x)) (se_b1 (se_call2 (se_sub (se_add (se_var (x := wide_5) (e := eI) rfl) (se_var (x := high_6) (e := eI) rfl)) se_int) (se_sub (se_var (x := high_6) (e := eI) rfl) se_int) (fun x0 x1 => sm__law_choose n (by omega) x0 x1)) (fun x => blt_repr x)) (fun x y => cmp_neS x y)) (by first | (simp only [dbind_ok]; done) | (simp only [dbind_ok, dbind_assoc, dMapL, dFilL]; done))) ?_ ?_
    · exact sx_retWT (SG.cast (se_evm se_bl (fun _ z => nomatch z)) (by first | (simp only [dbind_ok]; done) | (simp only [dbind_ok, dbind_assoc, dMapL, dFilL]; done)))
    · refine sx_iteT (SG.cast (se_andT (se_cmp (se_var (x := wide_5) (e := eI) rfl) se_int (fun x y => cmp_gt x y)) (se_cmp (se_var (x := high_6) (e := eI) rfl) se_int (fun x y => cmp_gt x y))) (by first | (simp only [dbind_ok]; done) | (simp only [dbind_ok, dbind_assoc, dMapL, dFilL]; done))) ?_ ?_
      · refine sx_par2 (SG.cast (se_pair se_int (se_var (x := wide_5) (e := eI) rfl)) (by first | (simp only [dbind_ok]; done) | (simp only [dbind_ok, dbind_assoc, dMapL, dFilL]; done))) (SG.cast (se_pair (se_sub (se_var (x := last_10) (e := eI) rfl) (se_var (x := wide_5) (e := eI) rfl)) (se_sub (se_var (x := last_10) (e := eI) rfl) se_int)) (by first | (simp only [dbind_ok]; done) | (simp only [dbind_ok, dbind_assoc, dMapL, dFilL]; done))) (of_decide_eq_true rfl) (of_decide_eq_true rfl) (fun starts_15 goals_16 => ?_)
        refine sx_par2 (SG.cast (se_sub (se_var (x := wide_5) (e := eI) rfl) se_int) (by first | (simp only [dbind_ok]; done) | (simp only [dbind_ok, dbind_assoc, dMapL, dFilL]; done))) (SG.cast (se_sub (se_var (x := high_6) (e := eI) rfl) se_int) (by first | (simp only [dbind_ok]; done) | (simp only [dbind_ok, dbind_assoc, dMapL, dFilL]; done))) (of_decide_eq_true rfl) (of_decide_eq_true rfl) (fun a_17 b_18 => ?_)
        refine sx_asg (SG.cast (se_call2 (se_var (x := a_17) (e := eI) rfl) (se_var (x := b_18) (e := eI) rfl) (fun x0 x1 => sm__law_two n (by omega) x0 x1)) (by first | (simp only [dbind_ok]; done) | (simp only [dbind_ok, dbind_assoc, dMapL, dFilL]; done))) (of_decide_eq_true rfl) (fun due_19 => ?_)
        refine sx_ite (SG.cast (se_or (se_cmp (se_b1 (se_call3 (se_toA (se_var (x := web_7) (e := eV) rfl)) (se_var (x := starts_15) (e := (eP eI eI)) rfl) (se_var (x := goals_16) (e := (eP eI eI)) rfl) (fun x0 x1 x2 => sm_bunch_sum n (by omega) x0 x1 x2)) (fun x => blt_repr x)) (se_b1 (se_var (x := due_19) (e := eI) rfl) (fun x => blt_repr x)) (fun x y => cmp_neS x y)) (se_cmp (se_b1 (se_toA (se_call3 (se_toA (se_var (x := web_7) (e := eV) rfl)) (se_var (x := starts_15) (e := (eP eI eI)) rfl) (se_var (x := goals_16) (e := (eP eI eI)) rfl) (fun x0 x1 x2 => sm_bunches n (by omega) x0 x1 x2))) (fun x => blt_vlen x)) (se_var (x := due_19) (e := eI) rfl) (fun x y => cmp_ne x y))) (by first | (simp only [dbind_ok]; done) | (simp only [dbind_ok, dbind_assoc, dMapL, dFilL]; done))) ?_ ?_
        · exact sx_retWT (SG.cast (se_evm se_bl (fun _ z => nomatch z)) (by first | (simp only [dbind_ok]; done) | (simp only [dbind_ok, dbind_assoc, dMapL, dFilL]; done)))
        · exact sx_endW ⟨_, _, _, _, _, _, _, _, _, _, _, rfl⟩
      · exact sx_endW ⟨_, _, _, _, _, _, _, _, _, _, _, rfl⟩
  · rintro st29 _ ⟨z0, z2, z3, z4, z5, z6, z7, z8, z9, z10, z11, rfl⟩
    exact sx_retF (SG.cast (se_evm se_bl (fun _ z => nomatch z)) (by first | (simp only [dbind_ok]; done) | (simp only [dbind_ok, dbind_assoc, dMapL, dFilL]; done)))
end Q
end

section
set_option maxHeartbeats 1000000
namespace Q
open PySem Py
def lapD : Int → Unit → Dr (Fw Unit Bool) := (fun (x2 : Int) (st1 : Unit) =>
    Dr.bind (Dr.bind (dPick (4 : Int)) fun x3 => Dr.ok ((1 : Int) + x3)) fun wide_5 =>
    Dr.bind (Dr.bind (dPick (3 : Int)) fun x4 => Dr.ok ((1 : Int) + x4)) fun high_6 =>
    Dr.bind (s__law_grid wide_5 high_6) fun web_7 =>
    Dr.bind (Dr.bind (dMul wide_5 high_6) fun x9 => Dr.ok (x9 - (1 : Int))) fun last_10 =>
    Dr.bind (Dr.bind (Dr.bind (s_way_sum (eV web_7) (0 : Int) last_10) fun x11 => dRepr (eI x11)) fun x13 => Dr.bind (Dr.bind (s__law_choose ((wide_5 + high_6) - (2 : Int)) (high_6 - (1 : Int))) fun x12 => dRepr (eI x12)) fun x14 => Dr.chk (sOk x13 x14) (.ok (!decide (x13 = x14)))) fun x28 => if x28 then
      Dr.ok (Fw.rt false)
    else
      if (decide ((1 : Int) < wide_5)) && (decide ((1 : Int) < high_6)) then
        Dr.bind (Dr.ok ((1 : Int), wide_5)) fun starts_15 =>
        Dr.bind (Dr.ok ((last_10 - wide_5), (last_10 - (1 : Int)))) fun goals_16 =>
        Dr.bind (Dr.ok (wide_5 - (1 : Int))) fun a_17 =>
        Dr.bind (Dr.ok (high_6 - (1 : Int))) fun b_18 =>
        Dr.bind (s__law_two a_17 b_18) fun due_19 =>
        Dr.bind (Dr.bind (Dr.bind (Dr.bind (s_bunch_sum (eV web_7) starts_15 goals_16) fun x20 => dRepr (eI x20)) fun x21 => Dr.bind (dRepr (eI due_19)) fun x22 => Dr.chk (sOk x21 x22) (.ok (!decide (x21 = x22)))) fun x26 => if x26 then Dr.ok true else Dr.bind (Dr.bind (Dr.bind (s_bunches (eV web_7) starts_15 goals_16) fun x23 => Dr.ok (eV x23)) fun x24 => vLen x24) fun x25 => Dr.ok (!decide (x25 = due_19))) fun x27 => if x27 then
          Dr.ok (Fw.rt false)
        else
          Dr.ok (Fw.nx ())
      else
        Dr.ok (Fw.nx ()))

def same (x y : Dr Int) : Bool := match x, y with
  | .ok c, .ok d => decide (c = d) && decide (c.natAbs < 2 ^ 20)
  | _, _ => false
theorem same_ok {x y : Dr Int} (h : same x y = true) : ∃ c, x = .ok c ∧ y = .ok c ∧ c.natAbs < 2 ^ 20 := by
  unfold same at h
  split at h
  · rw [Bool.and_eq_true, decide_eq_true_eq, decide_eq_true_eq] at h
    exact ⟨_, rfl, by rw [h.1], h.2⟩
  · cases h
def lenD (m : Dr PV) : Dr Int := match m with
  | .ok L => vLen (eV L)
  | _ => .bad
def chkL (w h : Int) : Bool := match s__law_grid w h with
  | .ok W => same (s_way_sum (eV W) (0 : Int) (w * h - 1)) (s__law_choose ((w + h) - (2 : Int)) (h - (1 : Int))) &&
    (!(decide ((1 : Int) < w) && decide ((1 : Int) < h)) || (same (s_bunch_sum (eV W) ((1 : Int), w) ((w * h - 1 - w), (w * h - 1 - (1 : Int)))) (s__law_two (w - (1 : Int)) (h - (1 : Int))) &&
      same (lenD (s_bunches (eV W) ((1 : Int), w) ((w * h - 1 - w), (w * h - 1 - (1 : Int))))) (s__law_two (w - (1 : Int)) (h - (1 : Int)))))
  | _ => false
theorem chk_11 : chkL 1 1 = true := by decide +kernel
theorem chk_12 : chkL 1 2 = true := by decide +kernel
theorem chk_13 : chkL 1 3 = true := by decide +kernel
theorem chk_21 : chkL 2 1 = true := by decide +kernel
theorem chk_22 : chkL 2 2 = true := by decide +kernel
theorem chk_23 : chkL 2 3 = true := by decide +kernel
theorem chk_31 : chkL 3 1 = true := by decide +kernel
theorem chk_32 : chkL 3 2 = true := by decide +kernel
theorem chk_33 : chkL 3 3 = true := by decide +kernel
theorem chk_41 : chkL 4 1 = true := by decide +kernel
theorem chk_42 : chkL 4 2 = true := by decide +kernel
theorem chk_43 : chkL 4 3 = true := by decide +kernel
theorem chkl_all {i j : Nat} (hi : i < 4) (hj : j < 3) : chkL ((1 : Int) + (i : Int)) ((1 : Int) + (j : Int)) = true := by
  match i, hi, j, hj with
  | 0, _, 0, _ => exact chk_11
  | 0, _, 1, _ => exact chk_12
  | 0, _, 2, _ => exact chk_13
  | 1, _, 0, _ => exact chk_21
  | 1, _, 1, _ => exact chk_22
  | 1, _, 2, _ => exact chk_23
  | 2, _, 0, _ => exact chk_31
  | 2, _, 1, _ => exact chk_32
  | 2, _, 2, _ => exact chk_33
  | 3, _, 0, _ => exact chk_41
  | 3, _, 1, _ => exact chk_42
  | 3, _, 2, _ => exact chk_43
theorem irep {d : Int} (h : d.natAbs < 2 ^ 20) : repOk (eI d) = true := rp_ok (rp_int h) (by decide) (Cmp.h (n := 30) (e := eI) d)
theorem al_lap (x : Int) : (lapD x ()).Al (fun w => ∃ st', w = .nx st' ∧ True) := by
  unfold lapD
  simp only [dbind_assoc, dbind_ok]
  refine Dr.Al.bind (Al_pick (by omega) fun i hi => ?_)
  have hi : i < 4 := by omega
  refine Dr.Al.bind (Al_pick (by omega) fun j hj => ?_)
  have hj : j < 3 := by omega
  have ck := chkl_all hi hj
  generalize hw : (1 : Int) + (i : Int) = w at ck ⊢
  generalize hh : (1 : Int) + (j : Int) = h at ck ⊢
  unfold chkL at ck
  split at ck
  case h_2 => cases ck
  case h_1 W eW =>
  rw [Bool.and_eq_true] at ck
  obtain ⟨c1, c2⟩ := ck
  obtain ⟨c, e1, e2, hc⟩ := same_ok c1
  have em : dMul w h = .ok (w * h) := chk_true (by unfold mulOk; simp only [Bool.or_eq_true, decide_eq_true_eq]; left; left; omega) _
  rw [eW, dbind_ok, em, dbind_ok, e1, dbind_ok]
  obtain ⟨r1, er1, ok1⟩ := repOk_ok (irep hc)
  rw [er1, dbind_ok, e2, dbind_ok, er1, dbind_ok, show sOk r1 r1 = true by show (PyData.strOk r1 && PyData.strOk r1) = true; rw [ok1]; rfl, chk_t, dbind_ok, decide_eq_true rfl, if_neg (by decide)]
  by_cases hb : (decide ((1 : Int) < w) && decide ((1 : Int) < h)) = true
  · rw [if_pos hb]
    rw [hb, Bool.not_true, Bool.false_or, Bool.and_eq_true] at c2
    obtain ⟨c3, c4⟩ := c2
    obtain ⟨d, f1, f2, hd⟩ := same_ok c3
    obtain ⟨d', g1, g2, hd'⟩ := same_ok c4
    rw [f2] at g2
    cases g2
    obtain ⟨r2, er2, ok2⟩ := repOk_ok (irep hd)
    unfold lenD at g1
    split at g1
    case h_2 => cases g1
    case h_1 L eL =>
    rw [f2, dbind_ok, f1, dbind_ok, er2, dbind_ok, dbind_ok, show sOk r2 r2 = true by show (PyData.strOk r2 && PyData.strOk r2) = true; rw [ok2]; rfl, chk_t, dbind_ok, decide_eq_true rfl, if_neg (by decide), eL, dbind_ok, g1, dbind_ok, dbind_ok, decide_eq_true rfl, if_neg (by decide)]
    exact ⟨_, rfl, trivial⟩
  · rw [if_neg hb]
    exact ⟨_, rfl, trivial⟩
theorem law_al : s_law.Al (· = true) := by
  unfold s_law
  show Dr.Al _ (Dr.bind (dRng1 (2 : Int)) fun l30 => Dr.bind (forD lapD l30 ()) (Fw.go (fun _ => Dr.ok true) fun v => v))
  rw [dRng1_ok (by decide), dbind_ok]
  refine Dr.Al.bind (Dr.Al.mono (fun w hw => ?_) (Al_forD (fun _ => True) (fun x st _ => al_lap x) _ _ trivial))
  obtain ⟨st, rfl, _⟩ := hw
  exact rfl

end Q
end

section
namespace Q
open PySem L2 Py
section
def top (i : Nat) : Stmt := PySem.Challenge.pw_piledtables_k46_whole_known_webs_of_ways.main.body.getD i (.Pass ⟨0, 0, 0, 0⟩)
abbrev sSrc : Stmt := top 14
theorem scSrc : FnScope ["script", "stirred", "cell", "cells"] ["script"] (defScope sSrc) := ⟨rfl, rfl, rfl, by decide +kernel, rfl, by decide +kernel, by decide +kernel⟩
variable {P : Program} {w : World} {K : PySem.W.Frag} {mg : Str → Option Value} {base : Heap}
theorem ok_src {f : Addr} {fd : FuncData} (F : Fun K "_law_open_cells" "_law_open_cells" sSrc f fd) (ma : mg "abs" = none) (mi : mg "int" = none) : FnI P w K mg base 1 f fd ["script"] (spO K) := by
  obtain ⟨oc, od, kV, doc, pm, an, cdv, ct, osl, rfl, lk, hcd⟩ := F.ex
  refine fnI_of lk hcd scSrc (fun vs H Q E h => h.1) fun A outer s H vs Q E hr hg h => ?_
  have hu := hu_of hr
  refine ⟨_, pss_cons (ps_set (i := 1) scSrc.nd rfl (Or.inl rfl) pe_int)
    (pss_cons (ps_for (passes_of rfl) rfl (pi_list (pv 0)) (pg_name (i := 2) scSrc.nd rfl (Or.inl rfl))
      (pss_one (ps_set (i := 1) scSrc.nd rfl (Or.inl rfl) (pe_op op_mod (pe_callTy call_int1 (by rfl) mi PyProof.Rows.boot_int (pa_cons (pe_op op_add (pe_op op_add (pe_op op_mul (pv 1) pe_int) (pe_op op_mul (pv 2) pe_int)) pe_int) pa_nil)) pe_int))))
    (pss_cons (ps_setLc (i := 3) (own := [("cell", 2)]) (g := gName 2) (tt := tYes) rfl scSrc.nd rfl rfl (sw_true rfl rfl rfl (by decide +kernel)) (pi_list (pv 0)) (blkOk_by (N := ["script", "stirred", "cell", "cells"]) (sc := defScope sSrc) (by decide +kernel)) (fun _ _ _ _ _ => pg_name (i := 2) scSrc.nd rfl (Or.inl rfl)) (fun _ _ _ _ _ => pts_nil) (fun _ _ _ _ _ => pe_callB call_abs (by rfl) ma (by decide +kernel) (pa_cons (pv 2) pa_nil)))
    (pss_one (ps_ret (pe_disp (pps_cons pe_str (pe_revL (pv 3))
      (pps_cons pe_str pe_int (pps_cons pe_str (pv 1) (pps_cons pe_str pe_int pps_nil)))) (by rfl) (by rfl) (fun z => by cases z) (by decide)))))), ?_⟩
  obtain ⟨_, H0, G0, G, st, a, nw, rfl, rscr, hop, kk⟩ := h
  obtain rfl : a = .ref G.sc := by cases rscr; rfl
  obtain ⟨ns, nl, hq⟩ := nw.sr.seq
  refine ⟨_, rfl, G.sc, rfl, ⟨_, hq⟩, for_list (xs := ns.map V.int) (fun i σ H' => H' = H ∧ ∃ (m : Int) (z : Option V), σ = [some (.ref G.sc), some (.int m), z, none]) ⟨rfl, 11, none, rfl⟩ (fun i σ H' _ hp => by rw [hp.1]; exact hq) ?_ ?_⟩
  · rintro i x σ H' hx ⟨rfl, m, z, rfl⟩
    rw [List.getElem?_map] at hx
    obtain ⟨n, hn, rfl⟩ := Option.map_eq_some_iff.mp hx
    refine ⟨_, rfl, _, _, rfl, rfl, .inr (by decide), _, rfl, _, _, rfl, rfl, .inr (by decide), _, _, rfl, rfl, _, _, rfl, rfl, .inl ⟨_, rfl, _, 2147483629, rfl, rfl, (show (0 : Int) < 2147483629 by decide), ?_⟩⟩
    exact ⟨rfl, _, _, rfl⟩
  · rintro σ H' ⟨rfl, m, z, rfl⟩
    refine ⟨_, rfl, G.sc, rfl, ⟨_, hq⟩, fun D hD => lc_list (xs := ns.map V.int) (fun i Hx => Hx = L2.upd H' D (.lst ((ns.take i).map fun n => V.int (if n < 0 then -n else n)))) rfl (fun i Hx _ hx => by rw [hx]; exact Py.SqL.up (fun b o e => upd_some hD e) hq) ?_ ?_⟩
    · rintro i x Hx hx rfl
      rw [List.getElem?_map] at hx
      obtain ⟨n, hn, rfl⟩ := Option.map_eq_some_iff.mp hx
      refine ⟨rfl, _, rfl, n, rfl, _, upd_same, ?_, ?_⟩
      · rw [List.length_map, List.length_take]
        have := (List.getElem?_eq_some_iff.mp hn).1
        omega
      · rw [upd_upd, List.take_add_one, hn]
        simp
    · rintro Hx rfl
      rw [List.length_map, List.take_length]
      intro p hp
      have hpD : p ≠ D := fun e => by rw [e, upd_same] at hp; cases hp
      have hp0 : H' p = none := by rw [upd_ne hpD] at hp; exact hp
      refine ⟨_, rfl, D, _, rfl, .inl (.inl (by rw [upd_ne (Ne.symm hpD)]; exact upd_same)), fun c hc => ?_⟩
      have ncp : c ≠ p := fun e => by rw [e, upd_same] at hc; cases hc
      have hc1 : L2.upd H' D (.lst (ns.map fun n => V.int (if n < 0 then -n else n))) c = none := by rw [upd_ne ncp] at hc; exact hc
      have ncD : c ≠ D := fun e => by rw [e, upd_same] at hc1; cases hc1
      have hc0 : H' c = none := by rw [upd_ne ncD] at hc1; exact hc1
      refine ⟨_, rfl, ?_, [(Sum.inr "cells", .ref c), (Sum.inr "left", .int 1), (Sum.inr "mixed", .int m), (Sum.inr "turn", .int 0)], rfl, (show 4 ≤ 15 by decide), ?_⟩
      · rw [upd_ne (Ne.symm ncp), upd_same]
      · refine kk (G.opn p c) _ _ (nw.opn hop (fun b o e => ?_) (fun b e => ?_) hp0 hc0 ?_) (.src rfl)
        · have h1 : b ≠ p := ne_of_none e hp0
          have h2 : b ≠ D := ne_of_none e hD
          have h3 : b ≠ c := ne_of_none e hc0
          rw [upd_ne h1, upd_ne h3, upd_ne h1, upd_ne h2]; exact e
        · by_cases h1 : b = p
          · rw [h1]; exact hp0
          · by_cases h2 : b = c
            · rw [h2]; exact hc0
            · by_cases h3 : b = D
              · rw [h3]; exact hD
              · rw [upd_ne h1, upd_ne h2, upd_ne h1, upd_ne h3] at e; exact e
        · refine ⟨Ne.symm ncp, _, (ns.map fun n => if n < 0 then -n else n).reverse, 1, m, 0, upd_same, ?_, ?_, ?_, ?_, ?_, ?_, ?_⟩
          · rw [upd_ne ncp, upd_same, List.map_reverse, List.map_map]
            rfl
          · rfl
          · rfl
          · rfl
          · rfl
          · exact fun k h => h
          · rfl

abbrev sPick : Stmt := top 15
theorem scP : FnScope ["source", "most", "cells", "others", "lap", "stirred"] ["source", "most"] (defScope sPick) := ⟨rfl, rfl, rfl, by decide +kernel, rfl, by decide +kernel, by decide +kernel⟩
theorem ok_pick {f : Addr} {fd : FuncData} (F : Fun K "_law_pick" "_law_pick" sPick f fd) (ml : mg "len" = none) (mi : mg "int" = none) : FnI P w K mg base 1 f fd ["source", "most"] (spP K) := by
  obtain ⟨oc, od, kV, doc, pm, an, cdv, ct, osl, rfl, lk, hcd⟩ := F.ex
  refine fnI_of lk hcd scP (fun vs H Q E h => h.1) fun A outer s H vs Q E hr hg h => ?_
  have hu := hu_of hr
  refine ⟨_, pss_cons (ps_if (pt_cmpR op_lt (pv 1) pe_int (nomark _)) (pss_one (ps_ret pe_int)) pss_nil)
    (pss_cons (ps_set (i := 2) scP.nd rfl (Or.inl rfl) (pe_dget hu (pv 0) pe_str (fun _ _ => rfl)))
    (pss_cons (ps_while (passes_of rfl) (PW.pt (pw_and (pt_cmpR op_lt (pe_dget hu (pv 0) pe_str (fun _ _ => rfl)) pe_int (nomark _)) (pw_and1 (pt_cmpR op_gt (pe_callB call_len_seq (by rfl) ml PySem.boot_len (pa_cons (pv 2) pa_nil)) pe_int (nomark _)))))
      (pss_one (ps_dput hu (pv 0) pe_str (pe_bm0 PySem.F.plainAttrs_list PySem.F.slot_list_pop PySem.F.type_list_pop mt_pop (pv 2)) rfl)))
    (pss_cons (ps_set (i := 3) scP.nd rfl (Or.inl rfl) (pe_dget hu (pv 0) pe_str (fun _ _ => rfl)))
    (pss_cons (ps_if (pt_cmpR op_gt (pv 3) pe_int (nomark _))
      (pss_cons (ps_dput hu (pv 0) pe_str (pe_op op_fdiv (pv 3) (pv 1)) rfl)
      (pss_one (ps_ret (pe_op op_mod (pe_callTy call_int1 (by rfl) mi PyProof.Rows.boot_int (pa_cons (pv 3) pa_nil)) (pv 1))))) pss_nil)
    (pss_cons (ps_dput hu (pv 0) pe_str (pe_op op_add (pe_dget hu (pv 0) pe_str (fun _ _ => rfl)) pe_int) rfl)
    (pss_cons (ps_set (i := 4) scP.nd rfl (Or.inl rfl) (pe_dget hu (pv 0) pe_str (fun _ _ => rfl)))
    (pss_cons (ps_set (i := 5) scP.nd rfl (Or.inl rfl) (pe_op op_mod (pe_callTy call_int1 (by rfl) mi PyProof.Rows.boot_int (pa_cons (pe_op op_add (pe_dget hu (pv 0) pe_str (fun _ _ => rfl)) (pe_op op_mul (pv 4) pe_int)) pa_nil)) pe_int))
    (pss_cons (ps_set (i := 5) scP.nd rfl (Or.inl rfl) (pe_op op_mod (pe_callTy call_int1 (by rfl) mi PyProof.Rows.boot_int (pa_cons (pe_op op_add (pe_op op_mul (pv 5) (pv 5)) (pe_op op_mul (pv 4) pe_int)) pa_nil)) pe_int))
    (pss_one (ps_ret (pe_op op_mod (pe_callTy call_int1 (by rfl) mi PyProof.Rows.boot_int (pa_cons (pe_op op_fdiv (pv 5) pe_int) pa_nil)) (pv 1)))))))))))), ?_⟩
  obtain ⟨_, H0, G0, G, st, a, n, nw, rfl, rsrc, hn, k⟩ := h
  obtain ⟨p, c, rfl, es⟩ : ∃ p c, a = .ref p ∧ G.sr = some (p, c) := by
    cases rsrc with | src e => exact ⟨_, _, rfl, e⟩
  have x0 : SrcN K H0 G0 G st p c H := ⟨nw, es⟩
  -- most < 2
  refine ⟨_, rfl, n, 2, rfl, rfl, _, rfl, ?_⟩
  refine ite2 (fun c0 => ?_) (fun c0 => ?_)
  · have kk := k 0 H (by omega) nw
    exact kk
  have hn0 : 2 ≤ n := by simp at c0; omega
  obtain ⟨kvs0, ns0, l0, m0, t0, ea0, ec0, e30, _⟩ := x0.get
  have g30 : DGet H p (V.str ("cells" : Str)) (some (V.ref c)) := by rw [← e30]; exact DGet.k (k := Sum.inr ("cells" : Str)) ea0
  refine ⟨_, rfl, p, _, rfl, g30, ?_⟩
  refine ⟨fun m σ H1 => σ = [some (.ref p), some (.int n), some (.ref c), none, none, none] ∧ SrcN K H0 G0 G st p c H1 ∧ ∃ ns : List Int, H1 c = some (.lst (ns.map V.int)) ∧ ns.length = m, ⟨_, rfl, x0, ns0, ec0, rfl⟩, ?_⟩
  rintro m σ H1 ⟨rfl, x1, ns, ec, rfl⟩
  obtain ⟨kvs, ns', l, mx, tn, ea, ec', e3, e4, e5, e6, e8⟩ := x1.get
  have g4 : DGet H1 p (V.str ("left" : Str)) (some (V.int l)) := by rw [← e4]; exact DGet.k (k := Sum.inr ("left" : Str)) ea
  have g6 : DGet H1 p (V.str ("turn" : Str)) (some (V.int tn)) := by rw [← e6]; exact DGet.k (k := Sum.inr ("turn" : Str)) ea
  refine ⟨_, rfl, p, _, rfl, g4, l, 2, rfl, rfl, _, rfl, ?_⟩
  refine ite2 (fun c2 => ?_) (fun c2 => ?_)
  · refine ⟨_, rfl, c, _, rfl, .inl (.inl (.inl ec)), _, 0, rfl, rfl, _, rfl, ?_⟩
    refine ite2 (fun c3 => ?_) (fun c3 => ?_)
    · have hne : ns ≠ [] := fun z => by subst z; simp at c3
      have hpos : 0 < ns.length := List.length_pos_iff.mpr hne
      obtain ⟨si, _⟩ := x1.nw.sr.si p c x1.es
      have npc : p ≠ c := si.1
      refine ⟨fun σ' H' => σ' = [some (.ref p), some (.int n), some (.ref c), none, none, none] ∧ SrcN K H0 G0 G st p c H' ∧ ∃ ms : List Int, H' c = some (.lst (ms.map V.int)) ∧ ms.length < ns.length, fun σ' H' ⟨q1, q2, ms, q3, q4⟩ => ⟨ms.length, q4, q1, q2, ms, q3, rfl⟩, ?_⟩
      have hy : (ns.map V.int)[(ns.map V.int).length - 1]? = some (V.int (ns[ns.length - 1]'(by omega))) := by
        rw [List.length_map, List.getElem?_map, List.getElem?_eq_getElem (by omega)]
        rfl
      have hdl : (ns.map V.int).dropLast = ns.dropLast.map V.int := by rw [List.dropLast_eq_take, List.dropLast_eq_take, List.length_map, List.map_take]
      refine ⟨_, rfl, Or.inl ⟨rfl, _, .inl (.inl ec)⟩, c, _, _, rfl, rfl, ec, hy, ?_⟩
      rw [hdl]
      have x2 := x1.cells ns.dropLast
      have ea2 : (L2.upd H1 c (.lst (ns.dropLast.map V.int))) p = some (.dK kvs) := by rw [upd_ne npc]; exact ea
      have x3 := x2.put ea2 (ns[ns.length - 1]'(by omega)) (.inl rfl)
      refine ⟨_, rfl, p, _, rfl, DPut.k (k := Sum.inr ("left" : Str)) ea2 (by rw [e8]; decide), rfl, x3, ns.dropLast, by rw [upd_ne (Ne.symm npc)]; exact upd_same, by rw [List.length_dropLast]; omega⟩
    · --
      refine ⟨_, rfl, p, _, rfl, g4, ?_⟩
      refine ⟨_, rfl, l, 1, rfl, rfl, _, rfl, ?_⟩
      refine ite2 (fun d2 => ?_) (fun d2 => ?_)
      · refine ⟨_, rfl, _, rfl, l, n, rfl, rfl, ⟨by omega, by omega⟩, _, rfl, p, _, rfl, DPut.k (k := Sum.inr ("left" : Str)) ea (by rw [e8]; decide), ?_⟩
        refine ⟨_, rfl, .inl ⟨l, rfl, _, rfl, l, n, rfl, rfl, by omega, ?_⟩⟩
        have hr1 := Int.emod_nonneg l (show n ≠ 0 by omega)
        have hr2 := Int.emod_lt_of_pos l (show 0 < n by omega)
        have kk := k (l % n).toNat _ (by omega) (x1.put ea (l / n) (.inl rfl)).nw
        rw [Int.toNat_of_nonneg hr1] at kk
        exact kk
      · refine ⟨_, rfl, p, _, rfl, g6, tn, 1, rfl, rfl, _, rfl, p, _, rfl, DPut.k (k := Sum.inr ("turn" : Str)) ea (by rw [e8]; decide), ?_⟩
        have x4 := x1.put ea (tn + 1) (.inr (.inr rfl))
        generalize L2.upd H1 p (.dK (putK kvs (Sum.inr ("turn" : Str)) (.int (tn + 1)))) = H2 at x4
        obtain ⟨kv2, _, l2, m2, t2, ea2, _, _, f4, f5, f6, f8⟩ := x4.get
        have gm : DGet H2 p (V.str ("mixed" : Str)) (some (V.int m2)) := by rw [← f5]; exact DGet.k (k := Sum.inr ("mixed" : Str)) ea2
        have gt : DGet H2 p (V.str ("turn" : Str)) (some (V.int t2)) := by rw [← f6]; exact DGet.k (k := Sum.inr ("turn" : Str)) ea2
        refine ⟨_, rfl, p, _, rfl, gt, ?_⟩
        refine ⟨_, rfl, p, _, rfl, gm, _, rfl, t2, 104729, rfl, rfl, .inr (by decide), m2, _, rfl, rfl, .inl ⟨_, rfl, _, 998244353, rfl, rfl, (show (0 : Int) < 998244353 by decide), ?_⟩⟩
        have b1 := Int.emod_nonneg (m2 + t2 * 104729) (show (998244353 : Int) ≠ 0 by decide)
        have b2 := Int.emod_lt_of_pos (m2 + t2 * 104729) (show (0 : Int) < 998244353 by decide)
        refine ⟨_, rfl, _, rfl, ((m2 + t2 * 104729) % 998244353), ((m2 + t2 * 104729) % 998244353), rfl, rfl, .inl ⟨by omega, by omega⟩, _, rfl, t2, 17, rfl, rfl, .inr (by decide), _, _, rfl, rfl, .inl ⟨_, rfl, _, 2147483647, rfl, rfl, (show (0 : Int) < 2147483647 by decide), ?_⟩⟩
        refine ⟨_, rfl, _, 16, rfl, rfl, ⟨by decide, by decide⟩, .inl ⟨_, rfl, _, rfl, _, n, rfl, rfl, (show 0 < n by omega), ?_⟩⟩
        have hr1 := Int.emod_nonneg ((((m2 + t2 * 104729) % 998244353) * ((m2 + t2 * 104729) % 998244353) + t2 * 17) % 2147483647 / 16) (show n ≠ 0 by omega)
        have hr2 := Int.emod_lt_of_pos ((((m2 + t2 * 104729) % 998244353) * ((m2 + t2 * 104729) % 998244353) + t2 * 17) % 2147483647 / 16) (show 0 < n by omega)
        have kk := k (((((m2 + t2 * 104729) % 998244353) * ((m2 + t2 * 104729) % 998244353) + t2 * 17) % 2147483647 / 16) % n).toNat _ (by omega) x4.nw
        rw [Int.toNat_of_nonneg hr1] at kk
        exact kk
  · refine iteF ?_
    refine ⟨_, rfl, p, _, rfl, g4, ?_⟩
    refine ⟨_, rfl, l, 1, rfl, rfl, _, rfl, ?_⟩
    refine ite2 (fun d2 => ?_) (fun d2 => ?_)
    · refine ⟨_, rfl, _, rfl, l, n, rfl, rfl, ⟨by omega, by omega⟩, _, rfl, p, _, rfl, DPut.k (k := Sum.inr ("left" : Str)) ea (by rw [e8]; decide), ?_⟩
      refine ⟨_, rfl, .inl ⟨l, rfl, _, rfl, l, n, rfl, rfl, by omega, ?_⟩⟩
      have hr1 := Int.emod_nonneg l (show n ≠ 0 by omega)
      have hr2 := Int.emod_lt_of_pos l (show 0 < n by omega)
      have kk := k (l % n).toNat _ (by omega) (x1.put ea (l / n) (.inl rfl)).nw
      rw [Int.toNat_of_nonneg hr1] at kk
      exact kk
    · refine ⟨_, rfl, p, _, rfl, g6, tn, 1, rfl, rfl, _, rfl, p, _, rfl, DPut.k (k := Sum.inr ("turn" : Str)) ea (by rw [e8]; decide), ?_⟩
      have x4 := x1.put ea (tn + 1) (.inr (.inr rfl))
      generalize L2.upd H1 p (.dK (putK kvs (Sum.inr ("turn" : Str)) (.int (tn + 1)))) = H2 at x4
      obtain ⟨kv2, _, l2, m2, t2, ea2, _, _, f4, f5, f6, f8⟩ := x4.get
      have gm : DGet H2 p (V.str ("mixed" : Str)) (some (V.int m2)) := by rw [← f5]; exact DGet.k (k := Sum.inr ("mixed" : Str)) ea2
      have gt : DGet H2 p (V.str ("turn" : Str)) (some (V.int t2)) := by rw [← f6]; exact DGet.k (k := Sum.inr ("turn" : Str)) ea2
      refine ⟨_, rfl, p, _, rfl, gt, ?_⟩
      refine ⟨_, rfl, p, _, rfl, gm, _, rfl, t2, 104729, rfl, rfl, .inr (by decide), m2, _, rfl, rfl, .inl ⟨_, rfl, _, 998244353, rfl, rfl, (show (0 : Int) < 998244353 by decide), ?_⟩⟩
      have b1 := Int.emod_nonneg (m2 + t2 * 104729) (show (998244353 : Int) ≠ 0 by decide)
      have b2 := Int.emod_lt_of_pos (m2 + t2 * 104729) (show (0 : Int) < 998244353 by decide)
      refine ⟨_, rfl, _, rfl, ((m2 + t2 * 104729) % 998244353), ((m2 + t2 * 104729) % 998244353), rfl, rfl, .inl ⟨by omega, by omega⟩, _, rfl, t2, 17, rfl, rfl, .inr (by decide), _, _, rfl, rfl, .inl ⟨_, rfl, _, 2147483647, rfl, rfl, (show (0 : Int) < 2147483647 by decide), ?_⟩⟩
      refine ⟨_, rfl, _, 16, rfl, rfl, ⟨by decide, by decide⟩, .inl ⟨_, rfl, _, rfl, _, n, rfl, rfl, (show 0 < n by omega), ?_⟩⟩
      have hr1 := Int.emod_nonneg ((((m2 + t2 * 104729) % 998244353) * ((m2 + t2 * 104729) % 998244353) + t2 * 17) % 2147483647 / 16) (show n ≠ 0 by omega)
      have hr2 := Int.emod_lt_of_pos ((((m2 + t2 * 104729) % 998244353) * ((m2 + t2 * 104729) % 998244353) + t2 * 17) % 2147483647 / 16) (show 0 < n by omega)
      have kk := k (((((m2 + t2 * 104729) % 998244353) * ((m2 + t2 * 104729) % 998244353) + t2 * 17) % 2147483647 / 16) % n).toNat _ (by omega) x4.nw
      rw [Int.toNat_of_nonneg hr1] at kk
      exact kk

end
theorem law_b : d_law.body = .asg 1 (.opn (.var 0)) :: d_law.body.drop 1 := rfl
theorem law_s : ex (Py.run T 39) (.asg 1 (.opn (.var 0))) (some .scr :: List.replicate (d_law.ns - 1) none) ⟨[], false⟩ = .ok (.nx [some PV.scr, some (eSrc ()), none, none, none, none, none, none, none, none, none, none]) ⟨[], true⟩ := start1 (i := 1) rfl (by decide)
theorem law_i : I0 ⟨[], true⟩ := rfl
theorem law_t : T[10]? = some d_law := rfl
theorem law_tru : TruS (Py.run T (39 + 1) 10 [.scr] ⟨[], false⟩) := TruS.mk <|
  @law_body I0 T 39 10 d_law ⟨[], false⟩ ⟨[], true⟩ s_law _ _ _ law_t rfl law_b law_s law_i (sm_law 39 rfl (by decide)) law_al
theorem sc_ways : FnScope ["web", "a", "b", "found", "rest", "way", "one", "other", "weight"] ["web", "a", "b"] (defScope (top 4)) := ⟨rfl, rfl, rfl, by decide +kernel, rfl, by decide +kernel, by decide +kernel⟩
theorem sc_way_sum : FnScope ["web", "a", "b", "sums", "one", "other", "weight", "x"] ["web", "a", "b"] (defScope (top 5)) := ⟨rfl, rfl, rfl, by decide +kernel, rfl, by decide +kernel, by decide +kernel⟩
theorem sc_table_of : FnScope ["web", "starts", "goals", "a", "b"] ["web", "starts", "goals"] (defScope (top 8)) := ⟨rfl, rfl, rfl, by decide +kernel, rfl, by decide +kernel, by decide +kernel⟩
theorem sc_determinant : FnScope ["rows", "c", "sign", "last", "spots", "r", "own", "row", "one", "other"] ["rows"] (defScope (top 9)) := ⟨rfl, rfl, rfl, by decide +kernel, rfl, by decide +kernel, by decide +kernel⟩
theorem sc_bunches : FnScope ["web", "starts", "goals", "table", "rows", "i", "late", "row", "a", "used", "nodes", "way", "b", "j", "goal", "node"] ["web", "starts", "goals"] (defScope (top 10)) := ⟨rfl, rfl, rfl, by decide +kernel, rfl, by decide +kernel, by decide +kernel⟩
theorem sc_families_of : FnScope ["table", "k", "counts", "row", "late", "code", "many", "j"] ["table", "k"] (defScope (top 11)) := ⟨rfl, rfl, rfl, by decide +kernel, rfl, by decide +kernel, by decide +kernel⟩
theorem sc_bunch_sum : FnScope ["web", "starts", "goals"] ["web", "starts", "goals"] (defScope (top 12)) := ⟨rfl, rfl, rfl, by decide +kernel, rfl, by decide +kernel, by decide +kernel⟩
theorem sc__law_choose : FnScope ["many", "some", "found", "i"] ["many", "some"] (defScope (top 16)) := ⟨rfl, rfl, rfl, by decide +kernel, rfl, by decide +kernel, by decide +kernel⟩
theorem sc__law_grid : FnScope ["wide", "high", "arrows", "y", "x"] ["wide", "high"] (defScope (top 17)) := ⟨rfl, rfl, rfl, by decide +kernel, rfl, by decide +kernel, by decide +kernel⟩
theorem sc__law_two : FnScope ["a", "b"] ["a", "b"] (defScope (top 18)) := ⟨rfl, rfl, rfl, by decide +kernel, rfl, by decide +kernel, by decide +kernel⟩
theorem sc_law : FnScope ["script", "source", "lap", "web", "last", "wide", "high", "due", "starts", "goals", "a", "b"] ["script"] (defScope (top 19)) := ⟨rfl, rfl, rfl, by decide +kernel, rfl, by decide +kernel, by decide +kernel⟩
theorem chk_all : chkG ["ways", "way_sum", "table_of", "determinant", "bunches", "families_of", "bunch_sum", "_law_choose", "_law_grid", "_law_two", "law"] [("MOST_FAMILIES", 2000)] ["_law_pick"] ["_law_open_cells"] [⟨["web", "a", "b"], ["web", "a", "b", "found", "rest", "way", "one", "other", "weight"], top 4⟩, ⟨["web", "a", "b"], ["web", "a", "b", "sums", "one", "other", "weight", "x"], top 5⟩, ⟨["web", "starts", "goals"], ["web", "starts", "goals", "a", "b"], top 8⟩, ⟨["rows"], ["rows", "c", "sign", "last", "spots", "r", "own", "row", "one", "other"], top 9⟩, ⟨["web", "starts", "goals"], ["web", "starts", "goals", "table", "rows", "i", "late", "row", "a", "used", "nodes", "way", "b", "j", "goal", "node"], top 10⟩, ⟨["table", "k"], ["table", "k", "counts", "row", "late", "code", "many", "j"], top 11⟩, ⟨["web", "starts", "goals"], ["web", "starts", "goals"], top 12⟩, ⟨["many", "some"], ["many", "some", "found", "i"], top 16⟩, ⟨["wide", "high"], ["wide", "high", "arrows", "y", "x"], top 17⟩, ⟨["a", "b"], ["a", "b"], top 18⟩, ⟨["script"], ["script", "source", "lap", "web", "last", "wide", "high", "due", "starts", "goals", "a", "b"], top 19⟩] T = true := by decide +kernel
def T0 : Tb := ⟨[], [], Py.run T (39 + 1), [], [], fun _ => .none, fun _ => none⟩
theorem T0F : T0.F = Py.run T (39 + 1) := rfl
theorem all_mk {l : PySem.W.OpenLaw} {w : World} {K : PySem.W.Frag} {h : Heap} {mg : Str → Option Value} {fa f0 f1 f2 f3 f4 f5 f6 f7 f8 f9 f10 f11 f12 : Addr} (X : K.In h) (G : h.Ns mainGlobals mg) (hfa : mg "law" = some (.ref fa))
    {od0 an0 od1 an1 od2 an2 od3 an3 od4 an4 od5 an5 od6 an6 od7 an7 od8 an8 od9 an9 od10 an10 od11 an11 od12 an12 : Option Addr} {sl0 sl1 sl2 sl3 sl4 sl5 sl6 sl7 sl8 sl9 sl10 sl11 sl12 : Array (Option Value)} {oc0 kV0 dc0 pm0 cd0 ct0 oc1 kV1 dc1 pm1 cd1 ct1 oc2 kV2 dc2 pm2 cd2 ct2 oc3 kV3 dc3 pm3 cd3 ct3 oc4 kV4 dc4 pm4 cd4 ct4 oc5 kV5 dc5 pm5 cd5 ct5 oc6 kV6 dc6 pm6 cd6 ct6 oc7 kV7 dc7 pm7 cd7 ct7 oc8 kV8 dc8 pm8 cd8 ct8 oc9 kV9 dc9 pm9 cd9 ct9 oc10 kV10 dc10 pm10 cd10 ct10 oc11 kV11 dc11 pm11 cd11 ct11 oc12 kV12 dc12 pm12 cd12 ct12 : Value}
    (a0 : PySem.W.nsIn K mainGlobals "ways" = some (some (.ref f0))) (l0 : K.lookup f0 = some ⟨oc0, od0, .func (PySem.W.fnOf "ways" "ways" (defArgs (top 4)) (defBody (top 4)) (defScope (top 4)) .none kV0 dc0 pm0 an0 cd0 ct0), sl0⟩) (c0 : PySem.W.codeIn K cd0 "ways" = true) (k0 : PySem.W.keepIn K (.ref f0) = true)
    (a1 : PySem.W.nsIn K mainGlobals "way_sum" = some (some (.ref f1))) (l1 : K.lookup f1 = some ⟨oc1, od1, .func (PySem.W.fnOf "way_sum" "way_sum" (defArgs (top 5)) (defBody (top 5)) (defScope (top 5)) .none kV1 dc1 pm1 an1 cd1 ct1), sl1⟩) (c1 : PySem.W.codeIn K cd1 "way_sum" = true) (k1 : PySem.W.keepIn K (.ref f1) = true)
    (a2 : PySem.W.nsIn K mainGlobals "table_of" = some (some (.ref f2))) (l2 : K.lookup f2 = some ⟨oc2, od2, .func (PySem.W.fnOf "table_of" "table_of" (defArgs (top 8)) (defBody (top 8)) (defScope (top 8)) .none kV2 dc2 pm2 an2 cd2 ct2), sl2⟩) (c2 : PySem.W.codeIn K cd2 "table_of" = true) (k2 : PySem.W.keepIn K (.ref f2) = true)
    (a3 : PySem.W.nsIn K mainGlobals "determinant" = some (some (.ref f3))) (l3 : K.lookup f3 = some ⟨oc3, od3, .func (PySem.W.fnOf "determinant" "determinant" (defArgs (top 9)) (defBody (top 9)) (defScope (top 9)) .none kV3 dc3 pm3 an3 cd3 ct3), sl3⟩) (c3 : PySem.W.codeIn K cd3 "determinant" = true) (k3 : PySem.W.keepIn K (.ref f3) = true)
    (a4 : PySem.W.nsIn K mainGlobals "bunches" = some (some (.ref f4))) (l4 : K.lookup f4 = some ⟨oc4, od4, .func (PySem.W.fnOf "bunches" "bunches" (defArgs (top 10)) (defBody (top 10)) (defScope (top 10)) .none kV4 dc4 pm4 an4 cd4 ct4), sl4⟩) (c4 : PySem.W.codeIn K cd4 "bunches" = true) (k4 : PySem.W.keepIn K (.ref f4) = true)
    (a5 : PySem.W.nsIn K mainGlobals "families_of" = some (some (.ref f5))) (l5 : K.lookup f5 = some ⟨oc5, od5, .func (PySem.W.fnOf "families_of" "families_of" (defArgs (top 11)) (defBody (top 11)) (defScope (top 11)) .none kV5 dc5 pm5 an5 cd5 ct5), sl5⟩) (c5 : PySem.W.codeIn K cd5 "families_of" = true) (k5 : PySem.W.keepIn K (.ref f5) = true)
    (a6 : PySem.W.nsIn K mainGlobals "bunch_sum" = some (some (.ref f6))) (l6 : K.lookup f6 = some ⟨oc6, od6, .func (PySem.W.fnOf "bunch_sum" "bunch_sum" (defArgs (top 12)) (defBody (top 12)) (defScope (top 12)) .none kV6 dc6 pm6 an6 cd6 ct6), sl6⟩) (c6 : PySem.W.codeIn K cd6 "bunch_sum" = true) (k6 : PySem.W.keepIn K (.ref f6) = true)
    (a7 : PySem.W.nsIn K mainGlobals "_law_choose" = some (some (.ref f7))) (l7 : K.lookup f7 = some ⟨oc7, od7, .func (PySem.W.fnOf "_law_choose" "_law_choose" (defArgs (top 16)) (defBody (top 16)) (defScope (top 16)) .none kV7 dc7 pm7 an7 cd7 ct7), sl7⟩) (c7 : PySem.W.codeIn K cd7 "_law_choose" = true) (k7 : PySem.W.keepIn K (.ref f7) = true)
    (a8 : PySem.W.nsIn K mainGlobals "_law_grid" = some (some (.ref f8))) (l8 : K.lookup f8 = some ⟨oc8, od8, .func (PySem.W.fnOf "_law_grid" "_law_grid" (defArgs (top 17)) (defBody (top 17)) (defScope (top 17)) .none kV8 dc8 pm8 an8 cd8 ct8), sl8⟩) (c8 : PySem.W.codeIn K cd8 "_law_grid" = true) (k8 : PySem.W.keepIn K (.ref f8) = true)
    (a9 : PySem.W.nsIn K mainGlobals "_law_two" = some (some (.ref f9))) (l9 : K.lookup f9 = some ⟨oc9, od9, .func (PySem.W.fnOf "_law_two" "_law_two" (defArgs (top 18)) (defBody (top 18)) (defScope (top 18)) .none kV9 dc9 pm9 an9 cd9 ct9), sl9⟩) (c9 : PySem.W.codeIn K cd9 "_law_two" = true) (k9 : PySem.W.keepIn K (.ref f9) = true)
    (a10 : PySem.W.nsIn K mainGlobals "law" = some (some (.ref f10))) (l10 : K.lookup f10 = some ⟨oc10, od10, .func (PySem.W.fnOf "law" "law" (defArgs (top 19)) (defBody (top 19)) (defScope (top 19)) .none kV10 dc10 pm10 an10 cd10 ct10), sl10⟩) (c10 : PySem.W.codeIn K cd10 "law" = true) (k10 : PySem.W.keepIn K (.ref f10) = true)
    (a11 : PySem.W.nsIn K mainGlobals "_law_pick" = some (some (.ref f11))) (l11 : K.lookup f11 = some ⟨oc11, od11, .func (PySem.W.fnOf "_law_pick" "_law_pick" (defArgs (top 15)) (defBody (top 15)) (defScope (top 15)) .none kV11 dc11 pm11 an11 cd11 ct11), sl11⟩) (c11 : PySem.W.codeIn K cd11 "_law_pick" = true) (k11 : PySem.W.keepIn K (.ref f11) = true)
    (a12 : PySem.W.nsIn K mainGlobals "_law_open_cells" = some (some (.ref f12))) (l12 : K.lookup f12 = some ⟨oc12, od12, .func (PySem.W.fnOf "_law_open_cells" "_law_open_cells" (defArgs (top 14)) (defBody (top 14)) (defScope (top 14)) .none kV12 dc12 pm12 an12 cd12 ct12), sl12⟩) (c12 : PySem.W.codeIn K cd12 "_law_open_cells" = true) (k12 : PySem.W.keepIn K (.ref f12) = true)
    {tq0 : Tok} (q0 : PySem.W.nsIn K mainGlobals "MOST_FAMILIES" = some (some (.int 2000 tq0)))
    (z0 : PySem.W.nsIn K mainGlobals "len" = some none)
    (z1 : PySem.W.nsIn K mainGlobals "tuple" = some none)
    (z2 : PySem.W.nsIn K mainGlobals "list" = some none)
    (z3 : PySem.W.nsIn K mainGlobals "sum" = some none)
    (z4 : PySem.W.nsIn K mainGlobals "max" = some none)
    (z5 : PySem.W.nsIn K mainGlobals "min" = some none)
    (z6 : PySem.W.nsIn K mainGlobals "abs" = some none)
    (z7 : PySem.W.nsIn K mainGlobals "int" = some none)
    (z8 : PySem.W.nsIn K mainGlobals "sorted" = some none)
    (z9 : PySem.W.nsIn K mainGlobals "repr" = some none)
    (z10 : PySem.W.nsIn K mainGlobals "any" = some none)
    (z11 : PySem.W.nsIn K mainGlobals "all" = some none)
    (z12 : PySem.W.nsIn K mainGlobals "str" = some none)
    (z13 : PySem.W.nsIn K mainGlobals "dict" = some none)
    (z14 : PySem.W.nsIn K mainGlobals "range" = some none)
    (z15 : PySem.W.nsIn K mainGlobals "enumerate" = some none)
    (z16 : PySem.W.nsIn K mainGlobals "zip" = some none)
    (z17 : PySem.W.nsIn K mainGlobals "isinstance" = some none)
    (z18 : PySem.W.nsIn K mainGlobals "bool" = some none)
    : ∃ fd : FuncData, (∀ (s : Shared) (v : Value), BindsTo s fd ⟨[v], []⟩ [("script", v)]) ∧ ∀ base : Heap, K.In base → base.Ns mainGlobals mg → FnI l.prog w K mg base (39 + 1 + 2) fa fd ["script"] (spF K T0 10 1) := by
  have e := hfa.symm.trans (PySem.W.mg_of X G a10)
  cases e
  have F0 := fun_mk (st := top 4) l0 c0 k0
  have b0 := F0.binds (ps := ["web", "a", "b"]) fun _ _ _ _ _ _ us hl => match us, hl with | [_, _, _], _ => rfl
  have D0 : DfOk K mg ⟨"ways", f0, (PySem.W.fnOf "ways" "ways" (defArgs (top 4)) (defBody (top 4)) (defScope (top 4)) .none kV0 dc0 pm0 an0 cd0 ct0), ["web", "a", "b"], ["web", "a", "b", "found", "rest", "way", "one", "other", "weight"], top 4⟩ := ⟨F0, b0, PySem.W.mg_of X G a0, (by decide +kernel : (("ways" : Str) == ("__debug__" : Str)) = false), sc_ways⟩
  have F1 := fun_mk (st := top 5) l1 c1 k1
  have b1 := F1.binds (ps := ["web", "a", "b"]) fun _ _ _ _ _ _ us hl => match us, hl with | [_, _, _], _ => rfl
  have D1 : DfOk K mg ⟨"way_sum", f1, (PySem.W.fnOf "way_sum" "way_sum" (defArgs (top 5)) (defBody (top 5)) (defScope (top 5)) .none kV1 dc1 pm1 an1 cd1 ct1), ["web", "a", "b"], ["web", "a", "b", "sums", "one", "other", "weight", "x"], top 5⟩ := ⟨F1, b1, PySem.W.mg_of X G a1, (by decide +kernel : (("way_sum" : Str) == ("__debug__" : Str)) = false), sc_way_sum⟩
  have F2 := fun_mk (st := top 8) l2 c2 k2
  have b2 := F2.binds (ps := ["web", "starts", "goals"]) fun _ _ _ _ _ _ us hl => match us, hl with | [_, _, _], _ => rfl
  have D2 : DfOk K mg ⟨"table_of", f2, (PySem.W.fnOf "table_of" "table_of" (defArgs (top 8)) (defBody (top 8)) (defScope (top 8)) .none kV2 dc2 pm2 an2 cd2 ct2), ["web", "starts", "goals"], ["web", "starts", "goals", "a", "b"], top 8⟩ := ⟨F2, b2, PySem.W.mg_of X G a2, (by decide +kernel : (("table_of" : Str) == ("__debug__" : Str)) = false), sc_table_of⟩
  have F3 := fun_mk (st := top 9) l3 c3 k3
  have b3 := F3.binds (ps := ["rows"]) fun _ _ _ _ _ _ us hl => match us, hl with | [_], _ => rfl
  have D3 : DfOk K mg ⟨"determinant", f3, (PySem.W.fnOf "determinant" "determinant" (defArgs (top 9)) (defBody (top 9)) (defScope (top 9)) .none kV3 dc3 pm3 an3 cd3 ct3), ["rows"], ["rows", "c", "sign", "last", "spots", "r", "own", "row", "one", "other"], top 9⟩ := ⟨F3, b3, PySem.W.mg_of X G a3, (by decide +kernel : (("determinant" : Str) == ("__debug__" : Str)) = false), sc_determinant⟩
  have F4 := fun_mk (st := top 10) l4 c4 k4
  have b4 := F4.binds (ps := ["web", "starts", "goals"]) fun _ _ _ _ _ _ us hl => match us, hl with | [_, _, _], _ => rfl
  have D4 : DfOk K mg ⟨"bunches", f4, (PySem.W.fnOf "bunches" "bunches" (defArgs (top 10)) (defBody (top 10)) (defScope (top 10)) .none kV4 dc4 pm4 an4 cd4 ct4), ["web", "starts", "goals"], ["web", "starts", "goals", "table", "rows", "i", "late", "row", "a", "used", "nodes", "way", "b", "j", "goal", "node"], top 10⟩ := ⟨F4, b4, PySem.W.mg_of X G a4, (by decide +kernel : (("bunches" : Str) == ("__debug__" : Str)) = false), sc_bunches⟩
  have F5 := fun_mk (st := top 11) l5 c5 k5
  have b5 := F5.binds (ps := ["table", "k"]) fun _ _ _ _ _ _ us hl => match us, hl with | [_, _], _ => rfl
  have D5 : DfOk K mg ⟨"families_of", f5, (PySem.W.fnOf "families_of" "families_of" (defArgs (top 11)) (defBody (top 11)) (defScope (top 11)) .none kV5 dc5 pm5 an5 cd5 ct5), ["table", "k"], ["table", "k", "counts", "row", "late", "code", "many", "j"], top 11⟩ := ⟨F5, b5, PySem.W.mg_of X G a5, (by decide +kernel : (("families_of" : Str) == ("__debug__" : Str)) = false), sc_families_of⟩
  have F6 := fun_mk (st := top 12) l6 c6 k6
  have b6 := F6.binds (ps := ["web", "starts", "goals"]) fun _ _ _ _ _ _ us hl => match us, hl with | [_, _, _], _ => rfl
  have D6 : DfOk K mg ⟨"bunch_sum", f6, (PySem.W.fnOf "bunch_sum" "bunch_sum" (defArgs (top 12)) (defBody (top 12)) (defScope (top 12)) .none kV6 dc6 pm6 an6 cd6 ct6), ["web", "starts", "goals"], ["web", "starts", "goals"], top 12⟩ := ⟨F6, b6, PySem.W.mg_of X G a6, (by decide +kernel : (("bunch_sum" : Str) == ("__debug__" : Str)) = false), sc_bunch_sum⟩
  have F7 := fun_mk (st := top 16) l7 c7 k7
  have b7 := F7.binds (ps := ["many", "some"]) fun _ _ _ _ _ _ us hl => match us, hl with | [_, _], _ => rfl
  have D7 : DfOk K mg ⟨"_law_choose", f7, (PySem.W.fnOf "_law_choose" "_law_choose" (defArgs (top 16)) (defBody (top 16)) (defScope (top 16)) .none kV7 dc7 pm7 an7 cd7 ct7), ["many", "some"], ["many", "some", "found", "i"], top 16⟩ := ⟨F7, b7, PySem.W.mg_of X G a7, (by decide +kernel : (("_law_choose" : Str) == ("__debug__" : Str)) = false), sc__law_choose⟩
  have F8 := fun_mk (st := top 17) l8 c8 k8
  have b8 := F8.binds (ps := ["wide", "high"]) fun _ _ _ _ _ _ us hl => match us, hl with | [_, _], _ => rfl
  have D8 : DfOk K mg ⟨"_law_grid", f8, (PySem.W.fnOf "_law_grid" "_law_grid" (defArgs (top 17)) (defBody (top 17)) (defScope (top 17)) .none kV8 dc8 pm8 an8 cd8 ct8), ["wide", "high"], ["wide", "high", "arrows", "y", "x"], top 17⟩ := ⟨F8, b8, PySem.W.mg_of X G a8, (by decide +kernel : (("_law_grid" : Str) == ("__debug__" : Str)) = false), sc__law_grid⟩
  have F9 := fun_mk (st := top 18) l9 c9 k9
  have b9 := F9.binds (ps := ["a", "b"]) fun _ _ _ _ _ _ us hl => match us, hl with | [_, _], _ => rfl
  have D9 : DfOk K mg ⟨"_law_two", f9, (PySem.W.fnOf "_law_two" "_law_two" (defArgs (top 18)) (defBody (top 18)) (defScope (top 18)) .none kV9 dc9 pm9 an9 cd9 ct9), ["a", "b"], ["a", "b"], top 18⟩ := ⟨F9, b9, PySem.W.mg_of X G a9, (by decide +kernel : (("_law_two" : Str) == ("__debug__" : Str)) = false), sc__law_two⟩
  have F10 := fun_mk (st := top 19) l10 c10 k10
  have b10 := F10.binds (ps := ["script"]) fun _ _ _ _ _ _ us hl => match us, hl with | [_], _ => rfl
  have D10 : DfOk K mg ⟨"law", fa, (PySem.W.fnOf "law" "law" (defArgs (top 19)) (defBody (top 19)) (defScope (top 19)) .none kV10 dc10 pm10 an10 cd10 ct10), ["script"], ["script", "source", "lap", "web", "last", "wide", "high", "due", "starts", "goals", "a", "b"], top 19⟩ := ⟨F10, b10, PySem.W.mg_of X G a10, (by decide +kernel : (("law" : Str) == ("__debug__" : Str)) = false), sc_law⟩
  have F11 := fun_mk (st := top 15) l11 c11 k11
  have b11 := F11.binds (ps := ["source", "most"]) fun _ _ _ _ _ _ us hl => match us, hl with | [_, _], _ => rfl
  have D11 : DfOk K mg ⟨"_law_pick", f11, (PySem.W.fnOf "_law_pick" "_law_pick" (defArgs (top 15)) (defBody (top 15)) (defScope (top 15)) .none kV11 dc11 pm11 an11 cd11 ct11), ["source", "most"], ["source", "most", "cells", "others", "lap", "stirred"], top 15⟩ := ⟨F11, b11, PySem.W.mg_of X G a11, (by decide +kernel : (("_law_pick" : Str) == ("__debug__" : Str)) = false), scP⟩
  have F12 := fun_mk (st := top 14) l12 c12 k12
  have b12 := F12.binds (ps := ["script"]) fun _ _ _ _ _ _ us hl => match us, hl with | [_], _ => rfl
  have D12 : DfOk K mg ⟨"_law_open_cells", f12, (PySem.W.fnOf "_law_open_cells" "_law_open_cells" (defArgs (top 14)) (defBody (top 14)) (defScope (top 14)) .none kV12 dc12 pm12 an12 cd12 ct12), ["script"], ["script", "stirred", "cell", "cells"], top 14⟩ := ⟨F12, b12, PySem.W.mg_of X G a12, (by decide +kernel : (("_law_open_cells" : Str) == ("__debug__" : Str)) = false), scSrc⟩
  have m0 := PySem.W.mg_none_of X G z0
  have m1 := PySem.W.mg_none_of X G z1
  have m2 := PySem.W.mg_none_of X G z2
  have m3 := PySem.W.mg_none_of X G z3
  have m4 := PySem.W.mg_none_of X G z4
  have m5 := PySem.W.mg_none_of X G z5
  have m6 := PySem.W.mg_none_of X G z6
  have m7 := PySem.W.mg_none_of X G z7
  have m8 := PySem.W.mg_none_of X G z8
  have m9 := PySem.W.mg_none_of X G z9
  have m10 := PySem.W.mg_none_of X G z10
  have m11 := PySem.W.mg_none_of X G z11
  have m12 := PySem.W.mg_none_of X G z12
  have m13 := PySem.W.mg_none_of X G z13
  have m14 := PySem.W.mg_none_of X G z14
  have m15 := PySem.W.mg_none_of X G z15
  have m16 := PySem.W.mg_none_of X G z16
  have m17 := PySem.W.mg_none_of X G z17
  have m18 := PySem.W.mg_none_of X G z18
  refine ⟨(PySem.W.fnOf "law" "law" (defArgs (top 19)) (defBody (top 19)) (defScope (top 19)) .none kV10 dc10 pm10 an10 cd10 ct10), fun s v => .of_eq rfl, fun base _ _ => ?_⟩
  have ok : PrgOk l.prog w K mg base ⟨[⟨"ways", f0, (PySem.W.fnOf "ways" "ways" (defArgs (top 4)) (defBody (top 4)) (defScope (top 4)) .none kV0 dc0 pm0 an0 cd0 ct0), ["web", "a", "b"], ["web", "a", "b", "found", "rest", "way", "one", "other", "weight"], top 4⟩, ⟨"way_sum", f1, (PySem.W.fnOf "way_sum" "way_sum" (defArgs (top 5)) (defBody (top 5)) (defScope (top 5)) .none kV1 dc1 pm1 an1 cd1 ct1), ["web", "a", "b"], ["web", "a", "b", "sums", "one", "other", "weight", "x"], top 5⟩, ⟨"table_of", f2, (PySem.W.fnOf "table_of" "table_of" (defArgs (top 8)) (defBody (top 8)) (defScope (top 8)) .none kV2 dc2 pm2 an2 cd2 ct2), ["web", "starts", "goals"], ["web", "starts", "goals", "a", "b"], top 8⟩, ⟨"determinant", f3, (PySem.W.fnOf "determinant" "determinant" (defArgs (top 9)) (defBody (top 9)) (defScope (top 9)) .none kV3 dc3 pm3 an3 cd3 ct3), ["rows"], ["rows", "c", "sign", "last", "spots", "r", "own", "row", "one", "other"], top 9⟩, ⟨"bunches", f4, (PySem.W.fnOf "bunches" "bunches" (defArgs (top 10)) (defBody (top 10)) (defScope (top 10)) .none kV4 dc4 pm4 an4 cd4 ct4), ["web", "starts", "goals"], ["web", "starts", "goals", "table", "rows", "i", "late", "row", "a", "used", "nodes", "way", "b", "j", "goal", "node"], top 10⟩, ⟨"families_of", f5, (PySem.W.fnOf "families_of" "families_of" (defArgs (top 11)) (defBody (top 11)) (defScope (top 11)) .none kV5 dc5 pm5 an5 cd5 ct5), ["table", "k"], ["table", "k", "counts", "row", "late", "code", "many", "j"], top 11⟩, ⟨"bunch_sum", f6, (PySem.W.fnOf "bunch_sum" "bunch_sum" (defArgs (top 12)) (defBody (top 12)) (defScope (top 12)) .none kV6 dc6 pm6 an6 cd6 ct6), ["web", "starts", "goals"], ["web", "starts", "goals"], top 12⟩, ⟨"_law_choose", f7, (PySem.W.fnOf "_law_choose" "_law_choose" (defArgs (top 16)) (defBody (top 16)) (defScope (top 16)) .none kV7 dc7 pm7 an7 cd7 ct7), ["many", "some"], ["many", "some", "found", "i"], top 16⟩, ⟨"_law_grid", f8, (PySem.W.fnOf "_law_grid" "_law_grid" (defArgs (top 17)) (defBody (top 17)) (defScope (top 17)) .none kV8 dc8 pm8 an8 cd8 ct8), ["wide", "high"], ["wide", "high", "arrows", "y", "x"], top 17⟩, ⟨"_law_two", f9, (PySem.W.fnOf "_law_two" "_law_two" (defArgs (top 18)) (defBody (top 18)) (defScope (top 18)) .none kV9 dc9 pm9 an9 cd9 ct9), ["a", "b"], ["a", "b"], top 18⟩, ⟨"law", fa, (PySem.W.fnOf "law" "law" (defArgs (top 19)) (defBody (top 19)) (defScope (top 19)) .none kV10 dc10 pm10 an10 cd10 ct10), ["script"], ["script", "source", "lap", "web", "last", "wide", "high", "due", "starts", "goals", "a", "b"], top 19⟩], T, [("MOST_FAMILIES", 2000)], [⟨"_law_pick", f11, (PySem.W.fnOf "_law_pick" "_law_pick" (defArgs (top 15)) (defBody (top 15)) (defScope (top 15)) .none kV11 dc11 pm11 an11 cd11 ct11), ["source", "most"], ["source", "most", "cells", "others", "lap", "stirred"], top 15⟩], [⟨"_law_open_cells", f12, (PySem.W.fnOf "_law_open_cells" "_law_open_cells" (defArgs (top 14)) (defBody (top 14)) (defScope (top 14)) .none kV12 dc12 pm12 an12 cd12 ct12), ["script"], ["script", "stirred", "cell", "cells"], top 14⟩], fun _ => .none, fun _ => none⟩ := by
    refine ⟨fun d hd => ?_, chk_of ((Prg.chkA_stat _ _ _).trans chk_all), fun d hd => ?_, fun d hd => ?_, fun q hq => ?_, fun x hx => ?_⟩
    · simp only [List.mem_cons, List.not_mem_nil, or_false] at hd
      rcases hd with rfl | rfl | rfl | rfl | rfl | rfl | rfl | rfl | rfl | rfl | rfl
      · exact D0
      · exact D1
      · exact D2
      · exact D3
      · exact D4
      · exact D5
      · exact D6
      · exact D7
      · exact D8
      · exact D9
      · exact D10
    · simp only [List.mem_cons, List.not_mem_nil, or_false] at hd
      subst hd
      exact ⟨D11, (ok_pick F11 m0 m7).up (by decide)⟩
    · simp only [List.mem_cons, List.not_mem_nil, or_false] at hd
      subst hd
      exact ⟨D12, (ok_src F12 m6 m7).up (by decide)⟩
    · simp only [List.mem_cons, List.not_mem_nil, or_false] at hq
      rcases hq with rfl
      · exact ⟨⟨_, PySem.W.mg_of X G q0⟩, by decide +kernel⟩
    · simp only [bltNames, List.mem_cons, List.not_mem_nil, or_false] at hx
      rcases hx with rfl | rfl | rfl | rfl | rfl | rfl | rfl | rfl | rfl | rfl | rfl | rfl | rfl | rfl | rfl | rfl | rfl | rfl | rfl
      · exact m0
      · exact m1
      · exact m2
      · exact m3
      · exact m4
      · exact m5
      · exact m6
      · exact m7
      · exact m8
      · exact m9
      · exact m10
      · exact m11
      · exact m12
      · exact m13
      · exact m14
      · exact m15
      · exact m16
      · exact m17
      · exact m18
  exact all_fns ok (39 + 1) 10 _ rfl
theorem walk {l : PySem.W.OpenLaw} {q : Program} {loose : List Str} {XP : (Str → Option Value) → Heap → Prop} {YP : World → Heap → Prop} {d : DefRec} {K : Params → PySem.W.Frag} (hn : l.most = some 63) (hdf : d.params.defaults = [])
    (hY : ∀ (w : World) (h : Heap), YP w h → (K w.params).In h)
    (F : ∀ (w : World) (mg : Str → Option Value) (fa : Addr) (h : Heap), (K w.params).In h → h.Ns mainGlobals mg → mg d.name = some (.ref fa) →
      ∃ fd : FuncData, (∀ (s : Shared) (u : Value), BindsTo s fd ⟨[u], []⟩ [("script", u)]) ∧ ∀ base : Heap, (K w.params).In base → base.Ns mainGlobals mg → FnI l.prog w (K w.params) mg base (39 + 1 + 2) fa fd ["script"] (spF (K w.params) T0 10 1)) :
    PySem.W.WalkO q loose XP YP l.row.toRowW d [] (fun f vs => PySem.call f vs) :=
  walk_at (n := 63) (sp := fun w => spF (K w.params) T0 10 1) hn (by decide) hdf ⟨rfl, by decide, by decide⟩ hY F (fun _ _ _ ns hl hS => sp_startS (Nat.le_trans hl (by decide)) hS (by rw [T0F]; exact law_tru))
end Q
open PySem PySem.W PyProof.Rows
set_option maxRecDepth 100000 in
set_option maxHeartbeats 0 in
theorem PySem.Challenge.cw_piledtables_k46_whole_known_webs_of_ways_holds : PySem.Challenge.rw_piledtables_k46_whole_known_webs_of_ways.Holds := by
  w_on; o_law; k_head; (case hw => w_witness2)
  k_fill
  refine Q.walk (l := PySem.Challenge.rw_piledtables_k46_whole_known_webs_of_ways) rfl rfl (fun w h Y => PySem.W.kIn_of Y) ?F
  case F =>
    intro w mg fa h KX G hmg
    refine' Q.all_mk KX G hmg ?a0 ?l0 ?c0 ?k0 ?a1 ?l1 ?c1 ?k1 ?a2 ?l2 ?c2 ?k2 ?a3 ?l3 ?c3 ?k3 ?a4 ?l4 ?c4 ?k4 ?a5 ?l5 ?c5 ?k5 ?a6 ?l6 ?c6 ?k6 ?a7 ?l7 ?c7 ?k7 ?a8 ?l8 ?c8 ?k8 ?a9 ?l9 ?c9 ?k9 ?a10 ?l10 ?c10 ?k10 ?a11 ?l11 ?c11 ?k11 ?a12 ?l12 ?c12 ?k12 ?q0 ?z0 ?z1 ?z2 ?z3 ?z4 ?z5 ?z6 ?z7 ?z8 ?z9 ?z10 ?z11 ?z12 ?z13 ?z14 ?z15 ?z16 ?z17 ?z18
    (case a0 => k_is); (case l0 => k_is); (case c0 => k_is); (case k0 => k_is)
    (case a1 => k_is); (case l1 => k_is); (case c1 => k_is); (case k1 => k_is)
    (case a2 => k_is); (case l2 => k_is); (case c2 => k_is); (case k2 => k_is)
    (case a3 => k_is); (case l3 => k_is); (case c3 => k_is); (case k3 => k_is)
    (case a4 => k_is); (case l4 => k_is); (case c4 => k_is); (case k4 => k_is)
    (case a5 => k_is); (case l5 => k_is); (case c5 => k_is); (case k5 => k_is)
    (case a6 => k_is); (case l6 => k_is); (case c6 => k_is); (case k6 => k_is)
    (case a7 => k_is); (case l7 => k_is); (case c7 => k_is); (case k7 => k_is)
    (case a8 => k_is); (case l8 => k_is); (case c8 => k_is); (case k8 => k_is)
    (case a9 => k_is); (case l9 => k_is); (case c9 => k_is); (case k9 => k_is)
    (case a10 => k_is); (case l10 => k_is); (case c10 => k_is); (case k10 => k_is)
    (case a11 => k_is); (case l11 => k_is); (case c11 => k_is); (case k11 => k_is)
    (case a12 => k_is); (case l12 => k_is); (case c12 => k_is); (case k12 => k_is)
    (case q0 => k_is)
    (case z0 => k_is)
    (case z1 => k_is)
    (case z2 => k_is)
    (case z3 => k_is)
    (case z4 => k_is)
    (case z5 => k_is)
    (case z6 => k_is)
    (case z7 => k_is)
    (case z8 => k_is)
    (case z9 => k_is)
    (case z10 => k_is)
    (case z11 => k_is)
    (case z12 => k_is)
    (case z13 => k_is)
    (case z14 => k_is)
    (case z15 => k_is)
    (case z16 => k_is)
    (case z17 => k_is)
    (case z18 => k_is)
end
