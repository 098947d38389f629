import PyProof.Rows.All
import Wide.All
import OpenK.AllK
import Wide.FinOn
import PySem.Challenge.RW_tentloops_k16_least_forms
import HandS.ForMost
import HandS.ForExc
import HandS.TryMany
import HandS.Wide
import HandS.SortInts
import HandS.IsInst
import HandS.FStr
import HandS.More
import HandS.Conv
import KE.LtSeq
import KE.KDictOf
import KE.DataMinMax
import KE.SortData
import KE.KxIndex
import KE.OsSort
import HandS.Rev
import HandS.NoneIn
import HandS.Small
import HandS.RevRange
import HandS.WordsExc
set_option Elab.async false
set_option maxRecDepth 100000
set_option linter.all false
namespace TL
open PySem PySem.Spec PyProof.Rows L2

/-- who holds an object: it is shared and stays; it is ours; it is the script -/
inductive W | fz | own | scr
  deriving DecidableEq

/-- data trees -/
inductive D where
  | und | non | bl (b : Bool) | int (i : Int) | str (x : Str)
  | lst (w : W) (xs : List D)
  | tup (xs : List D)
  | dct (w : W) (kvs : List (Key × D))
  | dtt (w : W) (kvs : List (List Key × D))
  | obj (w : W) (c : Nat) (fs : List (Nat × D))
  /-- our own dict of lists that are ours, our own object with own lists and dicts in its fields -/
  | dls (kvs : List (Key × List D)) | obn (c : Nat) (fs : List (Nat × D))
  deriving Inhabited

inductive ER where
  | ok (ρ : List D) (d : D) | exn (c : Nat) (ρ : List D) | stuck
inductive EsR where
  | ok (ρ : List D) (ds : List D) | exn (c : Nat) (ρ : List D) | stuck
inductive FR where
  | ok (ms : List D) (r : D) | exn (c : Nat) (ms : List D) | stuck
inductive Out where
  | nx (ρ : List D) | rt (ρ : List D) (d : D) | bk (ρ : List D) | ct (ρ : List D) | exn (c : Nat) (ρ : List D) | stuck

/-- what the program's names mean -/
structure Tbl where
  F : Nat → List D → FR
  mc : Nat → Nat
  muts : Nat → List Nat
  con : Nat → D
  sub : Nat → Nat → Bool
  kx : Nat → Bool

inductive Op where
  | add | sub | mul | fdiv | mod | pow | neg
  | eq | ne | lt | le | gt | ge | inn | nin | isN | notN | not
  | len | list | tuple | dict | sorted | sum | max1 | min1 | max2 | min2 | max1d | abs | str | intb | setlen
  | isI | isB | isL | isT | isD | isS
  | idx | get | getL | sl | sl0 | slE | slA | rangeL | split | startsw | join | count | isTr
  deriving DecidableEq

/-- targets of a loop -/
inductive Tg where | one (i : Nat) | tup (is : List Nat)

inductive IE where
  | var (i : Nat) | lit (d : D) | con (n : Nat)
  | op (o : Op) (es : List IE)
  | and (a b : IE) | or (a b : IE) | ite (t a b : IE)
  | tup (es : List IE) | lst (es : List IE) | dct (es : List IE) | dcT | dcL
  | fld (c : Nat) (e : IE) (f : Nat)
  | call (f : Nat) (es : List IE) | callM (f i : Nat) (es : List IE) | meth (f : Nat) (e : IE) (es : List IE) | make (c f : Nat) (es : List IE)
  | cRng (elt : IE) (i : Nat) (es : List IE) (ifs : List IE)
  | cSeq (elt : IE) (g : Tg) (e : IE) (ifs : List IE) | cRev (elt : IE) (g : Tg) (e : IE) (ifs : List IE)
  | fstr (es : List IE)
  | pop (i : Nat) (es : List IE)

inductive IS where
  | set (i : Nat) (e : IE) | setT (is : List Nat) (e : IE) | par (i j : Nat) (a b : IE)
  | setIx (i : Nat) (k e : IE) | augIx (i : Nat) (k : IE) (b : Bool) (e : IE) | aug (i : Nat) (e : IE)
  | setF (i c f : Nat) (e : IE)
  | setIxL (i j : Nat) | pushIx (i j l : Nat)
  | push (i : Nat) (e : IE) | ins (i : Nat) (k e : IE) | clr (i : Nat)
  | expr (e : IE)
  | ife (t : IE) (a b : List IS) | whl (n : Nat) (t : IE) (b : List IS)
  | forR (i : Nat) (es : List IE) (b : List IS) | forV (i : Nat) (es : List IE) (b : List IS)
  | forE (g : Tg) (e : IE) (b : List IS) | forB (g : Tg) (e : IE) (b : List IS)
  | ret (e : IE) | retM (i : Nat) | retN
  | raise (c : Nat)
  | tr (b : List IS) (hs : List (Nat × Nat × IE))
  | pass | brk | cnt | wall

structure Fn where
  np : Nat
  ns : Nat
  muts : List Nat
  body : List IS

/-! ### what the operators give -/
mutual
/-- from now on shared -/
def frz : D → D
  | .lst .scr xs => .lst .scr xs
  | .lst _ xs => .lst .fz xs
  | .dct _ kvs => .dct .fz kvs
  | .dtt _ kvs => .dtt .fz kvs
  | .obj _ c fs => .obj .fz c (frzF fs)
  | .dls kvs => .dct .fz (kvs.map fun p => (p.1, .lst .fz p.2))
  | .obn c fs => .obj .fz c (frzF fs)
  | d => d
def frzF : List (Nat × D) → List (Nat × D)
  | [] => []
  | (n, d) :: r => (n, frz d) :: frzF r
end
def isLck : D → Bool
  | .und => true
  | _ => false
def isOwn1 : D → Bool
  | .lst .own _ => true | .dct .own _ => true | .dtt .own _ => true | .obj .own _ _ => true
  | _ => false
def isOwn : D → Bool
  | .lst .own _ => true | .dct .own _ => true | .dtt .own _ => true | .obj .own _ _ => true
  | .dls _ => true | .obn _ _ => true
  | _ => false

def dget {κ : Type} [DecidableEq κ] : List (κ × D) → κ → Option D
  | [], _ => none
  | (k', d) :: r, k => if k' = k then some d else dget r k
def dput {κ : Type} [DecidableEq κ] (kvs : List (κ × D)) (k : κ) (d : D) : List (κ × D) :=
  if (dget kvs k).isSome = true then kvs.map (fun p => if p.1 = k then (p.1, d) else p) else kvs ++ [(k, d)]

def lset {κ β : Type} [DecidableEq κ] (q : κ) (b : β) : List (κ × β) → List (κ × β)
  | [] => []
  | (k, x) :: r => if k = q then (k, b) :: r else (k, x) :: lset q b r
def lget {κ β : Type} [DecidableEq κ] (q : κ) : List (κ × β) → Option β
  | [] => none
  | (k, x) :: r => if k = q then some x else lget q r
def keyOf : D → Option Key
  | .int i => some (.inl i)
  | .str x => some (.inr x)
  | _ => none
def keysOf : List D → Option (List Key)
  | [] => some []
  | d :: r => match keyOf d, keysOf r with
    | some k, some ks => some (k :: ks)
    | _, _ => none

mutual
def toPy : D → Option PyData
  | .non => some .none
  | .bl b => some (.bool b)
  | .int i => some (.int i)
  | .str x => some (.str x)
  | .lst _ xs => match toPys xs with | some ys => some (.list ys) | none => none
  | .tup xs => match toPys xs with | some ys => some (.tuple ys) | none => none
  | _ => none
def toPys : List D → Option (List PyData)
  | [] => some []
  | d :: r => match toPy d, toPys r with
    | some y, some ys => some (y :: ys)
    | _, _ => none
end
/-- scalars that == tells apart as data does -/
def eqS : D → D → Option Bool
  | .non, .non => some true | .non, .int _ => some false | .int _, .non => some false | .non, .bl _ => some false | .bl _, .non => some false
  | .non, .str _ => some false | .str _, .non => some false
  | .int i, .int j => some (decide (i = j)) | .bl i, .bl j => some (decide (i = j)) | .str i, .str j => some (decide (i = j))
  | .int _, .str _ => some false | .str _, .int _ => some false | .bl _, .str _ => some false | .str _, .bl _ => some false
  | _, _ => none
def eqD (a b : D) : Option Bool :=
  match eqS a b with
  | some r => some r
  | none => match toPy a, toPy b with
    | some x, some y => if SeqAt.shaped x && SeqAt.shaped y then some (PyData.eqv x y) else none
    | _, _ => none

def mulOk (i j : Int) : Bool := decide (i.natAbs.log2 + j.natAbs.log2 < 1000000)
def divOk (j : Int) : Bool := decide (0 < j ∧ j.natAbs.log2 < 9000)
def powOk (i j : Int) : Bool := decide (0 ≤ j ∧ j ≤ 1000000 ∧ i.natAbs < 2 ^ 64)
def lenOk (n : Nat) : Bool := decide (n ≤ 1000000)

def intsD : List D → Option (List Int)
  | [] => some []
  | .int i :: r => match intsD r with | some ns => some (i :: ns) | none => none
  | _ :: _ => none
def strsD : List D → Option (List Str)
  | [] => some []
  | .str i :: r => match strsD r with | some ns => some (i :: ns) | none => none
  | _ :: _ => none
def flats : List D → Bool
  | [] => true
  | .int _ :: r => flats r
  | .str _ :: r => flats r
  | _ :: _ => false
def flat1 : D → Bool
  | .int _ => true | .str _ => true | _ => false
def inFlat (x : D) : List D → Option Bool
  | [] => some false
  | y :: r => match eqS y x, inFlat x r with
    | some a, some b => some (a || b)
    | _, _ => none
def sortI (ns : List Int) : List Int := ns.mergeSort (fun a b => decide (a ≤ b))
def maxI : List Int → Int
  | [] => 0
  | [a] => a
  | a :: r => max a (maxI r)
def minI : List Int → Int
  | [] => 0
  | [a] => a
  | a :: r => min a (minI r)
def ltL : List Int → List Int → Bool
  | [], [] => false
  | [], _ :: _ => true
  | _ :: _, [] => false
  | a :: r, b :: s => if a = b then ltL r s else decide (a < b)
def minL (n : List Int) (l : List (List Int)) : List Int := l.foldl (fun a y => if ltL y a = true then y else a) n
/-- shared rows of numbers -/
def rowsD : List D → Option (List (List Int))
  | [] => some []
  | .lst .fz ys :: r => match intsD ys, rowsD r with
    | some n, some l => some (n :: l)
    | _, _ => none
  | _ :: _ => none
def rowV (n : List Int) : D := .lst .fz (n.map .int)
def rangeD (lo : Int) (n : Nat) : List D := (List.range n).map fun (i : Nat) => .int (lo + (i : Int))
def rng : List D → Option (Int × Nat)
  | [.int j] => if -(2 ^ 62) ≤ j ∧ j < 2 ^ 62 then some (0, j.toNat) else none
  | [.int i, .int j] => if -(2 ^ 62) ≤ i ∧ i < 2 ^ 62 ∧ -(2 ^ 62) ≤ j ∧ j < 2 ^ 62 then some (i, (j - i).toNat) else none
  | _ => none
def cutD (xs : List D) (lo hi : Option Int) : List D :=
  (xs.drop (HT.sIx xs.length 0 lo)).take (HT.sIx xs.length xs.length hi - HT.sIx xs.length 0 lo)
def repD (n : Nat) (xs : List D) : List D := (List.replicate n xs).flatten
def fput (f : Nat) (d : D) : List (Nat × D) → List (Nat × D)
  | [] => [(f, d)]
  | (g, x) :: r => if g = f then (g, d) :: r else (g, x) :: fput f d r
def keyInts : List (Key × D) → Option (List Int)
  | [] => some []
  | (.inl i, _) :: r => match keyInts r with | some ns => some (i :: ns) | none => none
  | _ :: _ => none

def ap_add : List D → Option D
  | [.int i, .int j] => some (.int (i + j))
  | [.str i, .str j] => if lenOk (i.length + j.length) then some (.str (i ++ j)) else none
  | [.lst w xs, .lst u ys] => if decide (w ≠ .scr) && decide (u ≠ .scr) && lenOk (xs.length + ys.length) then some (.lst .own (xs ++ ys)) else none
  | _ => none
def ap_sub : List D → Option D
  | [.int i, .int j] => some (.int (i - j))
  | _ => none
def ap_mul : List D → Option D
  | [.int i, .int j] => if mulOk i j then some (.int (i * j)) else none
  | [.str z, .int k] => if decide (z.length ≤ 16) && decide (0 ≤ k) && decide (k ≤ 1000000) then some (.str (Txt.mul z k)) else none
  | [.lst w xs, .int k] => if decide (w ≠ .scr) && decide (-(2 ^ 62) ≤ k) && lenOk (xs.length * k.toNat) && decide (k < 2 ^ 62) then some (.lst .own (repD k.toNat xs)) else none
  | _ => none
def ap_fdiv : List D → Option D
  | [.int i, .int j] => if divOk j then some (.int (i / j)) else none
  | _ => none
def ap_mod : List D → Option D
  | [.int i, .int j] => if 0 < j then some (.int (i % j)) else none
  | _ => none
def ap_pow : List D → Option D
  | [.int i, .int j] => if powOk i j then some (.int (i ^ j.toNat)) else none
  | _ => none
def ap_neg : List D → Option D
  | [.int i] => some (.int (-i))
  | _ => none
def ap_eq : List D → Option D
  | [a, b] => match eqD a b with | some r => some (.bl r) | none => none
  | _ => none
def ap_ne : List D → Option D
  | [a, b] => match eqD a b with | some r => some (.bl (!r)) | none => none
  | _ => none
def ap_lt : List D → Option D
  | [.int i, .int j] => some (.bl (decide (i < j)))
  | [.lst _ xs, .lst _ ys] => match intsD xs, intsD ys with | some a, some b => some (.bl (ltL a b)) | _, _ => none
  | _ => none
def ap_le : List D → Option D
  | [.int i, .int j] => some (.bl (decide (i ≤ j)))
  | _ => none
def ap_gt : List D → Option D
  | [.int i, .int j] => some (.bl (decide (j < i)))
  | _ => none
def ap_ge : List D → Option D
  | [.int i, .int j] => some (.bl (decide (j ≤ i)))
  | _ => none
def ap_inn : List D → Option D
  | [x, .lst _ ys] => if !flat1 x then none else match inFlat x ys with | some r => some (.bl r) | none => none
  | [x, .dct _ kvs] => match keyOf x with | some k => some (.bl (dget kvs k).isSome) | none => none
  | [x, .dls kvs] => match keyOf x with | some k => some (.bl ((lget k kvs).isSome)) | none => none
  | [x, .tup ys] => if !flat1 x then none else match inFlat x ys with | some r => some (.bl (r)) | none => none
  | [.tup xs, .dtt _ kvs] => match keysOf xs with | some k => some (.bl (dget kvs k).isSome) | none => none
  | _ => none
def ap_nin : List D → Option D
  | [x, .lst _ ys] => if !flat1 x then none else match inFlat x ys with | some r => some (.bl (!r)) | none => none
  | [x, .dct _ kvs] => match keyOf x with | some k => some (.bl (!(dget kvs k).isSome)) | none => none
  | [x, .dls kvs] => match keyOf x with | some k => some (.bl (!(lget k kvs).isSome)) | none => none
  | [x, .tup ys] => if !flat1 x then none else match inFlat x ys with | some r => some (.bl (!r)) | none => none
  | [.tup xs, .dtt _ kvs] => match keysOf xs with | some k => some (.bl (!(dget kvs k).isSome)) | none => none
  | _ => none
def ap_isN : List D → Option D
  | [a] => match a with | .und => none | .non => some (.bl true) | _ => some (.bl false)
  | _ => none
def ap_notN : List D → Option D
  | [a] => match a with | .und => none | .non => some (.bl false) | _ => some (.bl true)
  | _ => none
def ap_not : List D → Option D
  | [.bl b] => some (.bl (!b))
  | _ => none
def ap_len : List D → Option D
  | [.dct _ kvs] => some (.int kvs.length)
  | [.lst _ xs] => some (.int xs.length)
  | [.tup xs] => some (.int xs.length)
  | _ => none
def ap_list : List D → Option D
  | [.lst _ xs] => some (.lst .own xs)
  | [.tup xs] => some (.lst .own xs)
  | _ => none
def ap_dict : List D → Option D
  | [.dct _ kvs] => if lenOk kvs.length then some (.dct .own kvs) else none
  | _ => none
def ap_getL : List D → Option D
  | [.dct _ kvs, x] => match keyOf x with | some k => some ((dget kvs k).getD (.lst .fz [])) | none => none
  | _ => none
def ap_slA : List D → Option D
  | [.lst _ xs] => some (.lst .own xs)
  | _ => none
def ap_isTr : List D → Option D
  | [.bl b] => some (.bl b)
  | _ => none
def joinS (s : Str) : List Str → Str
  | xs => Txt.join s xs
def ap_join : List D → Option D
  | [.str s, .lst _ xs] => match strsD xs with | some zs => if decide ((zs.map (·.length)).sum + s.length * zs.length ≤ 1000000) then some (.str (Txt.join s zs)) else none | none => none
  | _ => none
def ap_tuple : List D → Option D
  | [.lst _ xs] => some (.tup xs)
  | [.tup xs] => some (.tup xs)
  | _ => none
def ap_sorted : List D → Option D
  | [.lst _ xs] => match intsD xs with | some ns => some (.lst .own ((sortI ns).map .int)) | none => match rowsD xs with | some l => some (.lst .own ((l.mergeSort (fun x y => !ltL y x)).map rowV)) | none => none
  | [.dct _ kvs] => match keyInts kvs with | some ns => if ns.length < 64 then some (.lst .own ((sortI ns).map .int)) else none | none => none
  | _ => none
def ap_sum : List D → Option D
  | [.lst _ xs] => match intsD xs with | some ns => some (.int ns.sum) | none => none
  | _ => none
def ap_max1 : List D → Option D
  | [.lst _ xs] => match intsD xs with | some (n :: ns) => some (.int (maxI (n :: ns))) | _ => none
  | _ => none
def ap_min1 : List D → Option D
  | [.lst _ xs] => match intsD xs with | some (n :: ns) => some (.int (minI (n :: ns))) | _ => match rowsD xs with | some (n :: l) => some (rowV (minL n l)) | _ => none
  | _ => none
def ap_max2 : List D → Option D
  | [.int i, .int j] => some (.int (max i j))
  | _ => none
def ap_min2 : List D → Option D
  | [.int i, .int j] => some (.int (min i j))
  | _ => none
def ap_abs : List D → Option D
  | [.int i] => some (.int (if i < 0 then -i else i))
  | _ => none
def ap_intb : List D → Option D
  | [.bl b] => some (.int (if b then 1 else 0))
  | _ => none
def ap_isI : List D → Option D
  | [a] => match a with | .int _ => some (.bl true) | .bl _ => some (.bl true) | .non => some (.bl false) | .str _ => some (.bl false) | .lst _ _ => some (.bl false) | .tup _ => some (.bl false) | .dct _ _ => some (.bl false) | _ => none
  | _ => none
def ap_isB : List D → Option D
  | [a] => match a with | .bl _ => some (.bl true) | .int _ => some (.bl false) | .non => some (.bl false) | .str _ => some (.bl false) | .lst _ _ => some (.bl false) | .tup _ => some (.bl false) | .dct _ _ => some (.bl false) | _ => none
  | _ => none
def ap_isL : List D → Option D
  | [a] => match a with | .lst _ _ => some (.bl true) | .bl _ => some (.bl false) | .int _ => some (.bl false) | .non => some (.bl false) | .str _ => some (.bl false) | .tup _ => some (.bl false) | .dct _ _ => some (.bl false) | _ => none
  | _ => none
def ap_isT : List D → Option D
  | [a] => match a with | .tup _ => some (.bl true) | .lst _ _ => some (.bl false) | .bl _ => some (.bl false) | .int _ => some (.bl false) | .non => some (.bl false) | .str _ => some (.bl false) | .dct _ _ => some (.bl false) | _ => none
  | _ => none
def ap_isD : List D → Option D
  | [a] => match a with | .dct _ _ => some (.bl true) | .tup _ => some (.bl false) | .lst _ _ => some (.bl false) | .bl _ => some (.bl false) | .int _ => some (.bl false) | .non => some (.bl false) | .str _ => some (.bl false) | _ => none
  | _ => none
def ap_isS : List D → Option D
  | [a] => match a with | .str _ => some (.bl true) | .dct _ _ => some (.bl false) | .tup _ => some (.bl false) | .lst _ _ => some (.bl false) | .bl _ => some (.bl false) | .int _ => some (.bl false) | .non => some (.bl false) | _ => none
  | _ => none
def ap_idx : List D → Option D
  | [.lst _ xs, .int i] => atI xs i
  | [.tup xs, .int i] => atI xs i
  | [.str z, .int i] => if lenOk z.length then (match atI z.cps.toList i with | some c => some (.str ⟨#[c]⟩) | none => none) else none
  | [.dct _ kvs, x] => match keyOf x with | some k => dget kvs k | none => none
  | [.dtt _ kvs, .tup xs] => match keysOf xs with | some k => dget kvs k | none => none
  | _ => none
def ap_get : List D → Option D
  | [.dct _ kvs, x, z] => match keyOf x with | some k => if isOwn z then none else some ((dget kvs k).getD z) | none => none
  | _ => none
def ap_sl : List D → Option D
  | [.lst _ xs, .int i, .int j] => some (.lst .own (cutD xs (some i) (some j)))
  | _ => none
def ap_sl0 : List D → Option D
  | [.lst _ xs, .int j] => some (.lst .own (cutD xs none (some j)))
  | _ => none
def ap_slE : List D → Option D
  | [.lst _ xs, .int i] => some (.lst .own (cutD xs (some i) none))
  | _ => none
def ap_rangeL : List D → Option D
  | es => match rng es with | some (lo, n) => if lenOk n then some (.lst .own (rangeD lo n)) else none | none => none
def ap : Op → List D → Option D
  | .add => ap_add
  | .sub => ap_sub
  | .mul => ap_mul
  | .fdiv => ap_fdiv
  | .mod => ap_mod
  | .pow => ap_pow
  | .neg => ap_neg
  | .eq => ap_eq
  | .ne => ap_ne
  | .lt => ap_lt
  | .le => ap_le
  | .gt => ap_gt
  | .ge => ap_ge
  | .inn => ap_inn
  | .nin => ap_nin
  | .isN => ap_isN
  | .notN => ap_notN
  | .not => ap_not
  | .len => ap_len
  | .list => ap_list
  | .tuple => ap_tuple
  | .sorted => ap_sorted
  | .sum => ap_sum
  | .max1 => ap_max1
  | .min1 => ap_min1
  | .max2 => ap_max2
  | .min2 => ap_min2
  | .abs => ap_abs
  | .intb => ap_intb
  | .isI => ap_isI
  | .isB => ap_isB
  | .isL => ap_isL
  | .isT => ap_isT
  | .isD => ap_isD
  | .isS => ap_isS
  | .idx => ap_idx
  | .get => ap_get
  | .sl => ap_sl
  | .sl0 => ap_sl0
  | .slE => ap_slE
  | .rangeL => ap_rangeL
  | .dict => ap_dict
  | .getL => ap_getL
  | .slA => ap_slA
  | .isTr => ap_isTr
  | .join => ap_join
  | _ => fun _ => none

/-! ### the interpreter -/
/-- nothing in it that may be changed but its root -/
def safe1 : D → Bool
  | .non => true | .bl _ => true | .int _ => true | .str _ => true
  | .tup xs => safes xs
  | _ => false
where safes : List D → Bool
  | [] => true
  | d :: r => safe1 d && safes r
def safe : D → Bool
  | .lst .own xs => xs.all safe1
  | .dct .own kvs => kvs.all fun p => safe1 p.2
  | .dtt .own kvs => kvs.all fun p => safe1 p.2
  | d => safe1 d

/-- the names among the arguments, given up -/
def give : List IE → List D → List D
  | [], ρ => ρ
  | .var i :: es, ρ => give es (match ρ[i]? with
    | some d => if isOwn d then ρ.set i (frz d) else ρ
    | none => ρ)
  | _ :: es, ρ => give es ρ
/-- behind a call: kept ours where the answer can't bear them -/
def settle (r : D) (es : List IE) (ρ : List D) : List D := if safe r then ρ else give es ρ
/-- the arguments' values at the call -/
def lent : List IE → List D → List D → List D
  | .var i :: es, _ :: ds, ρ => frz (ρ.getD i .und) :: lent es ds ρ
  | _ :: es, d :: ds, ρ => d :: lent es ds ρ
  | _, _, _ => []

def storeT : List Nat → List D → List D → Option (List D)
  | [], [], ρ => some ρ
  | i :: is, d :: ds, ρ => storeT is ds (ρ.set i d)
  | _, _, _ => none
def store1 (g : Tg) (d : D) (ρ : List D) : Option (List D) :=
  match g with
  | .one i => some (ρ.set i d)
  | .tup is => match d with
    | .tup ds => storeT is ds ρ
    | _ => none
/-- names that take a tuple's items, or a list's -/
def storeU (is : List Nat) (d : D) (ρ : List D) : Option (List D) :=
  match d with
  | .tup ds => storeT is ds ρ
  | .lst .fz ds => storeT is ds ρ
  | _ => none

/-- the items a loop takes -/
def items : D → Option (List D)
  | .lst .fz xs => some xs
  | .lst .scr xs => some xs
  | .tup xs => some xs
  | _ => none
def keyD : Key → D
  | .inl i => .int i
  | .inr x => .str x
/-- .. of a text its signs; of a dict its keys, where it has a name -/
def isPath : IE → Bool
  | .var _ => true
  | .fld _ (.var _) _ => true
  | _ => false
def items2 (ie : IE) : D → Option (List D)
  | .dct .fz kvs => if isPath ie then some (kvs.map fun p => keyD p.1) else none
  | .str z => some (z.cps.toList.map fun c => .str ⟨#[c]⟩)
  | d => items d
/-- behind its end -/
def itemsR : D → Option (List D)
  | .lst .fz xs => some xs.reverse
  | .lst .scr xs => some xs.reverse
  | _ => none

def forL (g : Tg) (f : List D → Out) : List D → List D → Out
  | [], ρ => .nx ρ
  | x :: xs, ρ => match store1 g x ρ with
    | none => .stuck
    | some ρ1 => match f ρ1 with
      | .nx ρ2 => forL g f xs ρ2
      | .ct ρ2 => forL g f xs ρ2
      | .bk ρ2 => .nx ρ2
      | o => o
def whileL (c : List D → ER) (f : List D → Out) : Nat → List D → Out
  | 0, _ => .stuck
  | n + 1, ρ => match c ρ with
    | .ok ρ1 (.bl true) => match f ρ1 with
      | .nx ρ2 => whileL c f n ρ2
      | .ct ρ2 => whileL c f n ρ2
      | .bk ρ2 => .nx ρ2
      | o => o
    | .ok ρ1 (.bl false) => .nx ρ1
    | .exn x ρ1 => .exn x ρ1
    | _ => .stuck
def slotsOf : Tg → List Nat
  | .one i => [i]
  | .tup is => is
def plainSlots : List Nat → List D → Bool
  | [], _ => true
  | i :: is, ρ => (match ρ[i]? with | some d => !isOwn d | none => false) && plainSlots is ρ
def wipeD (ρ : List D) : List Nat → List D
  | [] => ρ
  | i :: is => (wipeD ρ is).set i .und
def backD (old ρ : List D) : List Nat → List D
  | [] => ρ
  | i :: is => (backD old ρ is).set i (old.getD i .und)

def compL (g : Tg) (c : List D → ER) (f : List D → ER) : List D → List D → List D → EsR
  | [], ρ, acc => .ok ρ acc
  | x :: xs, ρ, acc => match store1 g x (wipeD ρ (slotsOf g)) with
    | none => .stuck
    | some ρ1 => match c ρ1 with
      | .ok ρ2 (.bl true) => match f ρ2 with
        | .ok ρ3 d => if isLck d then .stuck else compL g c f xs ρ3 (acc ++ [frz d])
        | _ => .stuck
      | .ok ρ2 (.bl false) => compL g c f xs ρ2 acc
      | _ => .stuck

def isVar : IE → Option Nat
  | .var i => some i
  | _ => none

/-- the operands' values at the end -/
def lentB : List IE → List D → List D → List D
  | .var i :: es, _ :: ds, ρ => ρ.getD i .und :: lentB es ds ρ
  | _ :: es, d :: ds, ρ => d :: lentB es ds ρ
  | _, _, _ => []
def isObj (c : Nat) : D → Bool
  | .obj _ c' _ => c' == c | _ => false
/-- the call itself -/
def called (T : Tbl) (f : Nat) (vs : List D) (es : List IE) (ρ1 : List D) : ER :=
  if vs.any isLck then .stuck else match T.F f vs with
    | .ok _ r => .ok (settle r es ρ1) r
    | .exn c _ => .exn c ρ1
    | .stuck => .stuck
/-- a call that changes the thing at slot i, its last argument -/
def calledM (T : Tbl) (f i : Nat) (vs : List D) (d : D) (ρ1 : List D) : ER :=
  if vs.any isLck || isLck d || decide (T.muts f ≠ [vs.length]) then .stuck else match T.F f (vs ++ [d]) with
    | .ok [m] r => .ok (ρ1.set i m) r
    | .exn c [m] => .exn c (ρ1.set i m)
    | _ => .stuck
def pairsOf : List D → Option (List (Key × D))
  | [] => some []
  | k :: v :: r => match keyOf k, pairsOf r with
    | some q, some kvs => some ((q, v) :: kvs)
    | _, _ => none
  | _ => none
def isIntD : D → Bool
  | .int _ => true | _ => false
def isDct : D → Bool
  | .dct _ _ => true | _ => false
def isOwnL : D → Bool
  | .lst .own _ => true | _ => false
def isStrD : D → Bool
  | .str _ => true | _ => false
/-- a method's receiver that is a name: its kind ahead of the arguments -/
def preOk : Op → List IE → List D → Bool
  | .get, .var i :: _, ρ => isDct (ρ.getD i .und)
  | .get, _, _ => false
  | .getL, .var i :: _, ρ => isDct (ρ.getD i .und)
  | .getL, _, _ => false
  | .join, .var i :: _, ρ => isStrD (ρ.getD i .und)
  | .join, .lit (.str _) :: _, _ => true
  | .join, _, _ => false
  | .split, .var i :: _, ρ => isStrD (ρ.getD i .und)
  | .split, _, _ => false
  | .startsw, .var i :: _, ρ => isStrD (ρ.getD i .und)
  | .startsw, _, _ => false
  | .sl, [.var _, .var i, .var _], ρ => isIntD (ρ.getD i .und)
  | .sl, _, _ => false
  | _, _, _ => true
mutual
/-- an expression's value; a name's own object is shared from then on -/
def evE (T : Tbl) : IE → List D → ER
  | .var i, ρ => match ρ[i]? with
    | some d => if isLck d then .stuck else if isOwn d then .ok (ρ.set i (frz d)) (frz d) else .ok ρ d
    | none => .stuck
  | .lit d, ρ => .ok ρ d
  | .con n, ρ => .ok ρ (T.con n)
  | .op o es, ρ => if preOk o es ρ = false then .stuck else match evB T es ρ with
    | .ok ρ1 ds => if (lentB es ds ρ1).any isLck then .stuck else match ap o (lentB es ds ρ1) with
      | some d => .ok ρ1 d
      | none => .stuck
    | .exn c ρ1 => .exn c ρ1
    | .stuck => .stuck
  | .and a b, ρ => match evE T a ρ with
    | .ok ρ1 (.bl true) => evE T b ρ1
    | .ok ρ1 (.bl false) => .ok ρ1 (.bl false)
    | .exn c ρ1 => .exn c ρ1
    | _ => .stuck
  | .or a b, ρ => match evE T a ρ with
    | .ok ρ1 (.bl true) => .ok ρ1 (.bl true)
    | .ok ρ1 (.bl false) => evE T b ρ1
    | .exn c ρ1 => .exn c ρ1
    | _ => .stuck
  | .ite t a b, ρ => match evE T t ρ with
    | .ok ρ1 (.bl true) => evE T a ρ1
    | .ok ρ1 (.bl false) => evE T b ρ1
    | .exn c ρ1 => .exn c ρ1
    | _ => .stuck
  | .tup es, ρ => match evEs T es ρ with
    | .ok ρ1 ds => .ok ρ1 (.tup ds)
    | .exn c ρ1 => .exn c ρ1
    | .stuck => .stuck
  | .lst es, ρ => match evEs T es ρ with
    | .ok ρ1 ds => .ok ρ1 (.lst .own ds)
    | .exn c ρ1 => .exn c ρ1
    | .stuck => .stuck
  | .dct es, ρ => match evEs T es ρ with
    | .ok ρ1 ds => match pairsOf ds with
      | some kvs => .ok ρ1 (.dct .own (kvs.foldl (fun a p => dput a p.1 p.2) []))
      | none => .stuck
    | .exn c ρ1 => .exn c ρ1
    | .stuck => .stuck
  | .dcT, ρ => .ok ρ (.dtt .own [])
  | .dcL, ρ => .ok ρ (.dls [])
  | .fld c (.var i) f, ρ => match ρ[i]? with
    | some (.obj _ c' fs) => if c' = c then (match fs.lookup f with
      | some d => if isOwn d || isLck d then .stuck else .ok ρ d
      | none => .stuck) else .stuck
    | _ => .stuck
  | .fld c e f, ρ => match evE T e ρ with
    | .ok ρ1 (.obj .fz c' fs) => if c' = c then (match fs.lookup f with
      | some d => if isOwn d || isLck d then .stuck else .ok ρ1 d
      | none => .stuck) else .stuck
    | .exn c ρ1 => .exn c ρ1
    | _ => .stuck
  | .call f es, ρ => match evA T es ρ with
    | .ok ρ1 ds => called T f (lent es ds ρ1) es ρ1
    | .exn c ρ1 => .exn c ρ1
    | .stuck => .stuck
  | .callM f i es, ρ => if !isOwn (ρ.getD i .und) then .stuck else match evA T es ρ with
    | .ok ρ1 ds => calledM T f i (lent es ds (ρ1.set i .und)) (ρ1.getD i .und) (give es (ρ1.set i .und))
    | .exn c ρ1 => .exn c ρ1
    | .stuck => .stuck
  | .meth f (.var i) es, ρ => if isObj (T.mc f) (ρ.getD i .und) = false then .stuck else match evA T es ρ with
    | .ok ρ1 ds => called T f (frz (ρ1.getD i .und) :: lent es ds ρ1) (.var i :: es) ρ1
    | .exn c ρ1 => .exn c ρ1
    | .stuck => .stuck
  | .meth f e es, ρ => match evE T e ρ with
    | .ok ρ0 d => if isObj (T.mc f) d = false then .stuck else match evA T es ρ0 with
      | .ok ρ1 ds => called T f (frz d :: lent es ds ρ1) es ρ1
      | .exn c ρ1 => .exn c ρ1
      | .stuck => .stuck
    | .exn c ρ1 => .exn c ρ1
    | .stuck => .stuck
  | .make c f es, ρ => match evA T es ρ with
    | .ok ρ1 ds => if (lent es ds ρ1).any isLck then .stuck else match T.F f (.obj .own c [] :: lent es ds ρ1) with
      | .ok (d :: _) .non => if isLck d then .stuck else .ok (settle d es ρ1) d
      | .exn c _ => .exn c ρ1
      | _ => .stuck
    | .exn c ρ1 => .exn c ρ1
    | .stuck => .stuck
  | .cRng elt i es ifs, ρ => match evB T es ρ with
    | .ok ρ1 ds => match rng (lentB es ds ρ1) with
      | some (lo, n) => if lenOk n && plainSlots [i] ρ1 then (match compL (.one i) (fun ρ => evC T ifs ρ) (fun ρ => evE T elt ρ) (rangeD lo n) ρ1 [] with
        | .ok ρ2 ds => .ok (backD ρ1 (wipeD ρ2 [i]) [i]) (.lst .own ds)
        | _ => .stuck) else .stuck
      | none => .stuck
    | .exn c ρ1 => .exn c ρ1
    | .stuck => .stuck
  | .cSeq elt g e ifs, ρ => match evE T e ρ with
    | .ok ρ1 d => if isLck d then .stuck else match items2 e (frz d) with
      | some xs => if lenOk xs.length && plainSlots (slotsOf g) ρ1 then (match compL g (fun ρ => evC T ifs ρ) (fun ρ => evE T elt ρ) xs ρ1 [] with
        | .ok ρ2 ds => .ok (backD ρ1 (wipeD ρ2 (slotsOf g)) (slotsOf g)) (.lst .own ds)
        | _ => .stuck) else .stuck
      | none => .stuck
    | .exn c ρ1 => .exn c ρ1
    | .stuck => .stuck
  | .cRev elt g e ifs, ρ => match evE T e ρ with
    | .ok ρ1 d => if isLck d then .stuck else match itemsR (frz d) with
      | some xs => if lenOk xs.length && plainSlots (slotsOf g) ρ1 then (match compL g (fun ρ => evC T ifs ρ) (fun ρ => evE T elt ρ) xs ρ1 [] with
        | .ok ρ2 ds => .ok (backD ρ1 (wipeD ρ2 (slotsOf g)) (slotsOf g)) (.lst .own ds)
        | _ => .stuck) else .stuck
      | none => .stuck
    | .exn c ρ1 => .exn c ρ1
    | .stuck => .stuck
  | .fstr _, _ => .stuck
  | .pop i [], ρ => match ρ[i]? with
    | some (.lst .own xs) => match xs.getLast? with
      | some x => .ok (ρ.set i (.lst .own xs.dropLast)) x
      | none => .stuck
    | _ => .stuck
  | .pop i [e], ρ => if isOwnL (ρ.getD i .und) = false then .stuck else match evE T e ρ with
    | .ok ρ1 (.int k) => match ρ1[i]? with
      | some (.lst .own xs) => if lenOk xs.length = false then .stuck else match ixN xs.length k with
        | some j => match xs[j]? with
          | some x => .ok (ρ1.set i (.lst .own (xs.eraseIdx j))) x
          | none => .stuck
        | none => .stuck
      | _ => .stuck
    | .exn c ρ1 => .exn c ρ1
    | _ => .stuck
  | .pop _ _, _ => .stuck
/-- tests, all of them -/
def evC (T : Tbl) : List IE → List D → ER
  | [], ρ => .ok ρ (.bl true)
  | e :: es, ρ => match evE T e ρ with
    | .ok ρ1 (.bl true) => evC T es ρ1
    | .ok ρ1 (.bl false) => .ok ρ1 (.bl false)
    | _ => .stuck
/-- items of a display: shared from then on -/
def evEs (T : Tbl) : List IE → List D → EsR
  | [], ρ => .ok ρ []
  | e :: es, ρ => match evE T e ρ with
    | .ok ρ1 d => if isLck d then .stuck else match evEs T es ρ1 with
      | .ok ρ2 ds => .ok ρ2 (frz d :: ds)
      | .exn c ρ2 => .exn c ρ2
      | .stuck => .stuck
    | .exn c ρ1 => .exn c ρ1
    | .stuck => .stuck
/-- operands that are read alone: a name stays whose it is -/
def evB (T : Tbl) : List IE → List D → EsR
  | [], ρ => .ok ρ []
  | .var i :: es, ρ => if isLck (ρ.getD i .und) then .stuck else match evB T es ρ with
      | .ok ρ2 ds => .ok ρ2 (.und :: ds)
      | .exn c ρ2 => .exn c ρ2
      | .stuck => .stuck
  | e :: es, ρ => match evE T e ρ with
    | .ok ρ1 d => if isLck d then .stuck else match evB T es ρ1 with
      | .ok ρ2 ds => .ok ρ2 (d :: ds)
      | .exn c ρ2 => .exn c ρ2
      | .stuck => .stuck
    | .exn c ρ1 => .exn c ρ1
    | .stuck => .stuck
/-- a call's arguments: a name is lent -/
def evA (T : Tbl) : List IE → List D → EsR
  | [], ρ => .ok ρ []
  | .var i :: es, ρ => if isLck (ρ.getD i .und) then .stuck else match evA T es ρ with
      | .ok ρ2 ds => .ok ρ2 (.und :: ds)
      | .exn c ρ2 => .exn c ρ2
      | .stuck => .stuck
  | e :: es, ρ => match evE T e ρ with
    | .ok ρ1 d => if isLck d then .stuck else match evA T es ρ1 with
      | .ok ρ2 ds => .ok ρ2 (frz d :: ds)
      | .exn c ρ2 => .exn c ρ2
      | .stuck => .stuck
    | .exn c ρ1 => .exn c ρ1
    | .stuck => .stuck
end

/-- the clause that takes an exception -/
def caught (T : Tbl) (c : Nat) : List (Nat × Nat × IE) → Option (Nat × IE)
  | [] => none
  | (h, i, e) :: r => if T.sub c h then some (i, e) else caught T c r
/-- a list of our dict of lists is begun, grows -/
def putL : D → D → Option D
  | .dls kvs, y => match keyOf y with
    | some q => if lenOk kvs.length && (lget q kvs).isNone then some (.dls (kvs ++ [(q, [])])) else none
    | none => none
  | _, _ => none
def growL : D → D → D → Option D
  | .dls kvs, y, d => match keyOf y with
    | some q => match lget q kvs with
      | some xs => if lenOk xs.length then some (.dls (lset q (xs ++ [d]) kvs)) else none
      | none => none
    | none => none
  | _, _, _ => none

/-- an item of our own list or dict is put -/
def putAt : D → D → D → Option D
  | .lst .own xs, .int n, d => match ixN xs.length n with
    | some j => some (.lst .own (xs.set j d))
    | none => none
  | .dct .own kvs, y, d => match keyOf y with
    | some q => if lenOk kvs.length then some (.dct .own (dput kvs q d)) else none
    | none => none
  | .dtt .own kvs, .tup ys, d => match keysOf ys with
    | some q => if lenOk kvs.length then some (.dtt .own (dput kvs q d)) else none
    | none => none
  | _, _, _ => none
def putF2 : D → Nat → Nat → D → Option D
  | .obj .own c' fs, c, f, d => if c' = c ∧ fs.length < 100 then some (.obj .own c (fput f d fs)) else none
  | _, _, _, _ => none
def pushD : D → D → Option D
  | .lst .own xs, d => if lenOk xs.length then some (.lst .own (xs ++ [d])) else none
  | _, _ => none
def insD : D → D → D → Option D
  | .lst .own xs, .int n, d => if lenOk xs.length && decide (0 ≤ n) && decide (n < 2 ^ 63) then some (.lst .own (xs.take n.toNat ++ [d] ++ xs.drop n.toNat)) else none
  | _, _, _ => none
def ownAt : D → D → Option D
  | .lst .own xs, .int n => atI xs n
  | .dct .own kvs, y => match keyOf y with
    | some q => dget kvs q
    | none => none
  | _, _ => none
mutual
def exec (T : Tbl) (C : List Nat) : IS → List D → Out
  | .set i e, ρ => if C.contains i then .stuck else match evE T e ρ with
    | .ok ρ1 d => if isLck d then .stuck else .nx (ρ1.set i d)
    | .exn c ρ1 => .exn c ρ1
    | .stuck => .stuck
  | .setT is e, ρ => if is.any (C.contains ·) then .stuck else match evE T e ρ with
    | .ok ρ1 d => match storeU is (frz d) ρ1 with
      | some ρ2 => .nx ρ2
      | none => .stuck
    | .exn c ρ1 => .exn c ρ1
    | .stuck => .stuck
  | .par i j a b, ρ => if C.contains i || C.contains j then .stuck else match evEs T [a, b] ρ with
    | .ok ρ1 [x, y] => .nx ((ρ1.set i x).set j y)
    | .exn c ρ1 => .exn c ρ1
    | _ => .stuck
  | .setIx i k e, ρ => if !isOwn1 (ρ.getD i .und) then .stuck else match evE T e ρ with
    | .ok ρ1 d => if isLck d then .stuck else match evE T k ρ1 with
      | .ok ρ2 y => match putAt (ρ2.getD i .und) (frz y) (frz d) with
        | some d' => .nx (ρ2.set i d')
        | none => .stuck
      | .exn c ρ2 => .exn c ρ2
      | .stuck => .stuck
    | .exn c ρ1 => .exn c ρ1
    | .stuck => .stuck
  | .augIx i k b e, ρ => if !isOwn1 (ρ.getD i .und) then .stuck else match evE T k ρ with
    | .ok ρ1 y => match ownAt (ρ1.getD i .und) (frz y) with
      | some (.int z) => match evE T e ρ1 with
        | .ok ρ2 (.int m) => match putAt (ρ2.getD i .und) (frz y) (.int (if b then z + m else z - m)) with
          | some d' => .nx (ρ2.set i d')
          | none => .stuck
        | .exn c ρ2 => .exn c ρ2
        | _ => .stuck
      | _ => .stuck
    | .exn c ρ1 => .exn c ρ1
    | .stuck => .stuck
  | .aug i e, ρ => if C.contains i || !isIntD (ρ.getD i .und) then .stuck else match evE T e ρ with
    | .ok ρ1 d => match ρ[i]?, d with
      | some (.int z), .int m => .nx (ρ1.set i (.int (z + m)))
      | _, _ => .stuck
    | .exn c ρ1 => .exn c ρ1
    | .stuck => .stuck
  | .setF i c f e, ρ => if !isOwn1 (ρ.getD i .und) then .stuck else match evE T e ρ with
    | .ok ρ1 d => if isLck d then .stuck else match putF2 (ρ1.getD i .und) c f (frz d) with
      | some d' => .nx (ρ1.set i d')
      | none => .stuck
    | .exn c ρ1 => .exn c ρ1
    | .stuck => .stuck
  | .setIxL i j, ρ => match putL (ρ.getD i .und) (ρ.getD j .und) with
    | some d' => .nx (ρ.set i d')
    | none => .stuck
  | .pushIx i j l, ρ => if isLck (ρ.getD l .und) || isOwn (ρ.getD l .und) then .stuck else match growL (ρ.getD i .und) (ρ.getD j .und) (ρ.getD l .und) with
    | some d' => .nx (ρ.set i d')
    | none => .stuck
  | .push i e, ρ => if isOwnL (ρ.getD i .und) = false then .stuck else match evE T e ρ with
    | .ok ρ1 d => if isLck d then .stuck else match pushD (ρ1.getD i .und) (frz d) with
      | some d' => .nx (ρ1.set i d')
      | none => .stuck
    | .exn c ρ1 => .exn c ρ1
    | .stuck => .stuck
  | .ins i k e, ρ => if isOwnL (ρ.getD i .und) = false then .stuck else match evEs T [k, e] ρ with
    | .ok ρ1 [y, d] => (match insD (ρ1.getD i .und) y d with
      | some d' => .nx (ρ1.set i d')
      | none => .stuck)
    | .exn c ρ1 => .exn c ρ1
    | _ => .stuck
  | .clr i, ρ => if isOwnL (ρ.getD i .und) = false then .stuck else .nx (ρ.set i (.lst .own []))
  | .expr e, ρ => match evE T e ρ with
    | .ok ρ1 _ => .nx ρ1
    | .exn c ρ1 => .exn c ρ1
    | .stuck => .stuck
  | .ife t a b, ρ => match evE T t ρ with
    | .ok ρ1 (.bl true) => execs T C a ρ1
    | .ok ρ1 (.bl false) => execs T C b ρ1
    | .exn c ρ1 => .exn c ρ1
    | _ => .stuck
  | .whl n t b, ρ => whileL (fun ρ => evE T t ρ) (fun ρ => execs T C b ρ) n ρ
  | .forR i es b, ρ => if C.contains i then .stuck else match evB T es ρ with
    | .ok ρ1 ds => match rng (lentB es ds ρ1) with
      | some (lo, n) => forL (.one i) (fun ρ => execs T C b ρ) (rangeD lo n) ρ1
      | none => .stuck
    | .exn c ρ1 => .exn c ρ1
    | .stuck => .stuck
  | .forV i es b, ρ => if C.contains i then .stuck else match evB T es ρ with
    | .ok ρ1 ds => match rng (lentB es ds ρ1) with
      | some (lo, n) => forL (.one i) (fun ρ => execs T C b ρ) (rangeD lo n).reverse ρ1
      | none => .stuck
    | .exn c ρ1 => .exn c ρ1
    | .stuck => .stuck
  | .forE g e b, ρ => if (slotsOf g).any (C.contains ·) then .stuck else match evE T e ρ with
    | .ok ρ1 d => if isLck d then .stuck else match items2 e (frz d) with
      | some xs => forL g (fun ρ => execs T C b ρ) xs ρ1
      | none => .stuck
    | .exn c ρ1 => .exn c ρ1
    | .stuck => .stuck
  | .forB g e b, ρ => if (slotsOf g).any (C.contains ·) then .stuck else match evE T e ρ with
    | .ok ρ1 d => if isLck d then .stuck else match itemsR (frz d) with
      | some xs => forL g (fun ρ => execs T C b ρ) xs ρ1
      | none => .stuck
    | .exn c ρ1 => .exn c ρ1
    | .stuck => .stuck
  | .ret e, ρ => match evE T e ρ with
    | .ok ρ1 d => if isLck d then .stuck else .rt ρ1 d
    | .exn c ρ1 => .exn c ρ1
    | .stuck => .stuck
  | .retM i, ρ => if C.contains i then .stuck else match ρ[i]? with
    | some d => if isLck d then .stuck else .rt (ρ.set i .und) d
    | none => .stuck
  | .retN, ρ => .rt ρ .non
  | .raise c, ρ => .exn c ρ
  | .tr b hs, ρ => match execs T C b ρ with
    | .exn c ρ1 => if T.kx c = false then .stuck else match caught T c hs with
      | some (i, e) => if C.contains i then .stuck else match evE T e ρ1 with
        | .ok ρ2 d => if isLck d then .stuck else .nx (ρ2.set i d)
        | _ => .stuck
      | none => .exn c ρ1
    | o => o
  | .pass, ρ => .nx ρ
  | .brk, ρ => .bk ρ
  | .cnt, ρ => .ct ρ
  | .wall, _ => .stuck
def execs (T : Tbl) (C : List Nat) : List IS → List D → Out
  | [], ρ => .nx ρ
  | s :: r, ρ => match exec T C s ρ with
    | .nx ρ1 => execs T C r ρ1
    | o => o
end
def pick (ms : List Nat) (ρ : List D) : List D := ms.map fun i => ρ.getD i .und
def run (T : Tbl) (f : Fn) (vs : List D) : FR :=
  if vs.length = f.np ∧ f.np ≤ f.ns then
    match execs T f.muts f.body (vs ++ List.replicate (f.ns - f.np) .und) with
    | .nx ρ => .ok (pick f.muts ρ) .non
    | .rt ρ d => .ok (pick f.muts ρ) d
    | .exn c ρ => .exn c (pick f.muts ρ)
    | _ => .stuck
  else .stuck
/-! ### a row of defs -/
/-- the defs by number, the last one first: each knows those behind it -/
def tabL (b : Tbl) : List (Nat × Fn) → Nat → List D → FR
  | [] => fun _ _ => .stuck
  | d :: r => fun f vs => if f = d.1 then run { b with F := tabL b r } d.2 vs else tabL b r f vs
def script (ns : List Int) : D := .lst .scr (ns.map .int)
end TL

namespace TL
open PySem PySem.Spec PyProof.Rows L2

/-! ### lists of whole numbers, one below the other -/
theorem firstLt_map {e r : Nat → Bool} {fin : Bool} : ∀ (l : List Nat), SeqAt.firstLt e r fin (l.map (· + 1)) = SeqAt.firstLt (fun j => e (j + 1)) (fun j => r (j + 1)) fin l
  | [] => rfl
  | j :: l => by
    rw [List.map_cons]
    cases h : e (j + 1) with
    | true => rw [SeqAt.firstLt_yes h, SeqAt.firstLt_yes (e := fun j => e (j + 1)) h]; exact firstLt_map l
    | false => rw [SeqAt.firstLt_no h, SeqAt.firstLt_no (e := fun j => e (j + 1)) h]
theorem range_succ_map (n : Nat) : List.range (n + 1) = 0 :: (List.range n).map (· + 1) := List.range_succ_eq_map
theorem firstLt_ints : ∀ (ns ms : List Int), SeqAt.firstLt (fun j => decide (ns.getD j 0 = ms.getD j 0)) (fun j => decide (ns.getD j 0 < ms.getD j 0)) (decide (ns.length < ms.length)) (List.range (min ns.length ms.length)) = ltL ns ms
  | [], [] => rfl
  | [], _ :: _ => by simp [SeqAt.firstLt, ltL]
  | _ :: _, [] => by simp [SeqAt.firstLt, ltL]
  | a :: ns, b :: ms => by
    have hm : min (a :: ns).length (b :: ms).length = min ns.length ms.length + 1 := by simp only [List.length_cons]; omega
    rw [hm, range_succ_map]
    have ih := firstLt_ints ns ms
    unfold ltL
    by_cases h : a = b
    · rw [if_pos h, SeqAt.firstLt_yes (by exact decide_eq_true h), firstLt_map]
      rw [← ih]
      have hd : decide ((a :: ns).length < (b :: ms).length) = decide (ns.length < ms.length) := by
        simp only [List.length_cons]
        exact decide_eq_decide.mpr (by omega)
      rw [hd]
      rfl
    · rw [if_neg h, SeqAt.firstLt_no (by exact decide_eq_false h)]
      rfl
theorem intsAre_len {us : List Value} {ns : List Int} (h : IntsAre us ns) : us.length = ns.length := h.length
theorem intsAre_at : ∀ {us : List Value} {ns : List Int}, IntsAre us ns → ∀ (j : Nat) (h : j < us.length), ∃ t, us[j] = .int (ns.getD j 0) t
  | _, _, .nil, j, h => absurd h (Nat.not_lt_zero _)
  | _, _, .cons a t r, 0, h => ⟨t, rfl⟩
  | _, _, .cons a t r, j + 1, h => intsAre_at r j (Nat.lt_of_succ_lt_succ h)
def rLtL (K : PySem.W.Frag) : R2 := fun x y H Q => ∃ a b ns ms, x = .ref a ∧ y = .ref b ∧ SqL K H a (ns.map V.int) ∧ SqL K H b (ms.map V.int) ∧ Q (.bl (ltL ns ms)) H
theorem op_ltL {X : Cx} (hu : X.A.units < cLine) : OpR X (compareOp .Lt) (rLtL X.K) := by
  intro pins s σ H x y v u Q I rx ry h
  obtain ⟨a, b, ns, ms, rfl, rfl, ha, hb, q⟩ := h
  cases rx
  cases ry
  obtain ⟨its, r1, p1, _⟩ := I.list ha
  obtain ⟨its2, r2, p2, _⟩ := I.list hb
  have i1 : IntsAre its.toArray.toList ns := intsAre_of r1
  have i2 : IntsAre its2.toArray.toList ms := intsAre_of r2
  have l1 : its.toArray.size = ns.length := by have := i1.length; simpa using this
  have l2 : its2.toArray.size = ms.length := by have := i2.length; simpa using this
  have key := SeqAt.RcLt.lists (A := X.A) (s := s) (e := fun j => decide (ns.getD j 0 = ms.getD j 0)) (r := fun j => decide (ns.getD j 0 < ms.getD j 0)) p1.isList p2.isList hu
    (fun j h1 h2 => by
      obtain ⟨t1, e1⟩ := intsAre_at i1 j (by simpa using h1)
      obtain ⟨t2, e2⟩ := intsAre_at i2 j (by simpa using h2)
      have e1' : its.toArray[j] = .int (ns.getD j 0) t1 := by simpa using e1
      have e2' : its2.toArray[j] = .int (ms.getD j 0) t2 := by simpa using e2
      rw [e1', e2']
      exact SeqAt.EqAt.int_int _ _ _ _)
    (fun j h1 h2 _ => by
      obtain ⟨t1, e1⟩ := intsAre_at i1 j (by simpa using h1)
      obtain ⟨t2, e2⟩ := intsAre_at i2 j (by simpa using h2)
      have e1' : its.toArray[j] = .int (ns.getD j 0) t1 := by simpa using e1
      have e2' : its2.toArray[j] = .int (ms.getD j 0) t2 := by simpa using e2
      rw [e1', e2']
      exact fun prog w E Q h => PyProof.Rows.lt_int h)
  rw [l1, l2, firstLt_ints] at key
  exact key X.prog X.w _ _ ⟨.bl (ltL ns ms), H, I, rfl, q⟩
end TL

namespace TL
open PySem PySem.Spec PyProof.Rows L2

/-! ### dict(d) -/
def rDictD : List V → Hp → VK → Prop := fun xs H Q => ∃ (a : Addr) (kvs : List (Key × V)), xs = [.ref a] ∧ Rd H a (.dK kvs) ∧ ∀ p, H p = none → Q (.ref p) (upd H p (.dK kvs))
theorem call_dictD {X : Cx} : CallR X (.type "dict") rDictD := by
  intro pins s σ H xs us Q I r q
  obtain ⟨a, kvs, ex, hd, q⟩ := q
  subst ex
  obtain ⟨u, eu, rx⟩ := vals1 r
  subst eu
  cases rx
  obtain ⟨hl, hs, vs, kv, dd⟩ := dk_rd I.hok hd
  have l2 : kvs.length = vs.length := Paired.length kv
  refine kt_call_dict hs dd (by omega) fun h' hm hsb => ?_
  have hmm : (s.heap.objs.size == sysModules) = false := beq_eq_false_iff_ne.mpr (Nat.ne_of_gt I.big)
  refine ⟨.ref s.heap.objs.size, upd H s.heap.objs.size (.dK kvs), I.laid (t' := s.toks) (fun b o e => ?_) (Nat.le_refl _) (show ObjOk X.prog X.w _ _ _ (.dK kvs) from ⟨hl, hmm, vs, kv, hm⟩), rfl, q _ (I.hok.fresh (Nat.le_refl _))⟩
  have e2 : (s.heap.push { cls := .type "dict", data := .dict #[] }).get? b = some o := Heap.get?_push_of_some _ e
  exact hsb.extBut b o (Nat.ne_of_lt (Heap.lt_size e)) e2
end TL

namespace TL
open PySem PySem.Spec PyProof.Rows L2

/-! ### len of a dict -/
theorem call_lenD {X : Cx} : CallR X (.builtin "len") (fun xs H Q => ∃ (a : Addr) (kvs : List (Key × V)), xs = [.ref a] ∧ Rd H a (.dK kvs) ∧ Q (.int kvs.length) H) := by
  intro pins s σ H xs us Q I r q
  obtain ⟨a, kvs, rfl, rdd, q⟩ := q
  rw [Vals.ref1 r]
  obtain ⟨fits, nosys, vs, kv, dof⟩ := dk_rd I.hok rdd
  have len2 : kvs.length = vs.length := Paired.length kv
  refine PySem.call_len_dict nosys dof ?_ ?_
  · rw [sizeLine_eq] at fits; omega
  · rw [← len2]
    exact ⟨.int _, H, I.tok _, ⟨_, rfl⟩, q⟩
/-! ### a text some times -/
def rMulS : R2 := fun x y H Q => ∃ z i, x = .str z ∧ y = .int i ∧ z.length ≤ 16 ∧ 0 ≤ i ∧ i ≤ 1000000 ∧ Q (.str (Txt.mul z i)) H
theorem op_mulS {X : Cx} : OpR X (binaryOp .Mult) rMulS := by
  intro pins s σ H x y v u Q I rx ry h
  obtain ⟨z, i, rfl, rfl, h1, h2, h3, q⟩ := h
  obtain ⟨t1, rfl⟩ := rx
  obtain ⟨t2, rfl⟩ := ry
  exact PySem.W.KXi.mul rfl h1 (by omega) (by show i ≤ ((1048576 : Nat) : Int); omega) fun t' k _ _ => ⟨.str _, H, I.tok _, ⟨_, rfl⟩, q⟩
/-! ### rows of numbers: the least, and in their order -/
theorem ltL_iff : ∀ a b : List Int, ltL a b = decide (a < b)
  | [], [] => by simp [ltL]
  | [], y :: b => by simp [ltL]
  | x :: a, [] => by simp [ltL]
  | x :: a, y :: b => by
    unfold ltL
    rw [ltL_iff a b]
    by_cases e : x = y
    · subst e
      rw [if_pos rfl]
      exact decide_eq_decide.mpr (by rw [List.cons_lt_cons_iff]; simp)
    · rw [if_neg e]
      exact decide_eq_decide.mpr (by rw [List.cons_lt_cons_iff]; simp [e])
def pyL (n : List Int) : PyData := .list (n.map .int)
theorem dataLt_L (a b : List Int) : PySem.W.dataLt (pyL a) (pyL b) = ltL a b := by
  unfold pyL
  rw [PySem.W.dataLt_list, ltL_iff]
  exact PySem.W.dataLt_ints a b
theorem alike_ints : ∀ a b : List Int, PySem.W.alikeAll (a.map PyData.int) (b.map .int) = true
  | [], _ => by simp [PySem.W.alikeAll]
  | x :: a, [] => by simp [PySem.W.alikeAll]
  | x :: a, y :: b => by
    rw [List.map_cons, List.map_cons, PySem.W.alikeAll, alike_ints a b]
    simp [PySem.W.alike]
theorem alike_L (a b : List Int) : PySem.W.alike (pyL a) (pyL b) = true := by
  unfold pyL
  rw [PySem.W.alike]
  exact alike_ints a b
theorem depth_I : ∀ xs : List Int, PyData.depthAll (xs.map PyData.int) ≤ 1
  | [] => by simp [PyData.depthAll]
  | x :: xs => by
    rw [List.map_cons, PyData.depthAll]
    have := depth_I xs
    simp only [PyData.depth]
    omega
theorem depth_L (a : List Int) : (pyL a).depth ≤ 2 := by
  unfold pyL
  rw [PyData.depth]
  have := depth_I a
  omega
theorem depth_LL : ∀ l : List (List Int), PyData.depthAll (l.map pyL) ≤ 2
  | [] => by simp [PyData.depthAll]
  | a :: l => by
    rw [List.map_cons, PyData.depthAll]
    have h1 := depth_LL l
    have h2 := depth_L a
    omega
theorem minD_L : ∀ (l : List (List Int)) (n : List Int), PySem.W.minD (pyL n) (l.map pyL) = pyL (minL n l)
  | [], _ => rfl
  | y :: l, n => by
    have ih := minD_L l (if ltL y n = true then y else n)
    unfold PySem.W.minD at ih ⊢
    rw [List.map_cons, List.foldl_cons, dataLt_L]
    unfold minL at ih ⊢
    rw [List.foldl_cons, ← ih]
    congr 1
    split <;> rfl
theorem pyL_inj {a b : List Int} (h : pyL a = pyL b) : a = b := by
  unfold pyL at h
  injection h with h
  exact List.map_inj_right (fun x y e => by injection e) |>.mp h
/-- min of a list of rows: an item that is the least row -/
def rMinL (K : PySem.W.Frag) : List V → Hp → VK → Prop := fun xs H Q => ∃ (a : Addr) (vs : List V) (n : List Int) (l : List (List Int)), xs = [V.ref a] ∧ SqL K H a vs ∧ DpAll K H vs ((n :: l).map pyL) ∧ ∀ (i : Nat) (v : V), vs[i]? = some v → (n :: l)[i]? = some (minL n l) → Q v H
theorem relAt : ∀ {vs : List V} {us : List Value}, Vals vs us → ∀ {i : Nat} {u : Value}, us[i]? = some u → ∃ v, vs[i]? = some v ∧ RelV v u
  | _, _, .nil, i, u, h => by cases h
  | _, _, .cons r t, 0, u, h => by cases h; exact ⟨_, rfl, r⟩
  | _, _, .cons r t, i + 1, u, h => relAt t h
theorem cr_minL {X : Cx} (hc : X.calm = true) (hu : X.A.units + 64 < cLine) : CallR X (.builtin "min") (rMinL X.K) := by
  intro pins s σ H xs us Q I r h
  obtain ⟨a, vs, n, l, rfl, hs, hd, q⟩ := h
  obtain ⟨its, rv, hl, hz⟩ := I.list hs
  rw [Vals.ref1 r]
  obtain ⟨as, rall⟩ := Dp.readsAll I _ vs its hd rv
  have lenv : its.length = l.length + 1 := by
    have := SeqAt.ReadsAll.length _ _ _ rall
    simpa using this
  have alk : PySem.W.AlikeAll ((n :: l).map pyL) := ⟨fun x hx y hy => by
    obtain ⟨b, _, rfl⟩ := List.mem_map.mp hx
    obtain ⟨c, _, rfl⟩ := List.mem_map.mp hy
    exact alike_L b c, fun x hx e => by
    obtain ⟨b, _, rfl⟩ := List.mem_map.mp hx
    cases e⟩
  have dep := depth_LL (n :: l)
  refine PySem.call_min_walkH (PySem.W.iter_listW (A := X.A.in1) (I.ok.hd hc) hl.isList fun s₂ es walk st0 below apart kept => ?_)
  have cmp := PySem.W.cmpIn_lt (prog := X.prog) (w := X.w) (A := X.A.in1) (s := s) (vs := its.toArray) rall alk (by
    show X.A.units + 1 + _ < _
    omega)
  refine ⟨_, _, _, _, _, _, _, s.heap, _, rfl, walk, st0, below, by simp; omega, apart, kept, cmp, fun v s' at_ moved => ?_⟩
  obtain ⟨h', tk, rfl, old⟩ := PySem.W.moved_old es rfl moved
  obtain ⟨bst, fold⟩ := PySem.W.argBest_fold PySem.W.dataLt PyData.none (pyL n) (l.map pyL) l.length (by simp)
  have fold : ((n :: l).map pyL).getD (argBest (fun i j => PySem.W.dataLt (((n :: l).map pyL).getD i .none) (((n :: l).map pyL).getD j .none)) l.length) .none = PySem.W.minD (pyL n) ((l.map pyL).take l.length) := fold
  have bst : argBest (fun i j => PySem.W.dataLt (((n :: l).map pyL).getD i .none) (((n :: l).map pyL).getD j .none)) l.length ≤ l.length := bst
  rw [List.take_of_length_le (by simp), minD_L] at fold
  have size : its.toArray.size - 1 = l.length := by simp; omega
  rw [size] at at_
  generalize argBest (fun i j => PySem.W.dataLt (((n :: l).map pyL).getD i .none) (((n :: l).map pyL).getD j .none)) l.length = k at bst fold at_
  have at2 : its[k]? = some v := by simpa using at_
  obtain ⟨x, hx, rx⟩ := relAt rv at2
  refine ⟨x, H, I.kept old, rx, q k x hx ?_⟩
  have bst : k ≤ l.length := bst
  have hk : k < (n :: l).length := by simp; omega
  rw [List.getElem?_eq_getElem hk]
  rw [List.getD_eq_getElem?_getD, List.getElem?_map, List.getElem?_eq_getElem hk] at fold
  exact congrArg some (pyL_inj fold)
/-- sorted(xs) of a list of rows -/
def rowLe (x y : V × List Int) : Bool := !ltL y.2 x.2
def rSortedL (K : PySem.W.Frag) : List V → Hp → VK → Prop := fun xs H Q => ∃ (a : Addr) (bs : List (V × List Int)), xs = [V.ref a] ∧ SqL K H a (bs.map (·.1)) ∧ DpAll K H (bs.map (·.1)) (bs.map fun b => pyL b.2) ∧ ∀ p, H p = none → Q (.ref p) (upd H p (.lst ((bs.mergeSort rowLe).map (·.1))))
theorem each_of : ∀ {bs : List (V × List Int)} {us : List Value}, Vals (bs.map (·.1)) us → PySem.W.EachIs (fun u (b : V × List Int) => RelV b.1 u) us bs
  | [], _, .nil => .nil
  | _ :: _, _, .cons r t => .cons r (each_of t)
theorem vals_each : ∀ {bs : List (V × List Int)} {us : List Value}, PySem.W.EachIs (fun u (b : V × List Int) => RelV b.1 u) us bs → Vals (bs.map (·.1)) us
  | [], _, .nil => .nil
  | _ :: _, _, .cons r t => .cons r (vals_each t)
theorem reads_each {h : Heap} : ∀ {bs : List (V × List Int)} {us : List Value} {as : List Addr}, ReadsAll h us (bs.map fun b => pyL b.2) as → PySem.W.EachIs (fun u (b : V × List Int) => ∃ as, Reads h u (pyL b.2) as) us bs
  | [], _, _, .nil => .nil
  | _ :: _, _, _, .cons r t => .cons ⟨_, r⟩ (reads_each t)
theorem cr_sortedL {X : Cx} (hu : X.A.units + 64 < cLine) : CallR X (.builtin "sorted") (rSortedL X.K) := by
  intro pins s σ H xs us Q I r h
  obtain ⟨a, bs, rfl, hs, hd, q⟩ := h
  obtain ⟨its, rv, hl, hz⟩ := I.list hs
  rw [Vals.ref1 r]
  obtain ⟨as, rall⟩ := Dp.readsAll I _ _ its hd rv
  have lenb : bs.length ≤ sizeLine := by simpa using hz
  have alk : PySem.W.AllAlike (bs.map fun b => pyL b.2) := fun x hx y hy => by
    obtain ⟨b, _, rfl⟩ := List.mem_map.mp hx
    obtain ⟨c, _, rfl⟩ := List.mem_map.mp hy
    exact alike_L b.2 c.2
  refine PySem.W.sorted_data (enc := fun b : V × List Int => pyL b.2) hl.isList (each_of rv) (reads_each rall) alk (.inr fun d hd => ?_) lenb (fun b _ => ?_) fun out outl each => ?_
  · obtain ⟨b, _, rfl⟩ := List.mem_map.mp hd
    exact ⟨(fun e => nomatch e), fun xs e => nomatch e⟩
  · have := depth_L b.2
    omega
  · have le : (PySem.W.dataLe false fun b : V × List Int => pyL b.2) = rowLe := by
      funext x y
      show (!PySem.W.dataLt (pyL y.2) (pyL x.2)) = _
      rw [dataLt_L]
      rfl
    rw [le] at each
    obtain ⟨ep, at_⟩ := PyProof.Rows.sortedAll_at s.heap its out.toArray
    have fits : ((bs.mergeSort rowLe).map (·.1)).length ≤ sizeLine := by rw [List.length_map, List.length_mergeSort]; exact lenb
    exact ⟨.ref _, upd H (s.heap.objs.size + 1) (.lst ((bs.mergeSort rowLe).map (·.1))), I.laid (t' := s.toks) (fun _ _ => PyProof.Rows.sortedAll_old) (Nat.le_succ _) ⟨fits, out, ep, vals_each each, by simpa using at_⟩, rfl, q _ (I.hok.fresh (Nat.le_succ _))⟩
end TL

namespace TL
open PySem PySem.Spec PyProof.Rows L2

abbrev AP := Addr → Prop
/-- where the program's classes stand and what its fields are called -/
structure LC where
  K : PySem.W.Frag
  ca : Nat → Addr
  fn : Nat → Str

/-- a list of the module's own -/
def Kl (K : PySem.W.Frag) (a : Addr) (xs : List V) : Prop :=
  ∃ (o : Obj) (its : Array Value) (n : Nat), K.lookup a = some o ∧ o.cls = .type "list" ∧ o.dict = none ∧ o.data = .seq its n ∧ its.size ≤ sizeLine ∧ Vals xs its.toList
mutual
/-- v is d, and nothing of it is anybody's own -/
def Fz (L : LC) (H : Hp) (T : AP) : D → V → Prop
  | .und, _ => False
  | .non, v => v = .non
  | .bl b, v => v = .bl b
  | .int i, v => v = .int i
  | .str x, v => v = .str x
  | .lst w xs, v => w ≠ .own ∧ ∃ a vs, v = .ref a ∧ ((¬ T a ∧ Rd H a (.lst vs)) ∨ Kl L.K a vs) ∧ (w = .fz → ¬ T a ∧ H a = some (.lst vs)) ∧ SqL L.K H a vs ∧ Fzs L H T xs vs
  | .tup xs, v => ∃ a vs, v = .ref a ∧ ¬ T a ∧ H a = some (.tup vs) ∧ Fzs L H T xs vs
  | .dct w kvs, v => w = .fz ∧ ∃ a kws, v = .ref a ∧ ¬ T a ∧ Rd H a (.dK kws) ∧ FzK L H T kvs kws
  | .dtt w kvs, v => w = .fz ∧ ∃ a kws, v = .ref a ∧ ¬ T a ∧ Rd H a (.dT kws) ∧ FzT L H T kvs kws
  | .obj w c fs, v => w = .fz ∧ ∃ a dx ws, v = .ref a ∧ ¬ T a ∧ H a = some (.ins (L.ca c) dx ws) ∧ FzF L H T fs ws
  | .dls _, _ => False
  | .obn _ _, _ => False
def Fzs (L : LC) (H : Hp) (T : AP) : List D → List V → Prop
  | [], vs => vs = []
  | d :: ds, vs => ∃ v r, vs = v :: r ∧ Fz L H T d v ∧ Fzs L H T ds r
def FzK (L : LC) (H : Hp) (T : AP) : List (Key × D) → List (Key × V) → Prop
  | [], vs => vs = []
  | (k, d) :: ds, vs => ∃ v r, vs = (k, v) :: r ∧ Fz L H T d v ∧ FzK L H T ds r
def FzT (L : LC) (H : Hp) (T : AP) : List (List Key × D) → List (List Key × V) → Prop
  | [], vs => vs = []
  | (k, d) :: ds, vs => ∃ v r, vs = (k, v) :: r ∧ Fz L H T d v ∧ FzT L H T ds r
def FzF (L : LC) (H : Hp) (T : AP) : List (Nat × D) → List (Str × V) → Prop
  | [], vs => vs = []
  | (n, d) :: ds, vs => ∃ v r, vs = (L.fn n, v) :: r ∧ Fz L H T d v ∧ FzF L H T ds r
end

/-- what was shared stays and stays shared -/
def Frz (H : Hp) (T : AP) (H' : Hp) (T' : AP) : Prop := ∀ a o, ¬ T a → H a = some o → H' a = some o ∧ ¬ T' a
theorem Frz.refl {H : Hp} {T : AP} : Frz H T H T := fun _ _ n e => ⟨e, n⟩
theorem Frz.trans {H H1 H2 : Hp} {T T1 T2 : AP} (a : Frz H T H1 T1) (b : Frz H1 T1 H2 T2) : Frz H T H2 T2 := fun c o n e =>
  let ⟨e1, n1⟩ := a c o n e
  b c o n1 e1
theorem Frz.sub {H : Hp} {T T' : AP} (h : ∀ a, T' a → T a) : Frz H T H T' := fun a _ n e => ⟨e, fun t => n (h a t)⟩

section
variable {L : LC} {H H' : Hp} {T T' : AP}
theorem Frz.rd {a : Addr} {u : HO} (s : Frz H T H' T') (n : ¬ T a) (r : Rd H a u) : Rd H' a u ∧ ¬ T' a := by
  rcases r with r | ⟨o, r⟩
  · exact ⟨.inl (s a _ n r).1, (s a _ n r).2⟩
  · exact ⟨.inr ⟨o, (s a _ n r).1⟩, (s a _ n r).2⟩
mutual
theorem Fz.step (s : Frz H T H' T') : ∀ (d : D) (v : V), Fz L H T d v → Fz L H' T' d v
  | .und, _, h => by unfold Fz at h; exact h.elim
  | .non, _, h => by unfold Fz at h ⊢; exact h
  | .bl _, _, h => by unfold Fz at h ⊢; exact h
  | .int _, _, h => by unfold Fz at h ⊢; exact h
  | .str _, _, h => by unfold Fz at h ⊢; exact h
  | .lst w xs, v, h => by
    unfold Fz at h ⊢
    obtain ⟨e, a, vs, ev, n, x, r, q⟩ := h
    refine ⟨e, a, vs, ev, ?_, fun z => ⟨(s a _ (x z).1 (x z).2).2, (s a _ (x z).1 (x z).2).1⟩, ?_, Fzs.step s xs vs q⟩
    · rcases n with ⟨n, r⟩ | n
      · exact .inl ⟨(s.rd n r).2, (s.rd n r).1⟩
      · exact .inr n
    · rcases n with ⟨n, r⟩ | n
      · exact .inl (s.rd n r).1
      · exact .inr n
  | .tup xs, v, h => by
    unfold Fz at h ⊢
    obtain ⟨a, vs, ev, n, r, q⟩ := h
    exact ⟨a, vs, ev, (s a _ n r).2, (s a _ n r).1, Fzs.step s xs vs q⟩
  | .dct w kvs, v, h => by
    unfold Fz at h ⊢
    obtain ⟨e, a, vs, ev, n, r, q⟩ := h
    exact ⟨e, a, vs, ev, (s.rd n r).2, (s.rd n r).1, FzK.step s kvs vs q⟩
  | .dtt w kvs, v, h => by
    unfold Fz at h ⊢
    obtain ⟨e, a, vs, ev, n, r, q⟩ := h
    exact ⟨e, a, vs, ev, (s.rd n r).2, (s.rd n r).1, FzT.step s kvs vs q⟩
  | .obj w c fs, v, h => by
    unfold Fz at h ⊢
    obtain ⟨e, a, dx, ws, ev, n, r, q⟩ := h
    exact ⟨e, a, dx, ws, ev, (s a _ n r).2, (s a _ n r).1, FzF.step s fs ws q⟩
  | .dls _, _, h => by unfold Fz at h; exact h.elim
  | .obn _ _, _, h => by unfold Fz at h; exact h.elim
theorem Fzs.step (s : Frz H T H' T') : ∀ (ds : List D) (vs : List V), Fzs L H T ds vs → Fzs L H' T' ds vs
  | [], _, h => by unfold Fzs at h ⊢; exact h
  | d :: ds, vs, h => by
    unfold Fzs at h ⊢
    obtain ⟨v, r, e, h1, h2⟩ := h
    exact ⟨v, r, e, Fz.step s d v h1, Fzs.step s ds r h2⟩
theorem FzK.step (s : Frz H T H' T') : ∀ (ds : List (Key × D)) (vs : List (Key × V)), FzK L H T ds vs → FzK L H' T' ds vs
  | [], _, h => by unfold FzK at h ⊢; exact h
  | (k, d) :: ds, vs, h => by
    unfold FzK at h ⊢
    obtain ⟨v, r, e, h1, h2⟩ := h
    exact ⟨v, r, e, Fz.step s d v h1, FzK.step s ds r h2⟩
theorem FzT.step (s : Frz H T H' T') : ∀ (ds : List (List Key × D)) (vs : List (List Key × V)), FzT L H T ds vs → FzT L H' T' ds vs
  | [], _, h => by unfold FzT at h ⊢; exact h
  | (k, d) :: ds, vs, h => by
    unfold FzT at h ⊢
    obtain ⟨v, r, e, h1, h2⟩ := h
    exact ⟨v, r, e, Fz.step s d v h1, FzT.step s ds r h2⟩
theorem FzF.step (s : Frz H T H' T') : ∀ (ds : List (Nat × D)) (vs : List (Str × V)), FzF L H T ds vs → FzF L H' T' ds vs
  | [], _, h => by unfold FzF at h ⊢; exact h
  | (k, d) :: ds, vs, h => by
    unfold FzF at h ⊢
    obtain ⟨v, r, e, h1, h2⟩ := h
    exact ⟨v, r, e, Fz.step s d v h1, FzF.step s ds r h2⟩
end

/-- v is d, nothing of ours but its root; f: the objects that are ours by it -/
def Rep1 (L : LC) (H : Hp) (T : AP) (d : D) (v : V) (f : List Addr) : Prop :=
  match d with
  | .lst .own xs => ∃ a vs, v = .ref a ∧ f = [a] ∧ H a = some (.lst vs) ∧ Fzs L H T xs vs
  | .dct .own kvs => ∃ a kws, v = .ref a ∧ f = [a] ∧ H a = some (.dK kws) ∧ FzK L H T kvs kws
  | .dtt .own kvs => ∃ a kws, v = .ref a ∧ f = [a] ∧ H a = some (.dT kws) ∧ FzT L H T kvs kws
  | .obj .own c fs => ∃ a dx ws, v = .ref a ∧ f = [a] ∧ H a = some (.ins (L.ca c) dx ws) ∧ FzF L H T fs ws
  | d => f = [] ∧ Fz L H T d v

/-- the lists of our dict -/
def KL (L : LC) (H : Hp) (T : AP) : List (Key × List D) → List (Key × V) → List Addr → Prop
  | [], ws, f => ws = [] ∧ f = []
  | (k, xs) :: r, ws, f => ∃ b vs ws' f', ws = (k, .ref b) :: ws' ∧ f = b :: f' ∧ H b = some (.lst vs) ∧ Fzs L H T xs vs ∧ KL L H T r ws' f'
/-- the fields of our object -/
def FO (L : LC) (H : Hp) (T : AP) : List (Nat × D) → List (Str × V) → List Addr → Prop
  | [], ws, f => ws = [] ∧ f = []
  | (n, d) :: r, ws, f => ∃ v ws' f1 f2, ws = (L.fn n, v) :: ws' ∧ f = f1 ++ f2 ∧ Rep1 L H T d v f1 ∧ FO L H T r ws' f2
/-- v is d; f: the objects that are ours by it -/
def Rep (L : LC) (H : Hp) (T : AP) (d : D) (v : V) (f : List Addr) : Prop :=
  match d with
  | .dls kvs => ∃ a kws f', v = .ref a ∧ f = a :: f' ∧ H a = some (.dK kws) ∧ KL L H T kvs kws f'
  | .obn c fs => ∃ a dx ws f', v = .ref a ∧ f = a :: f' ∧ H a = some (.ins (L.ca c) dx ws) ∧ FO L H T fs ws f'
  | d => Rep1 L H T d v f

def oneD : D → Bool
  | .dls _ => false | .obn _ _ => false | _ => true
theorem Rep.one {L : LC} {H : Hp} {T : AP} {d : D} {v : V} {f : List Addr} (h : Rep L H T d v f) (n : oneD d = true) : Rep1 L H T d v f := by
  cases d <;> first | exact h | cases n
theorem Rep1.rep {L : LC} {H : Hp} {T : AP} {d : D} {v : V} {f : List Addr} (h : Rep1 L H T d v f) (n : oneD d = true) : Rep L H T d v f := by
  cases d <;> first | exact h | cases n
theorem Rep1.step {d : D} {v : V} {f : List Addr} (s : Frz H T H' T') (k : ∀ a o, a ∈ f → H a = some o → H' a = some o) (h : Rep1 L H T d v f) : Rep1 L H' T' d v f := by
  cases d with
  | lst w xs =>
    cases w with
    | own =>
      obtain ⟨a, vs, e1, e2, e3, q⟩ := h
      exact ⟨a, vs, e1, e2, k a _ (by rw [e2]; exact List.mem_singleton.mpr rfl) e3, Fzs.step s _ _ q⟩
    | fz => exact ⟨h.1, Fz.step s _ _ h.2⟩
    | scr => exact ⟨h.1, Fz.step s _ _ h.2⟩
  | dct w xs =>
    cases w with
    | own =>
      obtain ⟨a, vs, e1, e2, e3, q⟩ := h
      exact ⟨a, vs, e1, e2, k a _ (by rw [e2]; exact List.mem_singleton.mpr rfl) e3, FzK.step s _ _ q⟩
    | fz => exact ⟨h.1, Fz.step s _ _ h.2⟩
    | scr => exact ⟨h.1, Fz.step s _ _ h.2⟩
  | dtt w xs =>
    cases w with
    | own =>
      obtain ⟨a, vs, e1, e2, e3, q⟩ := h
      exact ⟨a, vs, e1, e2, k a _ (by rw [e2]; exact List.mem_singleton.mpr rfl) e3, FzT.step s _ _ q⟩
    | fz => exact ⟨h.1, Fz.step s _ _ h.2⟩
    | scr => exact ⟨h.1, Fz.step s _ _ h.2⟩
  | obj w c xs =>
    cases w with
    | own =>
      obtain ⟨a, dx, vs, e1, e2, e3, q⟩ := h
      exact ⟨a, dx, vs, e1, e2, k a _ (by rw [e2]; exact List.mem_singleton.mpr rfl) e3, FzF.step s _ _ q⟩
    | fz => exact ⟨h.1, Fz.step s _ _ h.2⟩
    | scr => exact ⟨h.1, Fz.step s _ _ h.2⟩
  | _ => exact ⟨h.1, Fz.step s _ _ h.2⟩
theorem KL.step (s : Frz H T H' T') : ∀ {kvs : List (Key × List D)} {ws : List (Key × V)} {f : List Addr}, (∀ a o, a ∈ f → H a = some o → H' a = some o) → KL L H T kvs ws f → KL L H' T' kvs ws f
  | [], _, _, _, h => h
  | (x, xs) :: r, _, _, k, h => by
    obtain ⟨b, vs, ws', f', rfl, rfl, e, z, q⟩ := h
    exact ⟨b, vs, ws', f', rfl, rfl, k b _ List.mem_cons_self e, Fzs.step s _ _ z, KL.step s (fun a o m => k a o (List.mem_cons_of_mem _ m)) q⟩
theorem FO.step (s : Frz H T H' T') : ∀ {fs : List (Nat × D)} {ws : List (Str × V)} {f : List Addr}, (∀ a o, a ∈ f → H a = some o → H' a = some o) → FO L H T fs ws f → FO L H' T' fs ws f
  | [], _, _, _, h => h
  | (n, d) :: r, _, _, k, h => by
    obtain ⟨v, ws', f1, f2, rfl, rfl, z, q⟩ := h
    exact ⟨v, ws', f1, f2, rfl, rfl, z.step s (fun a o m => k a o (List.mem_append_left _ m)), FO.step s (fun a o m => k a o (List.mem_append_right _ m)) q⟩

theorem Rep.step {d : D} {v : V} {f : List Addr} (s : Frz H T H' T') (k : ∀ a o, a ∈ f → H a = some o → H' a = some o) (h : Rep L H T d v f) : Rep L H' T' d v f := by
  cases d with
  | lst w xs =>
    cases w with
    | own =>
      obtain ⟨a, vs, e1, e2, e3, q⟩ := h
      exact ⟨a, vs, e1, e2, k a _ (by rw [e2]; exact List.mem_singleton.mpr rfl) e3, Fzs.step s _ _ q⟩
    | fz => exact ⟨h.1, Fz.step s _ _ h.2⟩
    | scr => exact ⟨h.1, Fz.step s _ _ h.2⟩
  | dct w xs =>
    cases w with
    | own =>
      obtain ⟨a, vs, e1, e2, e3, q⟩ := h
      exact ⟨a, vs, e1, e2, k a _ (by rw [e2]; exact List.mem_singleton.mpr rfl) e3, FzK.step s _ _ q⟩
    | fz => exact ⟨h.1, Fz.step s _ _ h.2⟩
    | scr => exact ⟨h.1, Fz.step s _ _ h.2⟩
  | dtt w xs =>
    cases w with
    | own =>
      obtain ⟨a, vs, e1, e2, e3, q⟩ := h
      exact ⟨a, vs, e1, e2, k a _ (by rw [e2]; exact List.mem_singleton.mpr rfl) e3, FzT.step s _ _ q⟩
    | fz => exact ⟨h.1, Fz.step s _ _ h.2⟩
    | scr => exact ⟨h.1, Fz.step s _ _ h.2⟩
  | obj w c fs =>
    cases w with
    | own =>
      obtain ⟨a, dx, vs, e1, e2, e3, q⟩ := h
      exact ⟨a, dx, vs, e1, e2, k a _ (by rw [e2]; exact List.mem_singleton.mpr rfl) e3, FzF.step s _ _ q⟩
    | fz => exact ⟨h.1, Fz.step s _ _ h.2⟩
    | scr => exact ⟨h.1, Fz.step s _ _ h.2⟩
  | dls kvs =>
    obtain ⟨a, kws, f', e1, e2, e3, q⟩ := h
    exact ⟨a, kws, f', e1, e2, k a _ (by rw [e2]; exact List.mem_cons_self) e3, KL.step s (fun b o m => k b o (by rw [e2]; exact List.mem_cons_of_mem _ m)) q⟩
  | obn c fs =>
    obtain ⟨a, dx, ws, f', e1, e2, e3, q⟩ := h
    exact ⟨a, dx, ws, f', e1, e2, k a _ (by rw [e2]; exact List.mem_cons_self) e3, FO.step s (fun b o m => k b o (by rw [e2]; exact List.mem_cons_of_mem _ m)) q⟩
  | _ => exact ⟨h.1, Fz.step s _ _ h.2⟩

/-- what isn't ours holds nothing of ours -/
theorem Rep.fz_of {d : D} {v : V} {f : List Addr} (h : Rep L H T d v f) (n : isOwn d = false) : f = [] ∧ Fz L H T d v := by
  cases d with
  | lst w xs => cases w <;> first | exact h | cases n
  | dct w xs => cases w <;> first | exact h | cases n
  | dtt w xs => cases w <;> first | exact h | cases n
  | obj w c xs => cases w <;> first | exact h | cases n
  | dls _ => cases n
  | obn _ _ => cases n
  | _ => exact h
theorem Rep.of_fz {d : D} {v : V} (h : Fz L H T d v) : Rep L H T d v [] := by
  cases d with
  | lst w xs => cases w <;> first | exact ⟨rfl, h⟩ | (unfold Fz at h; exact absurd rfl h.1)
  | dct w xs => cases w <;> first | exact ⟨rfl, h⟩ | (unfold Fz at h; cases h.1)
  | dtt w xs => cases w <;> first | exact ⟨rfl, h⟩ | (unfold Fz at h; cases h.1)
  | obj w c xs => cases w <;> first | exact ⟨rfl, h⟩ | (unfold Fz at h; cases h.1)
  | dls _ => unfold Fz at h; exact h.elim
  | obn _ _ => unfold Fz at h; exact h.elim
  | _ => exact ⟨rfl, h⟩
mutual
theorem frz_fz : ∀ (d : D) (v : V), Fz L H T d v → frz d = d
  | .und, _, h => by unfold Fz at h; exact h.elim
  | .non, _, h => by unfold frz; rfl
  | .bl _, _, h => by unfold frz; rfl
  | .int _, _, h => by unfold frz; rfl
  | .str _, _, h => by unfold frz; rfl
  | .lst .fz xs, v, h => by unfold frz; rfl
  | .lst .scr xs, v, h => by unfold frz; rfl
  | .lst .own xs, v, h => by unfold Fz at h; exact absurd rfl h.1
  | .tup xs, v, h => by unfold frz; rfl
  | .dct w kvs, v, h => by unfold Fz at h; unfold frz; rw [h.1]
  | .dtt w kvs, v, h => by unfold Fz at h; unfold frz; rw [h.1]
  | .obj w c fs, v, h => by
    unfold Fz at h
    obtain ⟨e, a, dx, ws, _, _, _, q⟩ := h
    unfold frz
    rw [frzF_fz fs ws q, e]
  | .dls _, _, h => by unfold Fz at h; exact h.elim
  | .obn _ _, _, h => by unfold Fz at h; exact h.elim
theorem frzF_fz : ∀ (fs : List (Nat × D)) (ws : List (Str × V)), FzF L H T fs ws → frzF fs = fs
  | [], _, _ => by unfold frzF; rfl
  | (n, d) :: r, ws, h => by
    unfold FzF at h
    obtain ⟨v, r', _, h1, h2⟩ := h
    unfold frzF
    rw [frz_fz d v h1, frzF_fz r r' h2]
end
/-- given up: shared from now on -/
theorem Rep1.freeze {d : D} {v : V} {f : List Addr} (h : Rep1 L H T d v f) (s : ∀ a, T' a → T a) (n : ∀ a ∈ f, ¬ T' a) : Fz L H T' (frz d) v := by
  have st : Frz H T H T' := Frz.sub s
  cases d with
  | lst w xs =>
    cases w with
    | own =>
      obtain ⟨a, vs, e1, e2, e3, q⟩ := h
      unfold frz Fz
      have na := n a (by rw [e2]; exact List.mem_singleton.mpr rfl)
      exact ⟨(fun z => nomatch z), a, vs, e1, .inl ⟨na, .inl e3⟩, fun _ => ⟨na, e3⟩, .inl (.inl e3), Fzs.step st _ _ q⟩
    | fz => rw [frz_fz _ _ h.2]; exact Fz.step st _ _ h.2
    | scr => rw [frz_fz _ _ h.2]; exact Fz.step st _ _ h.2
  | dct w xs =>
    cases w with
    | own =>
      obtain ⟨a, vs, e1, e2, e3, q⟩ := h
      unfold frz Fz
      exact ⟨rfl, a, vs, e1, n a (by rw [e2]; exact List.mem_singleton.mpr rfl), .inl e3, FzK.step st _ _ q⟩
    | fz => rw [frz_fz _ _ h.2]; exact Fz.step st _ _ h.2
    | scr => rw [frz_fz _ _ h.2]; exact Fz.step st _ _ h.2
  | dtt w xs =>
    cases w with
    | own =>
      obtain ⟨a, vs, e1, e2, e3, q⟩ := h
      unfold frz Fz
      exact ⟨rfl, a, vs, e1, n a (by rw [e2]; exact List.mem_singleton.mpr rfl), .inl e3, FzT.step st _ _ q⟩
    | fz => rw [frz_fz _ _ h.2]; exact Fz.step st _ _ h.2
    | scr => rw [frz_fz _ _ h.2]; exact Fz.step st _ _ h.2
  | obj w c fs =>
    cases w with
    | own =>
      obtain ⟨a, dx, vs, e1, e2, e3, q⟩ := h
      unfold frz Fz
      rw [frzF_fz _ _ q]
      exact ⟨rfl, a, dx, vs, e1, n a (by rw [e2]; exact List.mem_singleton.mpr rfl), e3, FzF.step st _ _ q⟩
    | fz => rw [frz_fz _ _ h.2]; exact Fz.step st _ _ h.2
    | scr => rw [frz_fz _ _ h.2]; exact Fz.step st _ _ h.2
  | _ => rw [frz_fz _ _ h.2]; exact Fz.step st _ _ h.2
theorem KL.freeze {T' : AP} (s : ∀ a, T' a → T a) : ∀ {kvs : List (Key × List D)} {ws : List (Key × V)} {f : List Addr}, (∀ a ∈ f, ¬ T' a) → KL L H T kvs ws f → FzK L H T' (kvs.map fun p => (p.1, .lst .fz p.2)) ws
  | [], _, _, _, h => by
    rw [List.map_nil]
    unfold FzK
    exact h.1
  | (x, xs) :: r, _, _, n, h => by
    obtain ⟨b, vs, ws', f', rfl, rfl, e, z, q⟩ := h
    rw [List.map_cons]
    unfold FzK
    refine ⟨.ref b, ws', rfl, ?_, KL.freeze s (fun a m => n a (List.mem_cons_of_mem _ m)) q⟩
    unfold Fz
    have nb := n b List.mem_cons_self
    exact ⟨(fun z => nomatch z), b, vs, rfl, .inl ⟨nb, .inl e⟩, fun _ => ⟨nb, e⟩, .inl (.inl e), Fzs.step (Frz.sub s) _ _ z⟩
theorem FO.freeze {T' : AP} (s : ∀ a, T' a → T a) : ∀ {fs : List (Nat × D)} {ws : List (Str × V)} {f : List Addr}, (∀ a ∈ f, ¬ T' a) → FO L H T fs ws f → FzF L H T' (frzF fs) ws
  | [], _, _, _, h => by
    unfold frzF FzF
    exact h.1
  | (x, d) :: r, _, _, n, h => by
    obtain ⟨v, ws', f1, f2, rfl, rfl, z, q⟩ := h
    unfold frzF FzF
    exact ⟨v, ws', rfl, z.freeze s (fun a m => n a (List.mem_append_left _ m)), FO.freeze s (fun a m => n a (List.mem_append_right _ m)) q⟩
theorem Rep.freeze {d : D} {v : V} {f : List Addr} (h : Rep L H T d v f) (s : ∀ a, T' a → T a) (n : ∀ a ∈ f, ¬ T' a) : Fz L H T' (frz d) v := by
  cases d with
  | dls kvs =>
    obtain ⟨a, kws, f', e1, e2, e3, q⟩ := h
    unfold frz Fz
    exact ⟨rfl, a, kws, e1, n a (by rw [e2]; exact List.mem_cons_self), .inl e3, KL.freeze s (fun b m => n b (by rw [e2]; exact List.mem_cons_of_mem _ m)) q⟩
  | obn c fs =>
    obtain ⟨a, dx, ws, f', e1, e2, e3, q⟩ := h
    unfold frz Fz
    exact ⟨rfl, a, dx, ws, e1, n a (by rw [e2]; exact List.mem_cons_self), e3, FO.freeze s (fun b m => n b (by rw [e2]; exact List.mem_cons_of_mem _ m)) q⟩
  | _ => exact Rep1.freeze h s n
theorem Rep.not_lck {d : D} {v : V} {f : List Addr} (h : Rep L H T d v f) : isLck d = false := by
  cases d with
  | und => have := h.2; unfold Fz at this; exact this.elim
  | _ => rfl

/-! ### a dict is locked, unlocked -/
def isDO : HO → Prop
  | .dK _ => True | .dT _ => True | _ => False
/-- the same but for locks -/
def Lks (H H' : Hp) : Prop := ∀ a o, H a = some o → H' a = some o ∨ ∃ u od, isDO u ∧ ((o = u ∧ H' a = some (.frz od u)) ∨ (o = .frz od u ∧ H' a = some u))
section
variable (l : Lks H H')
include l
theorem Lks.at {a : Addr} {o : HO} (e : H a = some o) (n : ∀ u, isDO u → o ≠ u ∧ ∀ od, o ≠ .frz od u) : H' a = some o := by
  rcases l a o e with q | ⟨u, od, du, q | q⟩
  · exact q
  · exact absurd q.1 (n u du).1
  · exact absurd q.1 ((n u du).2 od)
theorem Lks.lst {a : Addr} {vs : List V} (e : H a = some (.lst vs)) : H' a = some (.lst vs) := l.at e fun u du => ⟨by rintro rfl; exact du, fun _ z => nomatch z⟩
theorem Lks.tup {a : Addr} {vs : List V} (e : H a = some (.tup vs)) : H' a = some (.tup vs) := l.at e fun u du => ⟨by rintro rfl; exact du, fun _ z => nomatch z⟩
theorem Lks.ins {a : Addr} {c : Addr} {dx : Addr} {ws : List (Str × V)} (e : H a = some (.ins c dx ws)) : H' a = some (.ins c dx ws) := l.at e fun u du => ⟨by rintro rfl; exact du, fun _ z => nomatch z⟩
theorem Lks.flst {a : Addr} {od : Obj} {vs : List V} (e : H a = some (.frz od (.lst vs))) : H' a = some (.frz od (.lst vs)) := l.at e fun u du => ⟨by rintro rfl; exact du, fun _ z => by cases z; exact du⟩
theorem Lks.rdl {a : Addr} {vs : List V} (r : Rd H a (.lst vs)) : Rd H' a (.lst vs) := by
  rcases r with r | ⟨o, r⟩
  · exact .inl (l.lst r)
  · exact .inr ⟨o, l.flst r⟩
theorem Lks.rdd {a : Addr} {u : HO} (du : isDO u) (r : Rd H a u) : Rd H' a u := by
  rcases r with r | ⟨o, r⟩
  · rcases l a _ r with q | ⟨u', od, du', q | q⟩
    · exact .inl q
    · rw [q.1]; exact .inr ⟨od, q.2⟩
    · rw [q.1] at du; exact du.elim
  · rcases l a _ r with q | ⟨u', od, du', q | q⟩
    · exact .inr ⟨o, q⟩
    · rw [← q.1] at du'; exact du'.elim
    · have e := q.1
      cases e
      exact .inl q.2
mutual
theorem Fz.lks : ∀ (d : D) (v : V), Fz L H T d v → Fz L H' T d v
  | .und, _, h => by unfold Fz at h; exact h.elim
  | .non, _, h => by unfold Fz at h ⊢; exact h
  | .bl _, _, h => by unfold Fz at h ⊢; exact h
  | .int _, _, h => by unfold Fz at h ⊢; exact h
  | .str _, _, h => by unfold Fz at h ⊢; exact h
  | .lst w xs, v, h => by
    unfold Fz at h ⊢
    obtain ⟨e, a, vs, ev, n, x, r, q⟩ := h
    exact ⟨e, a, vs, ev, n.imp (fun z => ⟨z.1, l.rdl z.2⟩) id, fun z => ⟨(x z).1, l.lst (x z).2⟩, r.imp l.rdl id, Fzs.lks xs vs q⟩
  | .tup xs, v, h => by
    unfold Fz at h ⊢
    obtain ⟨a, vs, ev, n, r, q⟩ := h
    exact ⟨a, vs, ev, n, l.tup r, Fzs.lks xs vs q⟩
  | .dct w kvs, v, h => by
    unfold Fz at h ⊢
    obtain ⟨e, a, vs, ev, n, r, q⟩ := h
    exact ⟨e, a, vs, ev, n, l.rdd trivial r, FzK.lks kvs vs q⟩
  | .dtt w kvs, v, h => by
    unfold Fz at h ⊢
    obtain ⟨e, a, vs, ev, n, r, q⟩ := h
    exact ⟨e, a, vs, ev, n, l.rdd trivial r, FzT.lks kvs vs q⟩
  | .obj w c fs, v, h => by
    unfold Fz at h ⊢
    obtain ⟨e, a, dx, ws, ev, n, r, q⟩ := h
    exact ⟨e, a, dx, ws, ev, n, l.ins r, FzF.lks fs ws q⟩
  | .dls _, _, h => by unfold Fz at h; exact h.elim
  | .obn _ _, _, h => by unfold Fz at h; exact h.elim
theorem Fzs.lks : ∀ (ds : List D) (vs : List V), Fzs L H T ds vs → Fzs L H' T ds vs
  | [], _, h => by unfold Fzs at h ⊢; exact h
  | d :: ds, vs, h => by
    unfold Fzs at h ⊢
    obtain ⟨v, r, e, h1, h2⟩ := h
    exact ⟨v, r, e, Fz.lks d v h1, Fzs.lks ds r h2⟩
theorem FzK.lks : ∀ (ds : List (Key × D)) (vs : List (Key × V)), FzK L H T ds vs → FzK L H' T ds vs
  | [], _, h => by unfold FzK at h ⊢; exact h
  | (k, d) :: ds, vs, h => by
    unfold FzK at h ⊢
    obtain ⟨v, r, e, h1, h2⟩ := h
    exact ⟨v, r, e, Fz.lks d v h1, FzK.lks ds r h2⟩
theorem FzT.lks : ∀ (ds : List (List Key × D)) (vs : List (List Key × V)), FzT L H T ds vs → FzT L H' T ds vs
  | [], _, h => by unfold FzT at h ⊢; exact h
  | (k, d) :: ds, vs, h => by
    unfold FzT at h ⊢
    obtain ⟨v, r, e, h1, h2⟩ := h
    exact ⟨v, r, e, Fz.lks d v h1, FzT.lks ds r h2⟩
theorem FzF.lks : ∀ (ds : List (Nat × D)) (vs : List (Str × V)), FzF L H T ds vs → FzF L H' T ds vs
  | [], _, h => by unfold FzF at h ⊢; exact h
  | (k, d) :: ds, vs, h => by
    unfold FzF at h ⊢
    obtain ⟨v, r, e, h1, h2⟩ := h
    exact ⟨v, r, e, Fz.lks d v h1, FzF.lks ds r h2⟩
end
variable (kT : ∀ a o, T a → H a = some o → H' a = some o)
include kT
theorem Rep1.lks {d : D} {v : V} {f : List Addr} (hf : ∀ a ∈ f, T a) (h : Rep1 L H T d v f) : Rep1 L H' T d v f := by
  cases d with
  | lst w xs =>
    cases w with
    | own =>
      obtain ⟨a, vs, e1, e2, e3, q⟩ := h
      exact ⟨a, vs, e1, e2, l.lst e3, Fzs.lks l _ _ q⟩
    | fz => exact ⟨h.1, Fz.lks l _ _ h.2⟩
    | scr => exact ⟨h.1, Fz.lks l _ _ h.2⟩
  | dct w xs =>
    cases w with
    | own =>
      obtain ⟨a, vs, e1, e2, e3, q⟩ := h
      exact ⟨a, vs, e1, e2, kT a _ (hf a (by rw [e2]; exact List.mem_singleton.mpr rfl)) e3, FzK.lks l _ _ q⟩
    | fz => exact ⟨h.1, Fz.lks l _ _ h.2⟩
    | scr => exact ⟨h.1, Fz.lks l _ _ h.2⟩
  | dtt w xs =>
    cases w with
    | own =>
      obtain ⟨a, vs, e1, e2, e3, q⟩ := h
      exact ⟨a, vs, e1, e2, kT a _ (hf a (by rw [e2]; exact List.mem_singleton.mpr rfl)) e3, FzT.lks l _ _ q⟩
    | fz => exact ⟨h.1, Fz.lks l _ _ h.2⟩
    | scr => exact ⟨h.1, Fz.lks l _ _ h.2⟩
  | obj w c xs =>
    cases w with
    | own =>
      obtain ⟨a, dx, vs, e1, e2, e3, q⟩ := h
      exact ⟨a, dx, vs, e1, e2, l.ins e3, FzF.lks l _ _ q⟩
    | fz => exact ⟨h.1, Fz.lks l _ _ h.2⟩
    | scr => exact ⟨h.1, Fz.lks l _ _ h.2⟩
  | _ => exact ⟨h.1, Fz.lks l _ _ h.2⟩
theorem KL.lks : ∀ {kvs : List (Key × List D)} {ws : List (Key × V)} {f : List Addr}, KL L H T kvs ws f → KL L H' T kvs ws f
  | [], _, _, h => h
  | (x, xs) :: r, _, _, h => by
    obtain ⟨b, vs, ws', f', rfl, rfl, e, z, q⟩ := h
    exact ⟨b, vs, ws', f', rfl, rfl, l.lst e, Fzs.lks l _ _ z, KL.lks q⟩
theorem FO.lks : ∀ {fs : List (Nat × D)} {ws : List (Str × V)} {f : List Addr}, (∀ a ∈ f, T a) → FO L H T fs ws f → FO L H' T fs ws f
  | [], _, _, _, h => h
  | (n, d) :: r, _, _, k, h => by
    obtain ⟨v, ws', f1, f2, rfl, rfl, z, q⟩ := h
    exact ⟨v, ws', f1, f2, rfl, rfl, z.lks l kT (fun a m => k a (List.mem_append_left _ m)), FO.lks (fun a m => k a (List.mem_append_right _ m)) q⟩
theorem Rep.lks {d : D} {v : V} {f : List Addr} (hf : ∀ a ∈ f, T a) (h : Rep L H T d v f) : Rep L H' T d v f := by
  cases d with
  | dls kvs =>
    obtain ⟨a, kws, f', e1, e2, e3, q⟩ := h
    exact ⟨a, kws, f', e1, e2, kT a _ (hf a (by rw [e2]; exact List.mem_cons_self)) e3, KL.lks l kT q⟩
  | obn c fs =>
    obtain ⟨a, dx, ws, f', e1, e2, e3, q⟩ := h
    exact ⟨a, dx, ws, f', e1, e2, l.ins e3, FO.lks l kT (fun b m => hf b (by rw [e2]; exact List.mem_cons_of_mem _ m)) q⟩
  | _ => exact Rep1.rep (Rep1.lks l kT hf (h.one rfl)) rfl
end
/-! ### the slots -/
def SlotR (L : LC) (H : Hp) (T : AP) (d : D) (o : Option V) (f : List Addr) : Prop :=
  match d with
  | .und => f = []
  | d => ∃ v, o = some v ∧ Rep L H T d v f
theorem SlotR.mk {d : D} {v : V} {f : List Addr} (h : Rep L H T d v f) : SlotR L H T d (some v) f := by
  cases d with
  | und => have := h.2; unfold Fz at this; exact this.elim
  | _ => exact ⟨v, rfl, h⟩
theorem SlotR.rep {d : D} {o : Option V} {f : List Addr} (h : SlotR L H T d o f) (n : isLck d = false) : ∃ v, o = some v ∧ Rep L H T d v f := by
  cases d with
  | und => cases n
  | _ => exact h
theorem SlotR.step {d : D} {o : Option V} {f : List Addr} (s : Frz H T H' T') (k : ∀ a o, a ∈ f → H a = some o → H' a = some o) (h : SlotR L H T d o f) : SlotR L H' T' d o f := by
  cases d with
  | und => exact h
  | _ =>
    obtain ⟨v, e, r⟩ := h
    exact ⟨v, e, Rep.step s k r⟩
def EnvR (L : LC) (H : Hp) (T : AP) : List D → L2.St → List Addr → Prop
  | [], σ, fe => σ = [] ∧ fe = []
  | d :: ρ, σ, fe => ∃ o σ' f fe', σ = o :: σ' ∧ fe = f ++ fe' ∧ SlotR L H T d o f ∧ EnvR L H T ρ σ' fe'
theorem EnvR.len : ∀ {ρ : List D} {σ : L2.St} {fe : List Addr}, EnvR L H T ρ σ fe → σ.length = ρ.length
  | [], _, _, h => by rw [h.1]; rfl
  | d :: ρ, _, _, h => by
    obtain ⟨o, σ', f, fe', rfl, rfl, _, q⟩ := h
    show σ'.length + 1 = ρ.length + 1
    rw [q.len]
theorem EnvR.step (s : Frz H T H' T') : ∀ {ρ : List D} {σ : L2.St} {fe : List Addr}, (∀ a o, a ∈ fe → H a = some o → H' a = some o) → EnvR L H T ρ σ fe → EnvR L H' T' ρ σ fe
  | [], _, _, _, h => h
  | d :: ρ, _, _, k, h => by
    obtain ⟨o, σ', f, fe', rfl, rfl, h1, h2⟩ := h
    exact ⟨o, σ', f, fe', rfl, rfl, h1.step s fun a o' m => k a o' (List.mem_append_left _ m), h2.step s fun a o' m => k a o' (List.mem_append_right _ m)⟩
/-- one slot alone -/
theorem EnvR.focus : ∀ {ρ : List D} {σ : L2.St} {fe : List Addr} {i : Nat} {d : D}, EnvR L H T ρ σ fe → ρ[i]? = some d →
    ∃ o l f r, σ[i]? = some o ∧ fe = l ++ (f ++ r) ∧ SlotR L H T d o f ∧
      ∀ H' T' d' o' f', Frz H T H' T' → (∀ a u, a ∈ l ∨ a ∈ r → H a = some u → H' a = some u) → SlotR L H' T' d' o' f' → EnvR L H' T' (ρ.set i d') (σ.set i o') (l ++ (f' ++ r))
  | [], _, _, i, _, _, e => by simp at e
  | x :: ρ, _, _, 0, d, h, e => by
    obtain ⟨o, σ', f, fe', rfl, rfl, h1, h2⟩ := h
    have e' : x = d := by simpa using e
    subst e'
    refine ⟨o, [], f, fe', rfl, rfl, h1, fun H' T' d' o' f' s k q => ?_⟩
    exact ⟨o', σ', f', fe', rfl, rfl, q, h2.step s fun a u m => k a u (.inr m)⟩
  | x :: ρ, _, _, i + 1, d, h, e => by
    obtain ⟨o, σ', f, fe', rfl, rfl, h1, h2⟩ := h
    have e' : ρ[i]? = some d := by simpa using e
    obtain ⟨o2, l, f2, r, e1, rfl, q1, q2⟩ := h2.focus e'
    refine ⟨o2, f ++ l, f2, r, by simpa using e1, by rw [List.append_assoc], q1, fun H' T' d' o' f' s k q => ?_⟩
    refine ⟨o, σ'.set i o', f, l ++ (f' ++ r), rfl, by rw [List.append_assoc], h1.step s fun a u m => k a u (.inl (List.mem_append_left _ m)), q2 H' T' d' o' f' s (fun a u m => k a u ?_) q⟩
    rcases m with m | m
    · exact .inl (List.mem_append_right _ m)
    · exact .inr m

/-! ### states -/
def Rv (fe f : List Addr) (G : AP) : AP := fun a => a ∈ fe ∨ a ∈ f ∨ G a
structure SR (L : LC) (ρ : List D) (σ : L2.St) (H : Hp) (fe f : List Addr) (G : AP) : Prop where
  env : EnvR L H (Rv fe f G) ρ σ fe
  nd : (fe ++ f).Nodup
  dj : ∀ a, a ∈ fe ∨ a ∈ f → ¬ G a
  dm : ∀ a, Rv fe f G a → H a ≠ none
/-- what stays through a step -/
structure Stp (H : Hp) (fe f : List Addr) (G : AP) (H' : Hp) (fe' f' : List Addr) : Prop where
  fr : Frz H (Rv fe f G) H' (Rv fe' f' G)
  kg : ∀ a o, G a → H a = some o → H' a = some o
theorem Stp.refl {fe f : List Addr} {G : AP} : Stp H fe f G H fe f := ⟨Frz.refl, fun _ _ _ e => e⟩
theorem Stp.trans {H1 H2 : Hp} {fe f fe1 f1 fe2 f2 : List Addr} {G : AP} (a : Stp H fe f G H1 fe1 f1) (b : Stp H1 fe1 f1 G H2 fe2 f2) : Stp H fe f G H2 fe2 f2 :=
  ⟨a.fr.trans b.fr, fun c o g e => b.kg c o g (a.kg c o g e)⟩
theorem Rv_hide (fe f f' : List Addr) (G : AP) : Rv fe f' (fun a => a ∈ f ∨ G a) = Rv fe (f ++ f') G := by
  funext a
  apply propext
  unfold Rv
  simp only [List.mem_append]
  constructor
  · rintro (h | h | h | h)
    · exact .inl h
    · exact .inr (.inl (.inr h))
    · exact .inr (.inl (.inl h))
    · exact .inr (.inr h)
  · rintro (h | (h | h) | h)
    · exact .inl h
    · exact .inr (.inr (.inl h))
    · exact .inr (.inl h)
    · exact .inr (.inr (.inr h))
section
variable {ρ ρ' : List D} {σ : L2.St} {fe f f' fe' : List Addr} {G : AP}
/-- the values held so far are hidden while we go on -/
theorem SR.hide (s : SR L ρ σ H fe f G) : SR L ρ σ H fe [] (fun a => a ∈ f ∨ G a) := by
  have e := Rv_hide fe f [] G
  rw [List.append_nil] at e
  refine ⟨by rw [e]; exact s.env, ?_, fun a h => ?_, fun a h => s.dm a (by rw [← e]; exact h)⟩
  · rw [List.append_nil]
    exact (List.nodup_append.mp s.nd).1
  · rcases h with h | h
    · rintro (q | q)
      · exact (List.nodup_append.mp s.nd).2.2 a h a q rfl
      · exact s.dj a (.inl h) q
    · cases h
theorem SR.unhide (s : SR L ρ σ H fe f' (fun a => a ∈ f ∨ G a)) (nd : f.Nodup) (dj : ∀ a ∈ f, ¬ G a) : SR L ρ σ H fe (f ++ f') G := by
  refine ⟨by rw [← Rv_hide]; exact s.env, ?_, fun a h => ?_, fun a h => s.dm a (by rw [Rv_hide]; exact h)⟩
  · obtain ⟨n1, n2, n3⟩ := List.nodup_append.mp s.nd
    refine List.nodup_append.mpr ⟨n1, List.nodup_append.mpr ⟨nd, n2, fun a h b h' e => s.dj b (.inr h') (.inl (e ▸ h))⟩, fun a h b h' e => ?_⟩
    rcases List.mem_append.mp h' with q | q
    · exact s.dj a (.inl h) (.inl (e ▸ q))
    · exact n3 a h b q e
  · rcases h with h | h
    · exact fun g => s.dj a (.inl h) (.inr g)
    · rcases List.mem_append.mp h with q | q
      · exact dj a q
      · exact fun g => s.dj a (.inr q) (.inr g)
theorem Stp.hide {H1 : Hp} {fe1 f1 : List Addr} (b : Stp H fe [] (fun a => a ∈ f ∨ G a) H1 fe1 f1) : Stp H fe f G H1 fe1 (f ++ f1) := by
  refine ⟨?_, fun a o g e => b.kg a o (.inr g) e⟩
  have e := Rv_hide fe f [] G
  rw [List.append_nil] at e
  have q := b.fr
  rw [e, Rv_hide] at q
  exact q
/-- fewer values held -/
theorem SR.drop (s : SR L ρ σ H fe f G) (h : ∀ a ∈ f', a ∈ f) (nd : f'.Nodup) : SR L ρ σ H fe f' G := by
  have sub : ∀ a, Rv fe f' G a → Rv fe f G a := fun a q => by
    rcases q with q | q | q
    · exact .inl q
    · exact .inr (.inl (h a q))
    · exact .inr (.inr q)
  refine ⟨s.env.step (Frz.sub sub) fun _ _ _ e => e, ?_, fun a q => s.dj a (q.imp_right (h a)), fun a q => s.dm a (sub a q)⟩
  obtain ⟨n1, n2, n3⟩ := List.nodup_append.mp s.nd
  exact List.nodup_append.mpr ⟨n1, nd, fun a q b q' e => n3 a q b (h b q') e⟩
theorem Stp.drop (h : ∀ a ∈ f', a ∈ f) : Stp H fe f G H fe f' :=
  ⟨Frz.sub fun a q => by
    rcases q with q | q | q
    · exact .inl q
    · exact .inr (.inl (h a q))
    · exact .inr (.inr q), fun _ _ _ e => e⟩
/-- a new object that is ours -/
theorem SR.alloc {p : Addr} {o : HO} (s : SR L ρ σ H fe f G) (n : H p = none) : SR L ρ σ (upd H p o) fe (p :: f) G ∧ Stp H fe f G (upd H p o) fe (p :: f) := by
  have k : ∀ a u, H a = some u → upd H p o a = some u := fun a u e => by rw [upd_ne (ne_of_none e n)]; exact e
  have np : ¬ Rv fe f G p := fun q => s.dm p q n
  have fr : Frz H (Rv fe f G) (upd H p o) (Rv fe (p :: f) G) := fun a u na e => ⟨k a u e, fun q => by
    rcases q with q | q | q
    · exact na (.inl q)
    · rcases List.mem_cons.mp q with z | z
      · rw [z, n] at e; cases e
      · exact na (.inr (.inl z))
    · exact na (.inr (.inr q))⟩
  refine ⟨⟨s.env.step fr fun a u _ e => k a u e, ?_, fun a q => ?_, fun a q => ?_⟩, fr, fun a u _ e => k a u e⟩
  · obtain ⟨n1, n2, n3⟩ := List.nodup_append.mp s.nd
    refine List.nodup_append.mpr ⟨n1, List.nodup_cons.mpr ⟨fun q => np (.inr (.inl q)), n2⟩, fun a q b q' e => ?_⟩
    rcases List.mem_cons.mp q' with z | z
    · exact np (.inl (by rw [← z, ← e]; exact q))
    · exact n3 a q b z e
  · rcases q with q | q
    · exact s.dj a (.inl q)
    · rcases List.mem_cons.mp q with z | z
      · rw [z]; exact fun g => np (.inr (.inr g))
      · exact s.dj a (.inr z)
  · by_cases e : a = p
    · rw [e, upd_same]; exact fun z => nomatch z
    · rw [upd_ne e]
      refine s.dm a ?_
      rcases q with q | q | q
      · exact .inl q
      · rcases List.mem_cons.mp q with z | z
        · exact absurd z e
        · exact .inr (.inl z)
      · exact .inr (.inr q)
/-- a new object that is shared at once -/
theorem SR.lay {p : Addr} {o : HO} (s : SR L ρ σ H fe f G) (n : H p = none) : SR L ρ σ (upd H p o) fe f G ∧ Stp H fe f G (upd H p o) fe f := by
  obtain ⟨s1, t1⟩ := s.alloc (o := o) n
  exact ⟨s1.drop (fun a m => List.mem_cons_of_mem _ m) (List.nodup_append.mp s.nd).2.1, t1.trans (Stp.drop fun a m => List.mem_cons_of_mem _ m)⟩
/-- a slot is read -/
theorem SR.get {i : Nat} {d : D} (s : SR L ρ σ H fe f G) (e : ρ[i]? = some d) (n : isLck d = false) : ∃ v f1, σ[i]? = some (some v) ∧ Rep L H (Rv fe f G) d v f1 ∧ ∀ a ∈ f1, a ∈ fe := by
  obtain ⟨o, l, f1, r, e1, rfl, q0, _⟩ := s.env.focus e
  obtain ⟨v, rfl, q⟩ := q0.rep n
  exact ⟨v, f1, e1, q, fun a m => List.mem_append_right _ (List.mem_append_left _ m)⟩
/-- a slot's own object is given up -/
theorem SR.give {i : Nat} {d : D} (s : SR L ρ σ H fe f G) (e : ρ[i]? = some d) (n : isLck d = false) :
    ∃ v fe', σ[i]? = some (some v) ∧ SR L (ρ.set i (frz d)) σ H fe' f G ∧ Stp H fe f G H fe' f ∧ Fz L H (Rv fe' f G) (frz d) v ∧ ∀ a ∈ fe', a ∈ fe := by
  obtain ⟨o, l, f1, r, e1, rfl, q0, go⟩ := s.env.focus e
  obtain ⟨v, rfl, q⟩ := q0.rep n
  have hlen : i < σ.length := by
    rcases Nat.lt_or_ge i σ.length with h | h
    · exact h
    · rw [List.getElem?_eq_none h] at e1; cases e1
  have sub : ∀ a, Rv (l ++ r) f G a → Rv (l ++ (f1 ++ r)) f G a := fun a q => by
    rcases q with q | q | q
    · rcases List.mem_append.mp q with q | q
      · exact .inl (List.mem_append_left _ q)
      · exact .inl (List.mem_append_right _ (List.mem_append_right _ q))
    · exact .inr (.inl q)
    · exact .inr (.inr q)
  obtain ⟨n1, n2, n3⟩ := List.nodup_append.mp s.nd
  obtain ⟨m1, m2, m3⟩ := List.nodup_append.mp n1
  obtain ⟨k1, k2, k3⟩ := List.nodup_append.mp m2
  have nf : ∀ a ∈ f1, ¬ Rv (l ++ r) f G a := fun a m q => by
    rcases q with q | q | q
    · rcases List.mem_append.mp q with q | q
      · exact m3 a q a (List.mem_append_left _ m) rfl
      · exact k3 a m a q rfl
    · exact n3 a (List.mem_append_right _ (List.mem_append_left _ m)) a q rfl
    · exact s.dj a (.inl (List.mem_append_right _ (List.mem_append_left _ m))) q
  have z := q.freeze sub nf
  have g := go H (Rv (l ++ r) f G) (frz d) (some v) [] (Frz.sub sub) (fun _ _ _ e => e) (SlotR.mk (Rep.of_fz z))
  have es : σ.set i (some v) = σ := by
    apply List.ext_getElem?
    intro j
    by_cases hj : i = j
    · subst hj
      rw [List.getElem?_set_self hlen, e1]
    · rw [List.getElem?_set_ne hj]
  rw [es, List.nil_append] at g
  refine ⟨v, l ++ r, e1, ⟨g, ?_, fun a q => ?_, fun a q => s.dm a (sub a q)⟩, ⟨Frz.sub sub, fun _ _ _ e => e⟩, z, fun a q => (List.mem_append.mp q).elim (fun q => List.mem_append_left _ q) fun q => List.mem_append_right _ (List.mem_append_right _ q)⟩
  · refine List.nodup_append.mpr ⟨List.nodup_append.mpr ⟨m1, k2, fun a q b q' e => m3 a q b (List.mem_append_right _ q') e⟩, n2, fun a q b q' e => n3 a ?_ b q' e⟩
    rcases List.mem_append.mp q with q | q
    · exact List.mem_append_left _ q
    · exact List.mem_append_right _ (List.mem_append_right _ q)
  · rcases q with q | q
    · refine s.dj a (.inl ?_)
      rcases List.mem_append.mp q with q | q
      · exact List.mem_append_left _ q
      · exact List.mem_append_right _ (List.mem_append_right _ q)
    · exact s.dj a (.inr q)
/-- a held value is stored into a slot -/
theorem SR.store {i : Nat} {d d₀ : D} {v : V} (s : SR L ρ σ H fe f G) (e : ρ[i]? = some d₀) (q : Rep L H (Rv fe f G) d v f) :
    ∃ fe', SR L (ρ.set i d) (σ.set i (some v)) H fe' [] G ∧ Stp H fe f G H fe' [] := by
  obtain ⟨o, l, f1, r, e1, rfl, _, go⟩ := s.env.focus e
  obtain ⟨n1, n2, n3⟩ := List.nodup_append.mp s.nd
  obtain ⟨m1, m2, m3⟩ := List.nodup_append.mp n1
  obtain ⟨k1, k2, k3⟩ := List.nodup_append.mp m2
  have sub : ∀ a, Rv (l ++ (f ++ r)) [] G a → Rv (l ++ (f1 ++ r)) f G a := fun a q => by
    rcases q with q | q | q
    · rcases List.mem_append.mp q with q | q
      · exact .inl (List.mem_append_left _ q)
      · rcases List.mem_append.mp q with q | q
        · exact .inr (.inl q)
        · exact .inl (List.mem_append_right _ (List.mem_append_right _ q))
    · cases q
    · exact .inr (.inr q)
  have fr : Frz H (Rv (l ++ (f1 ++ r)) f G) H (Rv (l ++ (f ++ r)) [] G) := Frz.sub sub
  refine ⟨l ++ (f ++ r), ⟨go H _ d (some v) f fr (fun _ _ _ e => e) (SlotR.mk (q.step fr fun _ _ _ e => e)), ?_, fun a q => ?_, fun a q => s.dm a (sub a q)⟩, fr, fun _ _ _ e => e⟩
  · rw [List.append_nil]
    refine List.nodup_append.mpr ⟨m1, List.nodup_append.mpr ⟨n2, k2, fun a q b q' e => ?_⟩, fun a q b q' e => ?_⟩
    · exact n3 b (List.mem_append_right _ (List.mem_append_right _ q')) a q e.symm
    · rcases List.mem_append.mp q' with q' | q'
      · exact n3 a (List.mem_append_left _ q) b q' e
      · exact m3 a q b (List.mem_append_right _ q') e
  · rcases q with q | q
    · rcases List.mem_append.mp q with q | q
      · exact s.dj a (.inl (List.mem_append_left _ q))
      · rcases List.mem_append.mp q with q | q
        · exact s.dj a (.inr q)
        · exact s.dj a (.inl (List.mem_append_right _ (List.mem_append_right _ q)))
    · cases q
/-- a slot's own object is changed in its place -/
theorem SR.mut {i : Nat} {d d' : D} {a : Addr} {u o : HO} (s : SR L ρ σ H fe f G) (e : ρ[i]? = some d) (ea : σ[i]? = some (some (.ref a))) (ow : isOwn1 d = true) (hu : H a = some u)
    (q : Rep L H (Rv fe f G) d (.ref a) [a] → Rep L (upd H a o) (Rv fe f G) d' (.ref a) [a]) :
    SR L (ρ.set i d') σ (upd H a o) fe f G ∧ Stp H fe f G (upd H a o) fe f := by
  obtain ⟨o1, l, f1, r, e1, rfl, q0, go⟩ := s.env.focus e
  have nl : isLck d = false := by
    cases d with
    | lst w xs => cases w <;> first | rfl | cases ow
    | dct w xs => cases w <;> first | rfl | cases ow
    | dtt w xs => cases w <;> first | rfl | cases ow
    | obj w c xs => cases w <;> first | rfl | cases ow
    | _ => cases ow
  obtain ⟨v, rfl, q1⟩ := q0.rep nl
  rw [ea] at e1
  have ev : v = .ref a := (Option.some.inj (Option.some.inj e1)).symm
  subst ev
  have ef : f1 = [a] := by
    cases d with
    | lst w xs => cases w <;> first | (obtain ⟨b, _, e1, e2, _⟩ := q1; cases e1; exact e2) | cases ow
    | dct w xs => cases w <;> first | (obtain ⟨b, _, e1, e2, _⟩ := q1; cases e1; exact e2) | cases ow
    | dtt w xs => cases w <;> first | (obtain ⟨b, _, e1, e2, _⟩ := q1; cases e1; exact e2) | cases ow
    | obj w c xs => cases w <;> first | (obtain ⟨b, _, _, e1, e2, _⟩ := q1; cases e1; exact e2) | cases ow
    | _ => cases ow
  subst ef
  obtain ⟨n1, n2, n3⟩ := List.nodup_append.mp s.nd
  obtain ⟨m1, m2, m3⟩ := List.nodup_append.mp n1
  obtain ⟨k1, k2, k3⟩ := List.nodup_append.mp m2
  have ma : a ∈ l ++ ([a] ++ r) := List.mem_append_right _ (List.mem_append_left _ (List.mem_singleton.mpr rfl))
  have fr : Frz H (Rv (l ++ ([a] ++ r)) f G) (upd H a o) (Rv (l ++ ([a] ++ r)) f G) := fun b w n e => ⟨by
    rw [upd_ne (fun z => n (.inl (by rw [z]; exact ma)))]; exact e, n⟩
  have hlen : i < σ.length := by
    rcases Nat.lt_or_ge i σ.length with h | h
    · exact h
    · rw [List.getElem?_eq_none h] at ea; cases ea
  have es : σ.set i (some (.ref a)) = σ := by
    apply List.ext_getElem?
    intro j
    by_cases hj : i = j
    · subst hj
      rw [List.getElem?_set_self hlen, ea]
    · rw [List.getElem?_set_ne hj]
  have g := go (upd H a o) (Rv (l ++ ([a] ++ r)) f G) d' (some (.ref a)) [a] fr (fun b w m e => by
    rw [upd_ne]
    · exact e
    · rintro rfl
      rcases m with m | m
      · exact m3 b m b (List.mem_append_left _ (List.mem_singleton.mpr rfl)) rfl
      · exact k3 b (List.mem_singleton.mpr rfl) b m rfl) (SlotR.mk (q q1))
  rw [es] at g
  refine ⟨⟨g, s.nd, s.dj, fun b t => ?_⟩, fr, fun b w g e => ?_⟩
  · by_cases z : b = a
    · rw [z, upd_same]; exact fun z => nomatch z
    · rw [upd_ne z]; exact s.dm b t
  · rw [upd_ne (fun z => s.dj a (.inl ma) (by rw [← z]; exact g))]; exact e
/-! ### a lock, for the slots -/
theorem EnvR.lks {H' : Hp} {T : AP} (l : Lks H H') (kT : ∀ a o, T a → H a = some o → H' a = some o) : ∀ {ρ : List D} {σ : L2.St} {fe : List Addr}, (∀ a ∈ fe, T a) → EnvR L H T ρ σ fe → EnvR L H' T ρ σ fe
  | [], _, _, _, h => h
  | d :: ρ, _, _, k, h => by
    obtain ⟨o, σ', f, fe', rfl, rfl, h1, h2⟩ := h
    refine ⟨o, σ', f, fe', rfl, rfl, ?_, EnvR.lks l kT (fun a m => k a (List.mem_append_right _ m)) h2⟩
    cases d with
    | und => exact h1
    | _ =>
      obtain ⟨v, e, r⟩ := h1
      exact ⟨v, e, Rep.lks l kT (fun a m => k a (List.mem_append_left _ m)) r⟩
theorem lks_lock {d : Addr} {u : HO} {od : Obj} (hd : H d = some u) (du : isDO u) : Lks H (upd H d (.frz od u)) := fun a o e => by
  by_cases z : a = d
  · subst z
    rw [hd] at e
    cases e
    exact .inr ⟨u, od, du, .inl ⟨rfl, upd_same⟩⟩
  · exact .inl (by rw [upd_ne z]; exact e)
theorem lks_unlock {d : Addr} {u : HO} {od : Obj} (hd : H d = some (.frz od u)) (du : isDO u) : Lks H (upd H d u) := fun a o e => by
  by_cases z : a = d
  · subst z
    rw [hd] at e
    cases e
    exact .inr ⟨u, od, du, .inr ⟨rfl, upd_same⟩⟩
  · exact .inl (by rw [upd_ne z]; exact e)
theorem SR.relock {d : Addr} {o : HO} (s : SR L ρ σ H fe f G) (l : Lks H (upd H d o)) (n : ¬ Rv fe f G d) : SR L ρ σ (upd H d o) fe f G := by
  have ne : ∀ a, Rv fe f G a → a ≠ d := fun a q z => n (by rw [← z]; exact q)
  refine ⟨s.env.lks l (fun a o q e => by rw [upd_ne (ne a q)]; exact e) fun a m => .inl m, s.nd, s.dj, fun a q => by rw [upd_ne (ne a q)]; exact s.dm a q⟩
theorem Stp.unlock {H' : Hp} {fe' f' : List Addr} {d : Addr} {u : HO} {od : Obj} (t : Stp (upd H d (.frz od u)) fe f G H' fe' f') (hd : H d = some u) (n : ¬ Rv fe f G d) : Stp H fe f G (upd H' d u) fe' f' := by
  refine ⟨fun a o na e => ?_, fun a o g e => ?_⟩
  · by_cases z : a = d
    · subst z
      rw [hd] at e
      cases e
      exact ⟨upd_same, (t.fr a (.frz od u) n upd_same).2⟩
    · have q := t.fr a o na (by rw [upd_ne z]; exact e)
      exact ⟨by rw [upd_ne z]; exact q.1, q.2⟩
  · have z : a ≠ d := fun z => n (.inr (.inr (by rw [← z]; exact g)))
    rw [upd_ne z]
    exact t.kg a o g (by rw [upd_ne z]; exact e)
theorem Stp.locked {H' : Hp} {fe' f' : List Addr} {d : Addr} {u : HO} {od : Obj} (t : Stp (upd H d (.frz od u)) fe f G H' fe' f') (n : ¬ Rv fe f G d) : H' d = some (.frz od u) ∧ ¬ Rv fe' f' G d := t.fr d _ n upd_same
end
end
end TL

namespace TL
open PySem PySem.Spec PyProof.Rows L2

structure Nm where
  fn : Nat → Str
  me : Nat → Nat × Str
  cl : Nat → Str
  fd : Nat → Str
  ex : Nat → Str
  cn : Nat → Str
/-- the names, what they mean, where the classes stand -/
structure Pm where
  nm : Nm
  T : Tbl
  ca : Nat → Addr
  xa : Nat → Addr
  ar : Nat → Nat
abbrev Pm.L (e : Pm) (K : PySem.W.Frag) : LC := ⟨K, e.ca, e.nm.fd⟩

/-- the values of some parameters -/
def pickV (ms : List Nat) (vs : List V) : L2.St := ms.map fun i => vs[i]?
/-- a def's promise: what the interpreter says -/
def spM (L : LC) (xa : Nat → Addr) (ms : List Nat) (n : Nat) (F : List D → FR) : Sp := fun vs H Q E => vs.length = n ∧ ∃ ds fe G, SR L ds (vs.map some) H fe [] G ∧ ds.all (fun d => !isLck d) = true ∧
  match F ds with
  | .ok ds' r => ∀ v H' fe' f', SR L ds' (pickV ms vs) H' fe' f' G → Rep L H' (Rv fe' f' G) r v f' → Stp H fe [] G H' fe' f' → Q v H'
  | .exn c ds' => ∀ H' fe', SR L ds' (pickV ms vs) H' fe' [] G → Stp H fe [] G H' fe' [] → E (.ref (xa c)) none H'
  | .stuck => False

/-! ### what an expression's value is -/
section
variable (e : Pm) (X : Cx) (W : WX)
/-- what is wanted behind: of a value, of an exception -/
def Done (σ : L2.St) (H : Hp) (fe : List Addr) (G : AP) (ρ' : List D) (d : D) (Q : VK) : Prop :=
  ∀ v H' fe' f', SR (e.L X.K) ρ' σ H' fe' f' G → Rep (e.L X.K) H' (Rv fe' f' G) d v f' → Stp H fe [] G H' fe' f' → Q v H'
def Flew (σ : L2.St) (H : Hp) (fe : List Addr) (G : AP) (c : Nat) (ρ' : List D) : Prop :=
  ∀ H' fe', SR (e.L X.K) ρ' σ H' fe' [] G → Stp H fe [] G H' fe' [] → W (.ref (e.xa c)) none σ H'
def EndE (σ : L2.St) (H : Hp) (fe : List Addr) (G : AP) (r : ER) (Q : VK) : Prop :=
  match r with
  | .ok ρ' d => Done e X σ H fe G ρ' d Q
  | .exn c ρ' => Flew e X W σ H fe G c ρ'
  | .stuck => False
def tE (ie : IE) : TE := fun σ H Q => ∃ ρ fe G, SR (e.L X.K) ρ σ H fe [] G ∧ EndE e X W σ H fe G (evE e.T ie ρ) Q
def tT (ie : IE) : L2.TT := fun σ H Q => tE e X W ie σ H fun v H' => ∃ b, v = .bl b ∧ Q b H'
/-- an operand: a name is read as it stands -/
def tO (ie : IE) : TE :=
  match ie with
  | .var i => tVar i
  | ie => tE e X W ie
def tAs : List IE → TA
  | [] => tNil
  | ie :: es => tCons (tO e X W ie) (tAs es)
/-- escaping items -/
def tIs : List IE → TA
  | [] => tNil
  | ie :: es => tCons (tE e X W ie) (tIs es)
end

section
variable {e : Pm} {X : Cx} {W : WX} {σ : L2.St} {H : Hp} {fe : List Addr} {G : AP} {ρ : List D}

/-- the operands' values: a name's is its slot's -/
def ArgR (L : LC) (H : Hp) (T : AP) (σ : L2.St) : List IE → List D → List V → List Addr → Prop
  | [], ds, vs, f => ds = [] ∧ vs = [] ∧ f = []
  | ie :: es, ds, vs, f => ∃ d r v vs', ds = d :: r ∧ vs = v :: vs' ∧ match isVar ie with
    | some i => σ[i]? = some (some v) ∧ ArgR L H T σ es r vs' f
    | none => ∃ f1 f2, f = f1 ++ f2 ∧ Rep L H T d v f1 ∧ ArgR L H T σ es r vs' f2
theorem ArgR.step {L : LC} {H H' : Hp} {T T' : AP} (s : Frz H T H' T') : ∀ {es : List IE} {ds : List D} {vs : List V} {f : List Addr}, (∀ a o, a ∈ f → H a = some o → H' a = some o) → ArgR L H T σ es ds vs f → ArgR L H' T' σ es ds vs f
  | [], _, _, _, _, h => h
  | ie :: es, _, _, f, k, h => by
    unfold ArgR at h ⊢
    obtain ⟨d, r, v, vs', e1, e2, q⟩ := h
    refine ⟨d, r, v, vs', e1, e2, ?_⟩
    cases hv : isVar ie with
    | some i =>
      simp only [hv] at q ⊢
      exact ⟨q.1, ArgR.step s k q.2⟩
    | none =>
      simp only [hv] at q ⊢
      obtain ⟨f1, f2, e3, q1, q2⟩ := q
      subst e3
      exact ⟨f1, f2, rfl, q1.step s (fun a o m => k a o (List.mem_append_left _ m)), ArgR.step s (fun a o m => k a o (List.mem_append_right _ m)) q2⟩

def EndB (e : Pm) (X : Cx) (W : WX) (σ : L2.St) (H : Hp) (fe : List Addr) (G : AP) (es : List IE) (r : EsR) (Q : List V → Hp → Prop) : Prop :=
  match r with
  | .ok ρ' ds => ∀ vs H' fe' f', SR (e.L X.K) ρ' σ H' fe' f' G → ArgR (e.L X.K) H' (Rv fe' f' G) σ es ds vs f' → Stp H fe [] G H' fe' f' → Q vs H'
  | .exn c ρ' => Flew e X W σ H fe G c ρ'
  | .stuck => False

theorem Stp.keepf {H' : Hp} {f f' fe' : List Addr} (t : Stp H fe [] (fun a => a ∈ f ∨ G a) H' fe' f') : ∀ a o, a ∈ f → H a = some o → H' a = some o := fun a o m q => t.kg a o (.inl m) q

/-- the operands, from the left -/
theorem evB_ok : ∀ (es : List IE) (ρ : List D) (H : Hp) (fe : List Addr) (G : AP) (Q : List V → Hp → Prop), SR (e.L X.K) ρ σ H fe [] G → EndB e X W σ H fe G es (evB e.T es ρ) Q → tAs e X W es σ H Q
  | [], ρ, H, fe, G, Q, s, h => by
    unfold evB EndB at h
    exact h [] H fe [] s ⟨rfl, rfl, rfl⟩ Stp.refl
  | ie :: es, ρ, H, fe, G, Q, s, h => by
    show tO e X W ie σ H fun x H1 => tAs e X W es σ H1 fun xs H2 => Q (x :: xs) H2
    by_cases hv : ∃ i, ie = .var i
    · obtain ⟨i, rfl⟩ := hv
      unfold evB at h
      split at h
      · exact h.elim
      · rename_i hl
        have hd : ∃ d, ρ[i]? = some d ∧ isLck d = false := by
          cases q : ρ[i]? with
          | none => rw [List.getD_eq_getElem?_getD, q] at hl; exact absurd rfl hl
          | some d => rw [List.getD_eq_getElem?_getD, q] at hl; exact ⟨d, rfl, Bool.eq_false_iff.mpr hl⟩
        obtain ⟨d, hd, nl⟩ := hd
        obtain ⟨v, f1, e1, _, _⟩ := s.get hd nl
        refine ⟨v, e1, evB_ok es ρ H fe G _ s ?_⟩
        cases q : evB e.T es ρ with
        | ok ρ2 ds =>
          rw [q] at h
          intro vs H' fe' f' s' r t
          exact h (v :: vs) H' fe' f' s' ⟨_, _, v, vs, rfl, rfl, e1, r⟩ t
        | exn c ρ2 => rw [q] at h; exact h
        | stuck => rw [q] at h; exact h
    · have hn : isVar ie = none := by
        cases ie <;> first | rfl | exact absurd ⟨_, rfl⟩ hv
      have ho : tO e X W ie = tE e X W ie := by
        cases ie <;> first | rfl | exact absurd ⟨_, rfl⟩ hv
      have hb : evB e.T (ie :: es) ρ = (match evE e.T ie ρ with
        | .ok ρ1 d => if isLck d then .stuck else match evB e.T es ρ1 with
          | .ok ρ2 ds => .ok ρ2 (d :: ds)
          | .exn c ρ2 => .exn c ρ2
          | .stuck => .stuck
        | .exn c ρ1 => .exn c ρ1
        | .stuck => .stuck) := by
        cases ie <;> first | exact absurd ⟨_, rfl⟩ hv | ((conv => lhs; unfold evB) <;> rfl)
      rw [ho]
      rw [hb] at h
      refine ⟨ρ, fe, G, s, ?_⟩
      cases q : evE e.T ie ρ with
      | stuck => rw [q] at h; exact h
      | exn c ρ1 => rw [q] at h; exact h
      | ok ρ1 d =>
        rw [q] at h
        dsimp only at h
        split at h
        · exact h.elim
        · intro v H1 fe1 f1 s1 r1 t1
          refine evB_ok es ρ1 H1 fe1 (fun a => a ∈ f1 ∨ G a) _ s1.hide ?_
          have nd1 : f1.Nodup := (List.nodup_append.mp s1.nd).2.1
          have dj1 : ∀ a ∈ f1, ¬ G a := fun a m => s1.dj a (.inr m)
          cases q2 : evB e.T es ρ1 with
          | stuck => rw [q2] at h; exact h
          | exn c ρ2 =>
            rw [q2] at h
            intro H2 fe2 s2 t2
            have s2' := s2.unhide nd1 dj1
            rw [List.append_nil] at s2'
            have t2' := Stp.hide t2
            rw [List.append_nil] at t2'
            exact h H2 fe2 (s2'.drop (fun _ m => nomatch m) List.nodup_nil) ((t1.trans t2').trans (Stp.drop (fun _ m => nomatch m)))
          | ok ρ2 ds =>
            rw [q2] at h
            intro vs H2 fe2 f2 s2 r2 t2
            have s2' := s2.unhide nd1 dj1
            have t2' := Stp.hide t2
            refine h (v :: vs) H2 fe2 (f1 ++ f2) s2' ?_ (t1.trans t2')
            refine ⟨d, ds, v, vs, rfl, rfl, ?_⟩
            rw [hn]
            refine ⟨f1, f2, rfl, ?_, ?_⟩
            · exact r1.step t2'.fr (fun a o m q => t2.keepf a o m q)
            · rw [← Rv_hide]; exact r2

/-- the first operand's value when it has just been reckoned -/
def firstD (T : Tbl) (ie : IE) (ρ : List D) : Option D :=
  match ie with
  | .var i => ρ[i]?
  | ie => match evE T ie ρ with
    | .ok _ d => some d
    | _ => none
theorem evBr_ok (P : V → Hp → Prop) (ie : IE) (es : List IE) (ρ : List D) (H : Hp) (fe : List Addr) (G : AP) (Q : List V → Hp → Prop) (s : SR (e.L X.K) ρ σ H fe [] G)
    (hP : ∀ d v H1 fe1 f1 f, firstD e.T ie ρ = some d → Rep (e.L X.K) H1 (Rv fe1 f1 G) d v f → P v H1)
    (h : EndB e X W σ H fe G (ie :: es) (evB e.T (ie :: es) ρ) Q) : tO e X W ie σ H fun x H1 => P x H1 ∧ tAs e X W es σ H1 fun vs H2 => Q (x :: vs) H2 := by
  by_cases hv : ∃ i, ie = .var i
  · obtain ⟨i, rfl⟩ := hv
    unfold evB at h
    split at h
    · exact h.elim
    · rename_i hl
      have hd : ∃ d, ρ[i]? = some d ∧ isLck d = false := by
        cases q : ρ[i]? with
        | none => rw [List.getD_eq_getElem?_getD, q] at hl; exact absurd rfl hl
        | some d => rw [List.getD_eq_getElem?_getD, q] at hl; exact ⟨d, rfl, Bool.eq_false_iff.mpr hl⟩
      obtain ⟨d, hd, nl⟩ := hd
      obtain ⟨v, f1, e1, rep, _⟩ := s.get hd nl
      refine ⟨v, e1, hP d v H fe [] f1 hd rep, evB_ok es ρ H fe G _ s ?_⟩
      cases q : evB e.T es ρ with
      | ok ρ2 ds =>
        rw [q] at h
        intro vs H' fe' f' s' r t
        exact h (v :: vs) H' fe' f' s' ⟨_, _, v, vs, rfl, rfl, e1, r⟩ t
      | exn c ρ2 => rw [q] at h; exact h
      | stuck => rw [q] at h; exact h
  · have hn : isVar ie = none := by
      cases ie <;> first | rfl | exact absurd ⟨_, rfl⟩ hv
    have ho : tO e X W ie = tE e X W ie := by
      cases ie <;> first | rfl | exact absurd ⟨_, rfl⟩ hv
    have hf : firstD e.T ie ρ = (match evE e.T ie ρ with | .ok _ d => some d | _ => none) := by
      cases ie <;> first | rfl | exact absurd ⟨_, rfl⟩ hv
    have hb : evB e.T (ie :: es) ρ = (match evE e.T ie ρ with
      | .ok ρ1 d => if isLck d then .stuck else match evB e.T es ρ1 with
        | .ok ρ2 ds => .ok ρ2 (d :: ds)
        | .exn c ρ2 => .exn c ρ2
        | .stuck => .stuck
      | .exn c ρ1 => .exn c ρ1
      | .stuck => .stuck) := by
      cases ie <;> first | exact absurd ⟨_, rfl⟩ hv | ((conv => lhs; unfold evB) <;> rfl)
    rw [ho]
    rw [hb] at h
    refine ⟨ρ, fe, G, s, ?_⟩
    cases q : evE e.T ie ρ with
    | stuck => rw [q] at h; exact h
    | exn c ρ1 => rw [q] at h; exact h
    | ok ρ1 d =>
      rw [q] at h hf
      dsimp only at h
      split at h
      · exact h.elim
      · intro v H1 fe1 f1 s1 r1 t1
        refine ⟨hP d v H1 fe1 f1 f1 hf r1, evB_ok es ρ1 H1 fe1 (fun a => a ∈ f1 ∨ G a) _ s1.hide ?_⟩
        have nd1 : f1.Nodup := (List.nodup_append.mp s1.nd).2.1
        have dj1 : ∀ a ∈ f1, ¬ G a := fun a m => s1.dj a (.inr m)
        cases q2 : evB e.T es ρ1 with
        | stuck => rw [q2] at h; exact h
        | exn c ρ2 =>
          rw [q2] at h
          intro H2 fe2 s2 t2
          have s2' := s2.unhide nd1 dj1
          rw [List.append_nil] at s2'
          have t2' := Stp.hide t2
          rw [List.append_nil] at t2'
          exact h H2 fe2 (s2'.drop (fun _ m => nomatch m) List.nodup_nil) ((t1.trans t2').trans (Stp.drop (fun _ m => nomatch m)))
        | ok ρ2 ds =>
          rw [q2] at h
          intro vs H2 fe2 f2 s2 r2 t2
          have s2' := s2.unhide nd1 dj1
          have t2' := Stp.hide t2
          refine h (v :: vs) H2 fe2 (f1 ++ f2) s2' ?_ (t1.trans t2')
          refine ⟨d, ds, v, vs, rfl, rfl, ?_⟩
          rw [hn]
          refine ⟨f1, f2, rfl, ?_, ?_⟩
          · exact r1.step t2'.fr (fun a o m q => t2.keepf a o m q)
          · rw [← Rv_hide]; exact r2

/-- the operands as they are read at the end -/
def RdL (L : LC) (H : Hp) (T : AP) : List D → List V → Prop
  | [], vs => vs = []
  | d :: ds, vs => ∃ v r f, vs = v :: r ∧ Rep L H T d v f ∧ RdL L H T ds r
theorem rdL_of {L : LC} {ρ' : List D} {H' : Hp} {fe' f0 : List Addr} (s : SR L ρ' σ H' fe' f0 G) : ∀ {es : List IE} {ds : List D} {vs : List V} {f : List Addr}, ArgR L H' (Rv fe' f0 G) σ es ds vs f → (lentB es ds ρ').any isLck = false → RdL L H' (Rv fe' f0 G) (lentB es ds ρ') vs
  | [], _, _, _, h, _ => by
    obtain ⟨rfl, rfl, rfl⟩ := h
    unfold lentB RdL
    rfl
  | ie :: es, _, _, f, h, n => by
    unfold ArgR at h
    obtain ⟨d, r, v, vs', rfl, rfl, q⟩ := h
    by_cases hv : ∃ i, ie = .var i
    · obtain ⟨i, rfl⟩ := hv
      have q' : σ[i]? = some (some v) ∧ ArgR L H' (Rv fe' f0 G) σ es r vs' f := q
      unfold lentB at n ⊢
      rw [List.any_cons, Bool.or_eq_false_iff] at n
      have hd : ∃ d, ρ'[i]? = some d ∧ ρ'.getD i .und = d := by
        cases z : ρ'[i]? with
        | none => rw [List.getD_eq_getElem?_getD, z] at n; exact absurd n.1 (by decide)
        | some d => exact ⟨d, rfl, by rw [List.getD_eq_getElem?_getD, z]; rfl⟩
      obtain ⟨d', hd1, hd2⟩ := hd
      rw [hd2] at n ⊢
      obtain ⟨v', f1, e1, rep, _⟩ := s.get hd1 n.1
      rw [q'.1] at e1
      cases e1
      exact ⟨v, vs', f1, rfl, rep, rdL_of s q'.2 n.2⟩
    · have hn : isVar ie = none := by
        cases ie <;> first | rfl | exact absurd ⟨_, rfl⟩ hv
      have hb : lentB (ie :: es) (d :: r) ρ' = d :: lentB es r ρ' := by
        cases ie <;> first | rfl | exact absurd ⟨_, rfl⟩ hv
      rw [hn] at q
      obtain ⟨f1, f2, rfl, q1, q2⟩ := q
      rw [hb] at n ⊢
      rw [List.any_cons, Bool.or_eq_false_iff] at n
      exact ⟨v, vs', f1, rfl, q1, rdL_of s q2 n.2⟩

/-! ### items of a display -/
def EndI (e : Pm) (X : Cx) (W : WX) (σ : L2.St) (H : Hp) (fe : List Addr) (G : AP) (r : EsR) (Q : List V → Hp → Prop) : Prop :=
  match r with
  | .ok ρ' ds => ∀ vs H' fe', SR (e.L X.K) ρ' σ H' fe' [] G → Fzs (e.L X.K) H' (Rv fe' [] G) ds vs → Stp H fe [] G H' fe' [] → Q vs H'
  | .exn c ρ' => Flew e X W σ H fe G c ρ'
  | .stuck => False
/-- a value given up -/
theorem SR.shed {L : LC} {ρ' : List D} {H' : Hp} {fe' f' : List Addr} {d : D} {v : V} (s : SR L ρ' σ H' fe' f' G) (r : Rep L H' (Rv fe' f' G) d v f') :
    SR L ρ' σ H' fe' [] G ∧ Stp H' fe' f' G H' fe' [] ∧ Fz L H' (Rv fe' [] G) (frz d) v := by
  refine ⟨s.drop (fun _ m => nomatch m) List.nodup_nil, Stp.drop (fun _ m => nomatch m), ?_⟩
  refine r.freeze (fun a q => ?_) (fun a m q => ?_)
  · rcases q with q | q | q
    · exact .inl q
    · cases q
    · exact .inr (.inr q)
  · rcases q with q | q | q
    · exact (List.nodup_append.mp s.nd).2.2 a q a m rfl
    · cases q
    · exact s.dj a (.inr m) q
theorem evEs_ok : ∀ (es : List IE) (ρ : List D) (H : Hp) (fe : List Addr) (Q : List V → Hp → Prop), SR (e.L X.K) ρ σ H fe [] G → EndI e X W σ H fe G (evEs e.T es ρ) Q → tIs e X W es σ H Q
  | [], ρ, H, fe, Q, s, h => by
    unfold evEs at h
    exact h [] H fe s (by unfold Fzs; rfl) Stp.refl
  | ie :: es, ρ, H, fe, Q, s, h => by
    show tE e X W ie σ H fun x H1 => tIs e X W es σ H1 fun xs H2 => Q (x :: xs) H2
    unfold evEs at h
    refine ⟨ρ, fe, G, s, ?_⟩
    cases q : evE e.T ie ρ with
    | stuck => rw [q] at h; exact h
    | exn c ρ1 => rw [q] at h; exact h
    | ok ρ1 d =>
      rw [q] at h
      dsimp only at h
      split at h
      · exact h.elim
      · intro v H1 fe1 f1 s1 r1 t1
        obtain ⟨s1', t1', z1⟩ := s1.shed r1
        refine evEs_ok es ρ1 H1 fe1 _ s1' ?_
        cases q2 : evEs e.T es ρ1 with
        | stuck => rw [q2] at h; exact h
        | exn c ρ2 =>
          rw [q2] at h
          intro H2 fe2 s2 t2
          exact h H2 fe2 s2 ((t1.trans t1').trans t2)
        | ok ρ2 ds =>
          rw [q2] at h
          intro vs H2 fe2 s2 r2 t2
          refine h (v :: vs) H2 fe2 s2 ?_ ((t1.trans t1').trans t2)
          unfold Fzs
          exact ⟨v, vs, rfl, z1.step t2.fr, r2⟩
end
end TL

namespace TL
open PySem PySem.Spec PyProof.Rows L2

/-! ### what a value's kind says -/
section
variable {L : LC} {H : Hp} {T : AP} {v : V} {f : List Addr}
theorem Rep.int {i : Int} (h : Rep L H T (.int i) v f) : v = .int i := by
  have := h.2; unfold Fz at this; exact this
theorem Rep.bl {b : Bool} (h : Rep L H T (.bl b) v f) : v = .bl b := by
  have := h.2; unfold Fz at this; exact this
theorem Rep.str {x : Str} (h : Rep L H T (.str x) v f) : v = .str x := by
  have := h.2; unfold Fz at this; exact this
theorem Rep.non (h : Rep L H T .non v f) : v = .non := by
  have := h.2; unfold Fz at this; exact this
theorem Rep.und (h : Rep L H T .und v f) : False := by
  have := h.2; unfold Fz at this; exact this
theorem Rep.lst {w : W} {xs : List D} (h : Rep L H T (.lst w xs) v f) : ∃ a vs, v = .ref a ∧ SqL L.K H a vs ∧ Fzs L H T xs vs := by
  cases w with
  | own => obtain ⟨a, vs, e, _, r, q⟩ := h; exact ⟨a, vs, e, .inl (.inl r), q⟩
  | fz => have := h.2; unfold Fz at this; obtain ⟨_, a, vs, e, _, _, r, q⟩ := this; exact ⟨a, vs, e, r, q⟩
  | scr => have := h.2; unfold Fz at this; obtain ⟨_, a, vs, e, _, _, r, q⟩ := this; exact ⟨a, vs, e, r, q⟩
theorem Rep.lstX {w : W} {xs : List D} (h : Rep L H T (.lst w xs) v f) (n : w ≠ .scr) : ∃ a vs, v = .ref a ∧ H a = some (.lst vs) ∧ Fzs L H T xs vs := by
  cases w with
  | own => obtain ⟨a, vs, e, _, r, q⟩ := h; exact ⟨a, vs, e, r, q⟩
  | fz => have := h.2; unfold Fz at this; obtain ⟨_, a, vs, e, _, x, _, q⟩ := this; exact ⟨a, vs, e, (x rfl).2, q⟩
  | scr => exact absurd rfl n
theorem Rep.tup {xs : List D} (h : Rep L H T (.tup xs) v f) : ∃ a vs, v = .ref a ∧ H a = some (.tup vs) ∧ Fzs L H T xs vs := by
  have := h.2; unfold Fz at this; obtain ⟨a, vs, e, _, r, q⟩ := this
  exact ⟨a, vs, e, r, q⟩
theorem Rep.dct {w : W} {kvs : List (Key × D)} (h : Rep L H T (.dct w kvs) v f) : ∃ a kws, v = .ref a ∧ Rd H a (.dK kws) ∧ FzK L H T kvs kws := by
  cases w with
  | own => obtain ⟨a, vs, e, _, r, q⟩ := h; exact ⟨a, vs, e, .inl r, q⟩
  | fz => have := h.2; unfold Fz at this; obtain ⟨_, a, vs, e, _, r, q⟩ := this; exact ⟨a, vs, e, r, q⟩
  | scr => have := h.2; unfold Fz at this; cases this.1
theorem Rep.dtt {w : W} {kvs : List (List Key × D)} (h : Rep L H T (.dtt w kvs) v f) : ∃ a kws, v = .ref a ∧ Rd H a (.dT kws) ∧ FzT L H T kvs kws := by
  cases w with
  | own => obtain ⟨a, vs, e, _, r, q⟩ := h; exact ⟨a, vs, e, .inl r, q⟩
  | fz => have := h.2; unfold Fz at this; obtain ⟨_, a, vs, e, _, r, q⟩ := this; exact ⟨a, vs, e, r, q⟩
  | scr => have := h.2; unfold Fz at this; cases this.1
theorem Rep.obj {w : W} {c : Nat} {fs : List (Nat × D)} (h : Rep L H T (.obj w c fs) v f) : ∃ a dx ws, v = .ref a ∧ H a = some (.ins (L.ca c) dx ws) ∧ FzF L H T fs ws := by
  cases w with
  | own => obtain ⟨a, dx, vs, e, _, r, q⟩ := h; exact ⟨a, dx, vs, e, r, q⟩
  | fz => have := h.2; unfold Fz at this; obtain ⟨_, a, dx, vs, e, _, r, q⟩ := this; exact ⟨a, dx, vs, e, r, q⟩
  | scr => have := h.2; unfold Fz at this; cases this.1

theorem Fzs.len : ∀ {ds : List D} {vs : List V}, Fzs L H T ds vs → vs.length = ds.length
  | [], _, h => by unfold Fzs at h; rw [h]; rfl
  | d :: ds, _, h => by
    unfold Fzs at h
    obtain ⟨v, r, rfl, _, q⟩ := h
    show r.length + 1 = ds.length + 1
    rw [q.len]
theorem Fzs.get : ∀ {ds : List D} {vs : List V} {i : Nat} {d : D}, Fzs L H T ds vs → ds[i]? = some d → ∃ v, vs[i]? = some v ∧ Fz L H T d v
  | [], _, i, _, _, e => by simp at e
  | x :: ds, _, 0, d, h, e => by
    unfold Fzs at h
    obtain ⟨v, r, rfl, q, _⟩ := h
    have : x = d := by simpa using e
    exact ⟨v, rfl, by rw [← this]; exact q⟩
  | x :: ds, _, i + 1, d, h, e => by
    unfold Fzs at h
    obtain ⟨v, r, rfl, _, q⟩ := h
    obtain ⟨u, e1, q1⟩ := q.get (i := i) (d := d) (by simpa using e)
    exact ⟨u, by simpa using e1, q1⟩
theorem Fzs.atI {ds : List D} {vs : List V} {i : Int} {d : D} (h : Fzs L H T ds vs) (e : atI ds i = some d) : ∃ v, L2.atI vs i = some v ∧ Fz L H T d v := by
  unfold L2.atI at e ⊢
  rw [h.len]
  cases q : ixN ds.length i with
  | none => rw [q] at e; cases e
  | some j =>
    rw [q] at e
    obtain ⟨v, e1, q1⟩ := h.get (i := j) (d := d) e
    exact ⟨v, e1, q1⟩
theorem Fzs.append : ∀ {ds es : List D} {vs us : List V}, Fzs L H T ds vs → Fzs L H T es us → Fzs L H T (ds ++ es) (vs ++ us)
  | [], _, _, _, h, q => by unfold Fzs at h; rw [h]; exact q
  | d :: ds, es, _, us, h, q => by
    unfold Fzs at h
    obtain ⟨v, r, rfl, h1, h2⟩ := h
    show Fzs L H T (d :: (ds ++ es)) (v :: (r ++ us))
    unfold Fzs
    exact ⟨v, _, rfl, h1, h2.append q⟩
theorem Fzs.take : ∀ (n : Nat) {ds : List D} {vs : List V}, Fzs L H T ds vs → Fzs L H T (ds.take n) (vs.take n)
  | 0, _, _, _ => by simp [Fzs]
  | n + 1, [], _, h => by unfold Fzs at h; rw [h]; simp [Fzs]
  | n + 1, d :: ds, _, h => by
    unfold Fzs at h
    obtain ⟨v, r, rfl, h1, h2⟩ := h
    show Fzs L H T (d :: ds.take n) (v :: r.take n)
    unfold Fzs
    exact ⟨v, _, rfl, h1, h2.take n⟩
theorem Fzs.drop : ∀ (n : Nat) {ds : List D} {vs : List V}, Fzs L H T ds vs → Fzs L H T (ds.drop n) (vs.drop n)
  | 0, _, _, h => h
  | n + 1, [], _, h => by unfold Fzs at h; rw [h]; simp [Fzs]
  | n + 1, d :: ds, _, h => by
    unfold Fzs at h
    obtain ⟨v, r, rfl, h1, h2⟩ := h
    exact h2.drop n
theorem Fzs.cut {ds : List D} {vs : List V} (lo hi : Option Int) (h : Fzs L H T ds vs) : Fzs L H T (cutD ds lo hi) (cutV vs lo hi) := by
  unfold cutD cutV
  rw [h.len]
  exact (h.drop _).take _
theorem Fzs.set : ∀ {ds : List D} {vs : List V} (j : Nat) {d : D} {v : V}, Fzs L H T ds vs → Fz L H T d v → Fzs L H T (ds.set j d) (vs.set j v)
  | [], _, _, _, _, h, _ => by unfold Fzs at h; rw [h]; simp [Fzs]
  | x :: ds, _, 0, d, v, h, q => by
    unfold Fzs at h
    obtain ⟨u, r, rfl, h1, h2⟩ := h
    show Fzs L H T (d :: ds) (v :: r)
    unfold Fzs
    exact ⟨v, r, rfl, q, h2⟩
  | x :: ds, _, j + 1, d, v, h, q => by
    unfold Fzs at h
    obtain ⟨u, r, rfl, h1, h2⟩ := h
    show Fzs L H T (x :: ds.set j d) (u :: r.set j v)
    unfold Fzs
    exact ⟨u, _, rfl, h1, h2.set j q⟩
theorem Fzs.one {d : D} {v : V} (h : Fz L H T d v) : Fzs L H T [d] [v] := by
  unfold Fzs
  exact ⟨v, [], rfl, h, by unfold Fzs; rfl⟩
theorem Fzs.nil : Fzs L H T [] [] := by unfold Fzs; rfl
theorem Fzs.rep {ds : List D} {vs : List V} (h : Fzs L H T ds vs) : ∀ n : Nat, Fzs L H T (repD n ds) (List.replicate n vs).flatten
  | 0 => by unfold repD; exact Fzs.nil
  | n + 1 => by
    unfold repD
    rw [List.replicate_succ, List.replicate_succ, List.flatten_cons, List.flatten_cons]
    exact h.append (h.rep n)
theorem Fzs.dropLast {ds : List D} {vs : List V} (h : Fzs L H T ds vs) : Fzs L H T ds.dropLast vs.dropLast := by
  rw [List.dropLast_eq_take, List.dropLast_eq_take, h.len]
  exact h.take _
theorem Fzs.eraseIdx : ∀ {ds : List D} {vs : List V} (j : Nat), Fzs L H T ds vs → Fzs L H T (ds.eraseIdx j) (vs.eraseIdx j)
  | [], _, _, h => by unfold Fzs at h; rw [h]; simp [Fzs]
  | x :: ds, _, 0, h => by
    unfold Fzs at h
    obtain ⟨u, r, rfl, h1, h2⟩ := h
    exact h2
  | x :: ds, _, j + 1, h => by
    unfold Fzs at h
    obtain ⟨u, r, rfl, h1, h2⟩ := h
    show Fzs L H T (x :: ds.eraseIdx j) (u :: r.eraseIdx j)
    unfold Fzs
    exact ⟨u, _, rfl, h1, h2.eraseIdx j⟩
theorem Fzs.ints : ∀ {ds : List D} {vs : List V} {ns : List Int}, Fzs L H T ds vs → intsD ds = some ns → vs = ns.map V.int
  | [], _, _, h, e => by
    unfold Fzs at h
    unfold intsD at e
    cases e
    exact h
  | d :: ds, _, ns, h, e => by
    unfold Fzs at h
    obtain ⟨v, r, rfl, h1, h2⟩ := h
    cases d with
    | int i =>
      unfold intsD at e
      cases q : intsD ds with
      | none => rw [q] at e; cases e
      | some ms =>
        rw [q] at e
        cases e
        unfold Fz at h1
        rw [h1, h2.ints q]
        rfl
    | _ => unfold intsD at e; cases e
theorem Fzs.of_ints : ∀ (ns : List Int), Fzs L H T (ns.map D.int) (ns.map V.int)
  | [] => Fzs.nil
  | n :: ns => by
    show Fzs L H T (D.int n :: ns.map D.int) (V.int n :: ns.map V.int)
    unfold Fzs
    exact ⟨_, _, rfl, by unfold Fz; rfl, Fzs.of_ints ns⟩

theorem FzK.get : ∀ {kvs : List (Key × D)} {kws : List (Key × V)} (k : Key), FzK L H T kvs kws →
    (dget kvs k = none ∧ valV kws k = none) ∨ ∃ d v, dget kvs k = some d ∧ valV kws k = some v ∧ Fz L H T d v
  | [], _, k, h => by
    unfold FzK at h
    rw [h]
    exact .inl ⟨rfl, rfl⟩
  | (k', d) :: r, _, k, h => by
    unfold FzK at h
    obtain ⟨v, r', rfl, h1, h2⟩ := h
    unfold dget
    by_cases e : k' = k
    · rw [if_pos e, valV_pos (p := (k', v)) e]
      exact .inr ⟨d, v, rfl, rfl, h1⟩
    · rw [if_neg e, valV_neg (p := (k', v)) e]
      exact h2.get k
theorem FzT.get : ∀ {kvs : List (List Key × D)} {kws : List (List Key × V)} (k : List Key), FzT L H T kvs kws →
    (dget kvs k = none ∧ valV kws k = none) ∨ ∃ d v, dget kvs k = some d ∧ valV kws k = some v ∧ Fz L H T d v
  | [], _, k, h => by
    unfold FzT at h
    rw [h]
    exact .inl ⟨rfl, rfl⟩
  | (k', d) :: r, _, k, h => by
    unfold FzT at h
    obtain ⟨v, r', rfl, h1, h2⟩ := h
    unfold dget
    by_cases e : k' = k
    · rw [if_pos e, valV_pos (p := (k', v)) e]
      exact .inr ⟨d, v, rfl, rfl, h1⟩
    · rw [if_neg e, valV_neg (p := (k', v)) e]
      exact h2.get k
theorem FzK.keys : ∀ {kvs : List (Key × D)} {kws : List (Key × V)}, FzK L H T kvs kws → kws.map (·.1) = kvs.map (·.1)
  | [], _, h => by unfold FzK at h; rw [h]; rfl
  | (k', d) :: r, _, h => by
    unfold FzK at h
    obtain ⟨v, r', rfl, h1, h2⟩ := h
    show k' :: r'.map (·.1) = k' :: r.map (·.1)
    rw [h2.keys]
theorem FzT.keys : ∀ {kvs : List (List Key × D)} {kws : List (List Key × V)}, FzT L H T kvs kws → kws.map (·.1) = kvs.map (·.1)
  | [], _, h => by unfold FzT at h; rw [h]; rfl
  | (k', d) :: r, _, h => by
    unfold FzT at h
    obtain ⟨v, r', rfl, h1, h2⟩ := h
    show k' :: r'.map (·.1) = k' :: r.map (·.1)
    rw [h2.keys]
theorem dget_any {L : LC} {H : Hp} {T : AP} {kvs : List (Key × D)} {kws : List (Key × V)} (k : Key) (h : FzK L H T kvs kws) : (kws.any fun kv => decide (kv.1 = k)) = (dget kvs k).isSome := by
  rw [valV_any]
  rcases h.get k with ⟨h1, h2⟩ | ⟨d, v, h1, h2, _⟩ <;> rw [h1, h2] <;> rfl
theorem dgetT_any {L : LC} {H : Hp} {T : AP} {kvs : List (List Key × D)} {kws : List (List Key × V)} (k : List Key) (h : FzT L H T kvs kws) : (kws.any fun kv => decide (kv.1 = k)) = (dget kvs k).isSome := by
  rw [valV_any]
  rcases h.get k with ⟨h1, h2⟩ | ⟨d, v, h1, h2, _⟩ <;> rw [h1, h2] <;> rfl
theorem FzK.mapp : ∀ {kvs : List (Key × D)} {kws : List (Key × V)} (k : Key) {d : D} {v : V}, FzK L H T kvs kws → Fz L H T d v →
    FzK L H T (kvs.map fun p => if p.1 = k then (p.1, d) else p) (kws.map fun kv => if kv.1 = k then (kv.1, v) else kv)
  | [], _, _, _, _, h, _ => by unfold FzK at h; rw [h]; simp [FzK]
  | (k', d') :: r, _, k, d, v, h, q => by
    unfold FzK at h
    obtain ⟨u, r', rfl, h1, h2⟩ := h
    have ih := h2.mapp k q
    rw [List.map_cons, List.map_cons]
    by_cases e : k' = k
    · rw [if_pos e, if_pos e]
      unfold FzK
      exact ⟨v, _, rfl, q, ih⟩
    · rw [if_neg e, if_neg e]
      unfold FzK
      exact ⟨u, _, rfl, h1, ih⟩
theorem FzT.mapp : ∀ {kvs : List (List Key × D)} {kws : List (List Key × V)} (k : List Key) {d : D} {v : V}, FzT L H T kvs kws → Fz L H T d v →
    FzT L H T (kvs.map fun p => if p.1 = k then (p.1, d) else p) (kws.map fun kv => if kv.1 = k then (kv.1, v) else kv)
  | [], _, _, _, _, h, _ => by unfold FzT at h; rw [h]; simp [FzT]
  | (k', d') :: r, _, k, d, v, h, q => by
    unfold FzT at h
    obtain ⟨u, r', rfl, h1, h2⟩ := h
    have ih := h2.mapp k q
    rw [List.map_cons, List.map_cons]
    by_cases e : k' = k
    · rw [if_pos e, if_pos e]
      unfold FzT
      exact ⟨v, _, rfl, q, ih⟩
    · rw [if_neg e, if_neg e]
      unfold FzT
      exact ⟨u, _, rfl, h1, ih⟩
theorem FzK.snoc : ∀ {kvs : List (Key × D)} {kws : List (Key × V)} {k : Key} {d : D} {v : V}, FzK L H T kvs kws → Fz L H T d v → FzK L H T (kvs ++ [(k, d)]) (kws ++ [(k, v)])
  | [], _, _, _, v, h, q => by
    unfold FzK at h
    rw [h]
    show FzK L H T [(_, _)] [(_, _)]
    unfold FzK
    exact ⟨v, [], rfl, q, by unfold FzK; rfl⟩
  | (k', d') :: r, _, _, _, _, h, q => by
    unfold FzK at h
    obtain ⟨u, r', rfl, h1, h2⟩ := h
    rw [List.cons_append, List.cons_append]
    unfold FzK
    exact ⟨u, _, rfl, h1, h2.snoc q⟩
theorem FzT.snoc : ∀ {kvs : List (List Key × D)} {kws : List (List Key × V)} {k : List Key} {d : D} {v : V}, FzT L H T kvs kws → Fz L H T d v → FzT L H T (kvs ++ [(k, d)]) (kws ++ [(k, v)])
  | [], _, _, _, v, h, q => by
    unfold FzT at h
    rw [h]
    show FzT L H T [(_, _)] [(_, _)]
    unfold FzT
    exact ⟨v, [], rfl, q, by unfold FzT; rfl⟩
  | (k', d') :: r, _, _, _, _, h, q => by
    unfold FzT at h
    obtain ⟨u, r', rfl, h1, h2⟩ := h
    rw [List.cons_append, List.cons_append]
    unfold FzT
    exact ⟨u, _, rfl, h1, h2.snoc q⟩
theorem FzK.put {kvs : List (Key × D)} {kws : List (Key × V)} (k : Key) {d : D} {v : V} (h : FzK L H T kvs kws) (q : Fz L H T d v) : FzK L H T (dput kvs k d) (putK kws k v) := by
  unfold dput putK
  rw [dget_any k h]
  by_cases e : (dget kvs k).isSome = true
  · rw [if_pos e, if_pos e]; exact h.mapp k q
  · rw [if_neg e, if_neg e]; exact h.snoc q
theorem FzT.put {kvs : List (List Key × D)} {kws : List (List Key × V)} (k : List Key) {d : D} {v : V} (h : FzT L H T kvs kws) (q : Fz L H T d v) : FzT L H T (dput kvs k d) (putK kws k v) := by
  unfold dput putK
  rw [dgetT_any k h]
  by_cases e : (dget kvs k).isSome = true
  · rw [if_pos e, if_pos e]; exact h.mapp k q
  · rw [if_neg e, if_neg e]; exact h.snoc q
theorem FzK.length {kvs : List (Key × D)} {kws : List (Key × V)} (h : FzK L H T kvs kws) : kws.length = kvs.length := by
  have := congrArg List.length h.keys
  simpa using this
theorem FzT.length {kvs : List (List Key × D)} {kws : List (List Key × V)} (h : FzT L H T kvs kws) : kws.length = kvs.length := by
  have := congrArg List.length h.keys
  simpa using this
theorem FzF.len : ∀ {fs : List (Nat × D)} {ws : List (Str × V)}, FzF L H T fs ws → ws.length = fs.length
  | [], _, h => by unfold FzF at h; rw [h]; rfl
  | (n, d) :: r, _, h => by
    unfold FzF at h
    obtain ⟨v, r', rfl, _, q⟩ := h
    show r'.length + 1 = r.length + 1
    rw [q.len]
theorem keyOf_v {d : D} {k : Key} (h : Rep L H T d v f) (e : keyOf d = some k) : v = kV k := by
  cases d with
  | int i => unfold keyOf at e; cases e; exact h.int
  | str x => unfold keyOf at e; cases e; exact h.str
  | _ => unfold keyOf at e; cases e
theorem keysOf_v : ∀ {ds : List D} {vs : List V} {ks : List Key}, Fzs L H T ds vs → keysOf ds = some ks → vs = ks.map kV
  | [], _, _, h, e => by
    unfold Fzs at h
    unfold keysOf at e
    cases e
    exact h
  | d :: ds, _, ks, h, e => by
    unfold Fzs at h
    obtain ⟨v, r, rfl, h1, h2⟩ := h
    unfold keysOf at e
    cases q : keyOf d with
    | none => rw [q] at e; cases e
    | some k =>
      cases q2 : keysOf ds with
      | none => rw [q, q2] at e; cases e
      | some ks' =>
        rw [q, q2] at e
        cases e
        rw [keyOf_v (Rep.of_fz h1) q, keysOf_v h2 q2]
        rfl
end

/-! ### == of data -/
section
variable {K : PySem.W.Frag} {ca : Nat → Addr} {fn : Nat → Str} {H : Hp} {T : AP}
mutual
theorem toPy_dp : ∀ (d : D) (v : V) (y : PyData), Fz ⟨K, ca, fn⟩ H T d v → toPy d = some y → Dp K H v y
  | .und, _, _, h, _ => by unfold Fz at h; exact h.elim
  | .non, _, _, h, e => by unfold Fz at h; unfold toPy at e; cases e; rw [h]; exact .non
  | .bl b, _, _, h, e => by unfold Fz at h; unfold toPy at e; cases e; rw [h]; exact .bl b
  | .int i, _, _, h, e => by unfold Fz at h; unfold toPy at e; cases e; rw [h]; exact .int i
  | .str x, _, _, h, e => by unfold Fz at h; unfold toPy at e; cases e; rw [h]; exact .str x
  | .lst w xs, v, y, h, e => by
    unfold Fz at h
    obtain ⟨_, a, vs, rfl, _, _, r, q⟩ := h
    unfold toPy at e
    cases z : toPys xs with
    | none => rw [z] at e; cases e
    | some ys =>
      rw [z] at e
      cases e
      exact .lst (r) (toPys_dp xs vs ys q z)
  | .tup xs, v, y, h, e => by
    unfold Fz at h
    obtain ⟨a, vs, rfl, _, r, q⟩ := h
    unfold toPy at e
    cases z : toPys xs with
    | none => rw [z] at e; cases e
    | some ys =>
      rw [z] at e
      cases e
      exact .tup (.inl (.inl r)) (toPys_dp xs vs ys q z)
  | .dct _ _, _, _, _, e => by unfold toPy at e; cases e
  | .dtt _ _, _, _, _, e => by unfold toPy at e; cases e
  | .obj _ _ _, _, _, _, e => by unfold toPy at e; cases e
theorem toPys_dp : ∀ (ds : List D) (vs : List V) (ys : List PyData), Fzs ⟨K, ca, fn⟩ H T ds vs → toPys ds = some ys → DpAll K H vs ys
  | [], _, _, h, e => by unfold Fzs at h; unfold toPys at e; cases e; rw [h]; exact .nil
  | d :: ds, vs, ys, h, e => by
    unfold Fzs at h
    obtain ⟨v, r, rfl, h1, h2⟩ := h
    unfold toPys at e
    cases z : toPy d with
    | none => rw [z] at e; cases e
    | some y =>
      cases z2 : toPys ds with
      | none => rw [z, z2] at e; cases e
      | some ys' =>
        rw [z, z2] at e
        cases e
        exact .cons (toPy_dp d v y h1 z) (toPys_dp ds r ys' h2 z2)
end
theorem rep_dp {d : D} {v : V} {f : List Addr} {y : PyData} (h : Rep ⟨K, ca, fn⟩ H T d v f) (e : toPy d = some y) : Dp K H v y := by
  by_cases n : isOwn d = true
  · cases d with
    | lst w xs =>
      obtain ⟨a, vs, rfl, r, q⟩ := h.lst
      unfold toPy at e
      cases z : toPys xs with
      | none => rw [z] at e; cases e
      | some ys =>
        rw [z] at e
        cases e
        exact .lst r (toPys_dp xs vs ys q z)
    | dct w xs => unfold toPy at e; cases e
    | dtt w xs => unfold toPy at e; cases e
    | obj w c xs => unfold toPy at e; cases e
    | dls _ => unfold toPy at e; cases e
    | obn _ _ => unfold toPy at e; cases e
    | _ => cases n
  · exact toPy_dp d v y (h.fz_of (Bool.eq_false_iff.mpr n)).2 e
theorem eqS_v {L : LC} {a b : D} {v u : V} {f g : List Addr} {r : Bool} (ha : Rep L H T a v f) (hb : Rep L H T b u g) (e : eqS a b = some r) : scal v u = true ∧ decide (v = u) = r := by
  cases a with
  | non =>
    cases ha.non
    cases b with
    | non => cases hb.non; cases e; exact ⟨rfl, by simp⟩
    | int i => cases hb.int; cases e; exact ⟨rfl, by simp⟩
    | bl i => cases hb.bl; cases e; exact ⟨rfl, by simp⟩
    | str i => cases hb.str; cases e; exact ⟨rfl, by simp⟩
    | _ => cases e
  | int i =>
    cases ha.int
    cases b with
    | non => cases hb.non; cases e; exact ⟨rfl, by simp⟩
    | int j => cases hb.int; cases e; exact ⟨rfl, by simp⟩
    | str j => cases hb.str; cases e; exact ⟨rfl, by simp⟩
    | _ => cases e
  | bl i =>
    cases ha.bl
    cases b with
    | non => cases hb.non; cases e; exact ⟨rfl, by simp⟩
    | bl j => cases hb.bl; cases e; exact ⟨rfl, by simp⟩
    | str j => cases hb.str; cases e; exact ⟨rfl, by simp⟩
    | _ => cases e
  | str i =>
    cases ha.str
    cases b with
    | non => cases hb.non; cases e; exact ⟨rfl, by simp⟩
    | int j => cases hb.int; cases e; exact ⟨rfl, by simp⟩
    | bl j => cases hb.bl; cases e; exact ⟨rfl, by simp⟩
    | str j => cases hb.str; cases e; exact ⟨rfl, by simp⟩
    | _ => cases e
  | _ => cases e
theorem inFlat_v {L : LC} {x : D} {v : V} {f : List Addr} (hx : Rep L H T x v f) (fx : flat1 x = true) : ∀ {ds : List D} {vs : List V} {r : Bool}, Fzs L H T ds vs → inFlat x ds = some r → flatV v = true ∧ vs.all flatV = true ∧ inV v vs = r
  | [], _, r, h, e => by
    unfold Fzs at h
    unfold inFlat at e
    cases e
    subst h
    cases x with
    | int i => cases hx.int; exact ⟨rfl, rfl, rfl⟩
    | str i => cases hx.str; exact ⟨rfl, rfl, rfl⟩
    | _ => cases fx
  | d :: ds, _, r, h, e => by
    unfold Fzs at h
    obtain ⟨u, us, rfl, h1, h2⟩ := h
    unfold inFlat at e
    cases z : eqS d x with
    | none => rw [z] at e; cases e
    | some a =>
      cases z2 : inFlat x ds with
      | none => rw [z, z2] at e; cases e
      | some b =>
        rw [z, z2] at e
        cases e
        obtain ⟨q1, q2, q3⟩ := inFlat_v hx fx h2 z2
        have hd := Rep.of_fz h1
        have key : flatV u = true ∧ eqV u v = a := by
          cases x with
          | int i =>
            cases hx.int
            cases d with
            | int j => cases hd.int; unfold eqS at z; cases z; exact ⟨rfl, by unfold eqV; exact Bool.beq_eq_decide_eq _ _⟩
            | str j => cases hd.str; unfold eqS at z; cases z; exact ⟨rfl, by simp [eqV]⟩
            | non => cases hd.non; unfold eqS at z; cases z; exact ⟨rfl, by simp [eqV]⟩
            | _ => unfold eqS at z; cases z
          | str i =>
            cases hx.str
            cases d with
            | int j => cases hd.int; unfold eqS at z; cases z; exact ⟨rfl, by simp [eqV]⟩
            | str j => cases hd.str; unfold eqS at z; cases z; exact ⟨rfl, by unfold eqV; exact Bool.beq_eq_decide_eq _ _⟩
            | non => cases hd.non; unfold eqS at z; cases z; exact ⟨rfl, by simp [eqV]⟩
            | bl j => cases hd.bl; unfold eqS at z; cases z; exact ⟨rfl, by simp [eqV]⟩
            | _ => unfold eqS at z; cases z
          | _ => cases fx
        refine ⟨q1, ?_, ?_⟩
        · rw [List.all_cons, key.1, q2]; rfl
        · unfold inV at q3 ⊢
          rw [List.any_cons, key.2, q3]
end

/-! ### numbers in order -/
theorem sortI_perm (ns : List Int) : (sortI ns).Perm ns := List.mergeSort_perm ns _
theorem sortI_of {a b : List Int} (h : a.Perm b) (ha : a.Pairwise (· ≤ ·)) : a = sortI b := PySem.W.os_sorted_mergeSort h ha
theorem maxI_mem : ∀ (n : Int) (ns : List Int), maxI (n :: ns) ∈ n :: ns ∧ ∀ y ∈ n :: ns, y ≤ maxI (n :: ns)
  | n, [] => ⟨List.mem_singleton.mpr rfl, fun y h => by rw [List.mem_singleton.mp h]; exact Int.le_refl _⟩
  | n, m :: ns => by
    obtain ⟨h1, h2⟩ := maxI_mem m ns
    show max n (maxI (m :: ns)) ∈ n :: m :: ns ∧ ∀ y ∈ n :: m :: ns, y ≤ max n (maxI (m :: ns))
    refine ⟨?_, fun y hy => ?_⟩
    · rcases Int.le_total n (maxI (m :: ns)) with q | q
      · rw [Int.max_eq_right q]; exact List.mem_cons_of_mem _ h1
      · rw [Int.max_eq_left q]; exact List.mem_cons_self
    · rcases List.mem_cons.mp hy with rfl | hy
      · exact Int.le_max_left _ _
      · exact Int.le_trans (h2 y hy) (Int.le_max_right _ _)
theorem minI_mem : ∀ (n : Int) (ns : List Int), minI (n :: ns) ∈ n :: ns ∧ ∀ y ∈ n :: ns, minI (n :: ns) ≤ y
  | n, [] => ⟨List.mem_singleton.mpr rfl, fun y h => by rw [List.mem_singleton.mp h]; exact Int.le_refl _⟩
  | n, m :: ns => by
    obtain ⟨h1, h2⟩ := minI_mem m ns
    show min n (minI (m :: ns)) ∈ n :: m :: ns ∧ ∀ y ∈ n :: m :: ns, min n (minI (m :: ns)) ≤ y
    refine ⟨?_, fun y hy => ?_⟩
    · rcases Int.le_total n (minI (m :: ns)) with q | q
      · rw [Int.min_eq_left q]; exact List.mem_cons_self
      · rw [Int.min_eq_right q]; exact List.mem_cons_of_mem _ h1
    · rcases List.mem_cons.mp hy with rfl | hy
      · exact Int.min_le_left _ _
      · exact Int.le_trans (Int.min_le_right _ _) (h2 y hy)
section
variable {L : LC} {H : Hp} {T : AP}
theorem KL.get : ∀ {kvs : List (Key × List D)} {kws : List (Key × V)} {f : List Addr} (q : Key), KL L H T kvs kws f → (lget q kvs = none ∧ valV kws q = none) ∨ ∃ xs b vs, lget q kvs = some xs ∧ valV kws q = some (.ref b) ∧ b ∈ f ∧ H b = some (.lst vs) ∧ Fzs L H T xs vs
  | [], _, _, q, h => by
    rw [h.1]
    exact .inl ⟨rfl, rfl⟩
  | (k', xs) :: r, _, _, q, h => by
    obtain ⟨b, vs, ws', f', rfl, rfl, e, z, h2⟩ := h
    unfold lget
    by_cases e1 : k' = q
    · rw [if_pos e1, valV_pos (p := (k', V.ref b)) e1]
      exact .inr ⟨xs, b, vs, rfl, rfl, List.mem_cons_self, e, z⟩
    · rw [if_neg e1, valV_neg (p := (k', V.ref b)) e1]
      rcases h2.get q with q1 | ⟨xs', b', vs', h3, h4, h5, h6, h7⟩
      · exact .inl q1
      · exact .inr ⟨xs', b', vs', h3, h4, List.mem_cons_of_mem _ h5, h6, h7⟩
end
end TL

namespace TL
open PySem PySem.Spec PyProof.Rows L2

/-! ### the context of a def's code -/
structure CK where
  N : List Str
  sc : Scope
  fnn : Bool
structure GX (X : Cx) (W : WX) (c : CK) (lv : Nat) : Prop where
  hN : X.N = c.N
  sc : X.env.scope = c.sc
  nd : c.N.Nodup
  calm : X.calm = true
  fnn : c.fnn = true → ∀ x, X.fn x = true
  room : Room lv X.A
  pass : ∀ σ, PassesAt (L2.CX X.prog X.w) X σ (WE W σ)

section
variable {e : Pm} {X : Cx} {W : WX} {c : CK} {lv : Nat}

theorem PE.mk' {ex : Expr} {t : TE} (h : ∀ σ H Q, t σ H Q → ∃ t', PE X ex t' ∧ t' σ H Q) : PE X ex t := ⟨fun pins s σ H Q I q => by
  obtain ⟨t', p, q'⟩ := h σ H Q q
  exact p.run pins s σ H Q I q'⟩
theorem PT.mk' {ex : Expr} {t : TT} (h : ∀ σ H Q, t σ H Q → ∃ t', PT X ex t' ∧ t' σ H Q) : PT X ex t := ⟨fun pins s σ H Q I q => by
  obtain ⟨t', p, q'⟩ := h σ H Q q
  exact p.run pins s σ H Q I q'⟩
theorem PS.mk' {ex : Stmt} {t : TS} (h : ∀ D σ H, t D σ H → ∃ t', PS X ex t' ∧ t' D σ H) : PS X ex t := ⟨fun pins s σ H D I q => by
  obtain ⟨t', p, q'⟩ := h D σ H q
  exact p.run pins s σ H D I q'⟩

/-- the end of an operator: what is wanted, and the state -/
structure Fi (e : Pm) (X : Cx) (σ : L2.St) (H : Hp) (fe : List Addr) (G : AP) (ρ' : List D) (d : D) (Q : VK) (H' : Hp) (fe' f' : List Addr) : Prop where
  dn : Done e X σ H fe G ρ' d Q
  s : SR (e.L X.K) ρ' σ H' fe' f' G
  t : Stp H fe [] G H' fe' f'
section
variable {σ : L2.St} {H H' : Hp} {fe fe' f' : List Addr} {G : AP} {ρ' : List D} {d : D} {Q : VK} {v : V}
theorem Rv_sub {a : Addr} : Rv fe' [] G a → Rv fe' f' G a := fun q => by
  rcases q with q | q | q
  · exact .inl q
  · cases q
  · exact .inr (.inr q)
theorem Fi.sc (F : Fi e X σ H fe G ρ' d Q H' fe' f') (z : Fz (e.L X.K) H' (Rv fe' f' G) d v) : Q v H' :=
  F.dn v H' fe' [] (F.s.drop (fun _ m => nomatch m) List.nodup_nil) (Rep.of_fz (z.step (Frz.sub fun _ => Rv_sub))) (F.t.trans (Stp.drop fun _ m => nomatch m))
theorem Fi.new {xs : List D} {vs : List V} {p : Addr} (F : Fi e X σ H fe G ρ' (.lst .own xs) Q H' fe' f') (z : Fzs (e.L X.K) H' (Rv fe' f' G) xs vs) (n : H' p = none) : Q (.ref p) (upd H' p (.lst vs)) := by
  obtain ⟨s1, t1⟩ := F.s.alloc (o := .lst vs) n
  have dr : Frz (upd H' p (.lst vs)) (Rv fe' (p :: f') G) (upd H' p (.lst vs)) (Rv fe' [p] G) := Frz.sub fun a q => by
    rcases q with q | q | q
    · exact .inl q
    · exact .inr (.inl (by rw [List.mem_singleton.mp q]; exact List.mem_cons_self))
    · exact .inr (.inr q)
  refine F.dn _ _ fe' [p] (s1.drop (fun a m => by rw [List.mem_singleton.mp m]; exact List.mem_cons_self) (List.nodup_cons.mpr ⟨by simp, List.nodup_nil⟩)) ⟨p, vs, rfl, rfl, upd_same, Fzs.step (t1.fr.trans dr) _ _ z⟩ (F.t.trans ⟨t1.fr.trans dr, t1.kg⟩)
theorem Fi.newT {xs : List D} {vs : List V} {p : Addr} (F : Fi e X σ H fe G ρ' (.tup xs) Q H' fe' f') (z : Fzs (e.L X.K) H' (Rv fe' f' G) xs vs) (n : H' p = none) : Q (.ref p) (upd H' p (.tup vs)) := by
  obtain ⟨s1, t1⟩ := F.s.lay (o := .tup vs) n
  have np : ¬ Rv fe' [] G p := fun q => F.s.dm p (Rv_sub q) n
  have dr : Frz (upd H' p (.tup vs)) (Rv fe' f' G) (upd H' p (.tup vs)) (Rv fe' [] G) := Frz.sub fun _ => Rv_sub
  refine F.dn _ _ fe' [] (s1.drop (fun _ m => nomatch m) List.nodup_nil) (Rep.of_fz ?_) (F.t.trans ⟨t1.fr.trans dr, t1.kg⟩)
  unfold Fz
  exact ⟨p, vs, rfl, np, upd_same, Fzs.step (t1.fr.trans dr) _ _ z⟩
theorem Fi.newD {kvs : List (Key × D)} {kws : List (Key × V)} {p : Addr} (F : Fi e X σ H fe G ρ' (.dct .own kvs) Q H' fe' f') (z : FzK (e.L X.K) H' (Rv fe' f' G) kvs kws) (n : H' p = none) : Q (.ref p) (upd H' p (.dK kws)) := by
  obtain ⟨s1, t1⟩ := F.s.alloc (o := .dK kws) n
  have dr : Frz (upd H' p (.dK kws)) (Rv fe' (p :: f') G) (upd H' p (.dK kws)) (Rv fe' [p] G) := Frz.sub fun a q => by
    rcases q with q | q | q
    · exact .inl q
    · exact .inr (.inl (by rw [List.mem_singleton.mp q]; exact List.mem_cons_self))
    · exact .inr (.inr q)
  refine F.dn _ _ fe' [p] (s1.drop (fun a m => by rw [List.mem_singleton.mp m]; exact List.mem_cons_self) (List.nodup_cons.mpr ⟨by simp, List.nodup_nil⟩)) ⟨p, kws, rfl, rfl, upd_same, FzK.step (t1.fr.trans dr) _ _ z⟩ (F.t.trans ⟨t1.fr.trans dr, t1.kg⟩)
theorem Fi.newDT {kvs : List (List Key × D)} {kws : List (List Key × V)} {p : Addr} (F : Fi e X σ H fe G ρ' (.dtt .own kvs) Q H' fe' f') (z : FzT (e.L X.K) H' (Rv fe' f' G) kvs kws) (n : H' p = none) : Q (.ref p) (upd H' p (.dT kws)) := by
  obtain ⟨s1, t1⟩ := F.s.alloc (o := .dT kws) n
  have dr : Frz (upd H' p (.dT kws)) (Rv fe' (p :: f') G) (upd H' p (.dT kws)) (Rv fe' [p] G) := Frz.sub fun a q => by
    rcases q with q | q | q
    · exact .inl q
    · exact .inr (.inl (by rw [List.mem_singleton.mp q]; exact List.mem_cons_self))
    · exact .inr (.inr q)
  refine F.dn _ _ fe' [p] (s1.drop (fun a m => by rw [List.mem_singleton.mp m]; exact List.mem_cons_self) (List.nodup_cons.mpr ⟨by simp, List.nodup_nil⟩)) ⟨p, kws, rfl, rfl, upd_same, FzT.step (t1.fr.trans dr) _ _ z⟩ (F.t.trans ⟨t1.fr.trans dr, t1.kg⟩)
end

theorem tE_mono {ie : IE} {σ : L2.St} {H : Hp} {Q Q' : VK} (h : tE e X W ie σ H Q) (k : ∀ v H', Q v H' → Q' v H') : tE e X W ie σ H Q' := by
  obtain ⟨ρ, fe, G, s, h⟩ := h
  refine ⟨ρ, fe, G, s, ?_⟩
  cases q : evE e.T ie ρ with
  | ok ρ' d => rw [q] at h; exact fun v H' fe' f' a b c => k v H' (h v H' fe' f' a b c)
  | exn c ρ' => rw [q] at h; exact h
  | stuck => rw [q] at h; exact h
theorem tO_mono {ie : IE} {σ : L2.St} {H : Hp} {Q Q' : VK} (h : tO e X W ie σ H Q) (k : ∀ v H', Q v H' → Q' v H') : tO e X W ie σ H Q' := by
  by_cases hv : ∃ i, ie = .var i
  · obtain ⟨i, rfl⟩ := hv
    obtain ⟨v, e1, q⟩ := h
    exact ⟨v, e1, k v H q⟩
  · have ho : tO e X W ie = tE e X W ie := by
      cases ie <;> first | rfl | exact absurd ⟨_, rfl⟩ hv
    rw [ho] at h ⊢
    exact tE_mono h k
theorem lentB_len {L : LC} {H : Hp} {T : AP} {σ : L2.St} {ρ : List D} : ∀ {es : List IE} {ds : List D} {vs : List V} {f : List Addr}, ArgR L H T σ es ds vs f → (lentB es ds ρ).length = es.length
  | [], _, _, _, h => by obtain ⟨rfl, _, _⟩ := h; rfl
  | ie :: es, _, _, f, h => by
    unfold ArgR at h
    obtain ⟨d, r, v, vs', rfl, rfl, q⟩ := h
    have hb : ∃ y, lentB (ie :: es) (d :: r) ρ = y :: lentB es r ρ := by cases ie <;> exact ⟨_, rfl⟩
    obtain ⟨y, hb⟩ := hb
    have ih : ∃ f', ArgR L H T σ es r vs' f' := by
      cases hv : isVar ie with
      | some i => rw [hv] at q; exact ⟨_, q.2⟩
      | none => rw [hv] at q; obtain ⟨f1, f2, _, _, q⟩ := q; exact ⟨f2, q⟩
    obtain ⟨f', ih⟩ := ih
    rw [hb, List.length_cons, List.length_cons, lentB_len ih]
theorem RdL.len {L : LC} {H : Hp} {T : AP} : ∀ {ds : List D} {vs : List V}, RdL L H T ds vs → vs.length = ds.length
  | [], _, h => by unfold RdL at h; rw [h]; rfl
  | d :: ds, _, h => by
    unfold RdL at h
    obtain ⟨v, r, f, rfl, _, q⟩ := h
    show r.length + 1 = ds.length + 1
    rw [q.len]
/-- operators by arguments read at the end -/
theorem opA {o : Op} {es : List IE} {ex : Expr} {r : List V → Hp → VK → Prop}
    (hR : ∀ (σ : L2.St) (H : Hp) (fe : List Addr) (G : AP) (ρ' : List D) (d : D) (Q : VK) (H' : Hp) (fe' f' : List Addr) (ds : List D) (vs : List V), Fi e X σ H fe G ρ' d Q H' fe' f' → RdL (e.L X.K) H' (Rv fe' f' G) ds vs → ds.length = es.length → ap o ds = some d → r vs H' Q)
    (mk : PE X ex (fun σ H Q => tAs e X W es σ H fun vs H1 => r vs H1 Q)) : PE X ex (tE e X W (.op o es)) := by
  refine PE.mk' fun σ H Q h => ⟨_, mk, ?_⟩
  obtain ⟨ρ, fe, G, s, h⟩ := h
  refine evB_ok es ρ H fe G _ s ?_
  unfold evE at h
  split at h
  · exact h.elim
  cases q : evB e.T es ρ with
  | stuck => rw [q] at h; exact h
  | exn x ρ1 => rw [q] at h; exact h
  | ok ρ1 ds =>
    rw [q] at h
    dsimp only at h
    split at h
    · exact h.elim
    · rename_i hl
      split at h
      · rename_i d hd
        intro vs H' fe' f' s' a t
        exact hR σ H fe G ρ1 d Q H' fe' f' _ vs ⟨h, s', t⟩ (rdL_of s' a (Bool.eq_false_iff.mpr hl)) (lentB_len a) hd
      · exact h.elim
/-- a method of a receiver of a kind: a name, or a written text -/
theorem opM {o : Op} {ie : IE} {es : List IE} {ex : Expr} {P : V → Hp → Prop} {r : List V → Hp → VK → Prop}
    (hP : ∀ ρ d (v : V) (H1 : Hp) (T : AP) f, preOk o (ie :: es) ρ = true → firstD e.T ie ρ = some d → Rep (e.L X.K) H1 T d v f → P v H1)
    (hR : ∀ (σ : L2.St) (H : Hp) (fe : List Addr) (G : AP) (ρ' : List D) (d : D) (Q : VK) (H' : Hp) (fe' f' : List Addr) (ds : List D) (vs : List V), Fi e X σ H fe G ρ' d Q H' fe' f' → RdL (e.L X.K) H' (Rv fe' f' G) ds vs → ds.length = (ie :: es).length → ap o ds = some d → r vs H' Q)
    (mk : PE X ex (fun σ H Q => tO e X W ie σ H fun x H1 => P x H1 ∧ tAs e X W es σ H1 fun vs H2 => r (x :: vs) H2 Q)) : PE X ex (tE e X W (.op o (ie :: es))) := by
  refine PE.mk' fun σ H Q h => ⟨_, mk, ?_⟩
  obtain ⟨ρ, fe, G, s, h⟩ := h
  unfold evE at h
  split at h
  · exact h.elim
  rename_i pre
  have pre' : preOk o (ie :: es) ρ = true := by simpa using pre
  have hb : EndB e X W σ H fe G (ie :: es) (evB e.T (ie :: es) ρ) (fun vs H' => r vs H' Q) := by
    cases q : evB e.T (ie :: es) ρ with
    | stuck => rw [q] at h; exact h
    | exn x ρ1 => rw [q] at h; exact h
    | ok ρ1 ds =>
      rw [q] at h
      dsimp only at h
      split at h
      · exact h.elim
      · rename_i hl
        split at h
        · rename_i d hd
          intro vs H' fe' f' s' a t
          exact hR σ H fe G ρ1 d Q H' fe' f' _ vs ⟨h, s', t⟩ (rdL_of s' a (Bool.eq_false_iff.mpr hl)) (lentB_len a) hd
        · exact h.elim
  exact evBr_ok P ie es ρ H fe G (fun vs H' => r vs H' Q) s (fun d v H1 fe1 f1 f hf rep => hP ρ d v H1 _ f pre' hf rep) hb
abbrev Rp (e : Pm) (X : Cx) (H' : Hp) (fe' f' : List Addr) (G : AP) (d : D) (v : V) : Prop := ∃ f, Rep (e.L X.K) H' (Rv fe' f' G) d v f
/-- one operand, two, three -/
theorem op1 {o : Op} {a : IE} {ex : Expr} {r : V → Hp → VK → Prop}
    (hR : ∀ (σ : L2.St) (H : Hp) (fe : List Addr) (G : AP) (ρ' : List D) (d : D) (Q : VK) (H' : Hp) (fe' f' : List Addr) (d1 : D) (x : V), Fi e X σ H fe G ρ' d Q H' fe' f' →
      Rp e X H' fe' f' G d1 x → ap o [d1] = some d → r x H' Q)
    (mk : PE X ex (fun σ H Q => tO e X W a σ H fun x H1 => r x H1 Q)) : PE X ex (tE e X W (.op o [a])) := by
  refine opA (r := fun vs H Q => ∃ x, vs = [x] ∧ r x H Q) (fun σ H fe G ρ' d Q H' fe' f' ds vs F rd hl ha => ?_) (PE.mk' fun σ H Q h => ⟨_, mk, ?_⟩)
  · match ds, hl with
    | [d1], _ =>
      obtain ⟨x, r1, f1, rfl, p1, rd⟩ := rd
      unfold RdL at rd
      subst rd
      exact ⟨x, rfl, hR σ H fe G ρ' d Q H' fe' f' d1 x F ⟨f1, p1⟩ ha⟩
  · refine tO_mono h fun x H1 q => ?_
    obtain ⟨x', e1, q⟩ := q
    cases e1
    exact q
theorem op2 {o : Op} {a b : IE} {ex : Expr} {r : R2}
    (hR : ∀ (σ : L2.St) (H : Hp) (fe : List Addr) (G : AP) (ρ' : List D) (d : D) (Q : VK) (H' : Hp) (fe' f' : List Addr) (d1 d2 : D) (x y : V), Fi e X σ H fe G ρ' d Q H' fe' f' →
      Rp e X H' fe' f' G d1 x → Rp e X H' fe' f' G d2 y → ap o [d1, d2] = some d → r x y H' Q)
    (mk : PE X ex (tOp r (tO e X W a) (tO e X W b))) : PE X ex (tE e X W (.op o [a, b])) := by
  refine opA (r := fun vs H Q => ∃ x y, vs = [x, y] ∧ r x y H Q) (fun σ H fe G ρ' d Q H' fe' f' ds vs F rd hl ha => ?_) (PE.mk' fun σ H Q h => ⟨_, mk, ?_⟩)
  · match ds, hl with
    | [d1, d2], _ =>
      obtain ⟨x, r1, f1, rfl, p1, rd⟩ := rd
      obtain ⟨y, r2, f2, rfl, p2, rd⟩ := rd
      unfold RdL at rd
      subst rd
      exact ⟨x, y, rfl, hR σ H fe G ρ' d Q H' fe' f' d1 d2 x y F ⟨f1, p1⟩ ⟨f2, p2⟩ ha⟩
  · refine tO_mono h fun x H1 q => ?_
    refine tO_mono q fun y H2 q => ?_
    obtain ⟨x', y', e1, q⟩ := q
    cases e1
    exact q
theorem op3 {o : Op} {a b c : IE} {ex : Expr} {r : V → V → V → Hp → VK → Prop}
    (hR : ∀ (σ : L2.St) (H : Hp) (fe : List Addr) (G : AP) (ρ' : List D) (d : D) (Q : VK) (H' : Hp) (fe' f' : List Addr) (d1 d2 d3 : D) (x y z : V), Fi e X σ H fe G ρ' d Q H' fe' f' →
      Rp e X H' fe' f' G d1 x → Rp e X H' fe' f' G d2 y → Rp e X H' fe' f' G d3 z → ap o [d1, d2, d3] = some d → r x y z H' Q)
    (mk : PE X ex (fun σ H Q => tO e X W a σ H fun x H1 => tO e X W b σ H1 fun y H2 => tO e X W c σ H2 fun z H3 => r x y z H3 Q)) : PE X ex (tE e X W (.op o [a, b, c])) := by
  refine opA (r := fun vs H Q => ∃ x y z, vs = [x, y, z] ∧ r x y z H Q) (fun σ H fe G ρ' d Q H' fe' f' ds vs F rd hl ha => ?_) (PE.mk' fun σ H Q h => ⟨_, mk, ?_⟩)
  · match ds, hl with
    | [d1, d2, d3], _ =>
      obtain ⟨x, r1, f1, rfl, p1, rd⟩ := rd
      obtain ⟨y, r2, f2, rfl, p2, rd⟩ := rd
      obtain ⟨z, r3, f3, rfl, p3, rd⟩ := rd
      unfold RdL at rd
      subst rd
      exact ⟨x, y, z, rfl, hR σ H fe G ρ' d Q H' fe' f' d1 d2 d3 x y z F ⟨f1, p1⟩ ⟨f2, p2⟩ ⟨f3, p3⟩ ha⟩
  · refine tO_mono h fun x H1 q => ?_
    refine tO_mono q fun y H2 q => ?_
    refine tO_mono q fun z H3 q => ?_
    obtain ⟨x', y', z', e1, q⟩ := q
    cases e1
    exact q
/-- what an operator is to give, said for its rule -/
theorem opAi {o : Op} {es : List IE} {r : List V → Hp → VK → Prop}
    (hR : ∀ (σ : L2.St) (H : Hp) (fe : List Addr) (G : AP) (ρ' : List D) (d : D) (Q : VK) (H' : Hp) (fe' f' : List Addr) (ds : List D) (vs : List V), Fi e X σ H fe G ρ' d Q H' fe' f' → RdL (e.L X.K) H' (Rv fe' f' G) ds vs → ds.length = es.length → ap o ds = some d → r vs H' Q)
    {σ : L2.St} {H : Hp} {Q : VK} (h : tE e X W (.op o es) σ H Q) : tAs e X W es σ H fun vs H1 => r vs H1 Q := by
  obtain ⟨ρ, fe, G, s, h⟩ := h
  refine evB_ok es ρ H fe G _ s ?_
  unfold evE at h
  split at h
  · exact h.elim
  cases q : evB e.T es ρ with
  | stuck => rw [q] at h; exact h
  | exn x ρ1 => rw [q] at h; exact h
  | ok ρ1 ds =>
    rw [q] at h
    dsimp only at h
    split at h
    · exact h.elim
    · rename_i hl
      split at h
      · rename_i d hd
        intro vs H' fe' f' s' a t
        exact hR σ H fe G ρ1 d Q H' fe' f' _ vs ⟨h, s', t⟩ (rdL_of s' a (Bool.eq_false_iff.mpr hl)) (lentB_len a) hd
      · exact h.elim
theorem op1i {o : Op} {a : IE} {r : V → Hp → VK → Prop}
    (hR : ∀ (σ : L2.St) (H : Hp) (fe : List Addr) (G : AP) (ρ' : List D) (d : D) (Q : VK) (H' : Hp) (fe' f' : List Addr) (d1 : D) (x : V), Fi e X σ H fe G ρ' d Q H' fe' f' →
      Rp e X H' fe' f' G d1 x → ap o [d1] = some d → r x H' Q)
    {σ : L2.St} {H : Hp} {Q : VK} (h : tE e X W (.op o [a]) σ H Q) : tO e X W a σ H fun x H1 => r x H1 Q := by
  have h := opAi (r := fun vs H Q => ∃ x, vs = [x] ∧ r x H Q) (fun σ H fe G ρ' d Q H' fe' f' ds vs F rd hl ha => ?_) h
  · refine tO_mono h fun x H1 q => ?_
    obtain ⟨x', e1, q⟩ := q
    cases e1
    exact q
  · match ds, hl with
    | [d1], _ =>
      obtain ⟨x, r1, f1, rfl, p1, rd⟩ := rd
      unfold RdL at rd
      subst rd
      exact ⟨x, rfl, hR σ H fe G ρ' d Q H' fe' f' d1 x F ⟨f1, p1⟩ ha⟩
theorem op2i {o : Op} {a b : IE} {r : R2}
    (hR : ∀ (σ : L2.St) (H : Hp) (fe : List Addr) (G : AP) (ρ' : List D) (d : D) (Q : VK) (H' : Hp) (fe' f' : List Addr) (d1 d2 : D) (x y : V), Fi e X σ H fe G ρ' d Q H' fe' f' →
      Rp e X H' fe' f' G d1 x → Rp e X H' fe' f' G d2 y → ap o [d1, d2] = some d → r x y H' Q)
    {σ : L2.St} {H : Hp} {Q : VK} (h : tE e X W (.op o [a, b]) σ H Q) : tOp r (tO e X W a) (tO e X W b) σ H Q := by
  have h := opAi (r := fun vs H Q => ∃ x y, vs = [x, y] ∧ r x y H Q) (fun σ H fe G ρ' d Q H' fe' f' ds vs F rd hl ha => ?_) h
  · refine tO_mono h fun x H1 q => ?_
    refine tO_mono q fun y H2 q => ?_
    obtain ⟨x', y', e1, q⟩ := q
    cases e1
    exact q
  · match ds, hl with
    | [d1, d2], _ =>
      obtain ⟨x, r1, f1, rfl, p1, rd⟩ := rd
      obtain ⟨y, r2, f2, rfl, p2, rd⟩ := rd
      unfold RdL at rd
      subst rd
      exact ⟨x, y, rfl, hR σ H fe G ρ' d Q H' fe' f' d1 d2 x y F ⟨f1, p1⟩ ⟨f2, p2⟩ ha⟩
/-- as a value and as a test -/
def PB (e : Pm) (X : Cx) (W : WX) (ie : IE) (ex : Expr) : Prop := PE X ex (tE e X W ie) ∧ PT X ex (tT e X W ie)
theorem op1b {o : Op} {a : IE} {ex : Expr} {r : V → Hp → VK → Prop}
    (hR : ∀ (σ : L2.St) (H : Hp) (fe : List Addr) (G : AP) (ρ' : List D) (d : D) (Q : VK) (H' : Hp) (fe' f' : List Addr) (d1 : D) (x : V), Fi e X σ H fe G ρ' d Q H' fe' f' →
      Rp e X H' fe' f' G d1 x → ap o [d1] = some d → r x H' Q)
    (mk : PE X ex (fun σ H Q => tO e X W a σ H fun x H1 => r x H1 Q)) (mt : PT X ex (tTest fun σ H Q => tO e X W a σ H fun x H1 => r x H1 Q)) : PB e X W (.op o [a]) ex :=
  ⟨op1 hR mk, PT.mk' fun _ _ _ h => ⟨_, mt, op1i hR h⟩⟩
theorem op2b {o : Op} {a b : IE} {ex : Expr} {r : R2}
    (hR : ∀ (σ : L2.St) (H : Hp) (fe : List Addr) (G : AP) (ρ' : List D) (d : D) (Q : VK) (H' : Hp) (fe' f' : List Addr) (d1 d2 : D) (x y : V), Fi e X σ H fe G ρ' d Q H' fe' f' →
      Rp e X H' fe' f' G d1 x → Rp e X H' fe' f' G d2 y → ap o [d1, d2] = some d → r x y H' Q)
    (mk : PE X ex (tOp r (tO e X W a) (tO e X W b))) (mt : PT X ex (tTest (tOp r (tO e X W a) (tO e X W b)))) : PB e X W (.op o [a, b]) ex :=
  ⟨op2 hR mk, PT.mk' fun _ _ _ h => ⟨_, mt, op2i hR h⟩⟩
end
end TL

namespace TL
open PySem PySem.Spec PyProof.Rows L2

theorem big_line {n : Nat} (h : lenOk n = true) : n < sizeLine := by
  unfold lenOk at h
  have := of_decide_eq_true h
  rw [sizeLine_eq]; omega
section
variable {e : Pm} {X : Cx} {W : WX} {c : CK} {lv : Nat} {ea eb ec : Expr} {a b c' : IE} {pos : Pos}
theorem fz_int {L : LC} {H : Hp} {T : AP} {i : Int} : Fz L H T (.int i) (.int i) := by unfold Fz; rfl
theorem fz_bl {L : LC} {H : Hp} {T : AP} {i : Bool} : Fz L H T (.bl i) (.bl i) := by unfold Fz; rfl
theorem fz_str {L : LC} {H : Hp} {T : AP} {i : Str} : Fz L H T (.str i) (.str i) := by unfold Fz; rfl
theorem fz_non {L : LC} {H : Hp} {T : AP} : Fz L H T .non .non := by unfold Fz; rfl

/-! ### numbers, texts, lists -/
theorem pO_add (ha : PE X ea (tO e X W a)) (hb : PE X eb (tO e X W b)) : PE X (.BinOp ea .Add eb pos) (tE e X W (.op .add [a, b])) := by
  refine op2 (fun σ H fe G ρ' d Q H' fe' f' d1 d2 x y F r1 r2 h0 => ?_) (pe_op (op_add.or (op_add_str.or op_cat)) ha hb)
  obtain ⟨f1, r1⟩ := r1
  obtain ⟨f2, r2⟩ := r2
  have h : ap_add [d1, d2] = some d := h0
  unfold ap_add at h
  split at h
  · rename_i i j he
    cases he; cases h
    exact .inl ⟨_, _, r1.int, r2.int, F.sc fz_int⟩
  · rename_i i j he
    cases he
    split at h
    · rename_i hl
      cases h
      exact .inr (.inl ⟨_, _, r1.str, r2.str, Nat.le_of_lt (big_line hl), F.sc fz_str⟩)
    · cases h
  · rename_i w xs u ys he
    cases he
    split at h
    · rename_i hl
      rw [Bool.and_eq_true, Bool.and_eq_true, decide_eq_true_eq, decide_eq_true_eq] at hl
      cases h
      obtain ⟨p, vs, rfl, e1, z1⟩ := r1.lstX hl.1.1
      obtain ⟨q, us, rfl, e2, z2⟩ := r2.lstX hl.1.2
      exact .inr (.inr ⟨p, q, vs, us, rfl, rfl, e1, e2, Nat.le_of_lt (big_line (by rw [z1.len, z2.len]; exact hl.2)), fun l hn => F.new (z1.append z2) hn⟩)
    · cases h
  · cases h
/-- two whole numbers -/
theorem pO_int2 {o : Op} {op : Operator} {C : Int → Int → Prop} {g : Int → Int → Int} (ho : OpR X (binaryOp op) (rI C fun i j => .int (g i j)))
    (hap : ∀ d1 d2 d, ap o [d1, d2] = some d → ∃ i j, d1 = .int i ∧ d2 = .int j ∧ C i j ∧ d = .int (g i j))
    (ha : PE X ea (tO e X W a)) (hb : PE X eb (tO e X W b)) : PE X (.BinOp ea op eb pos) (tE e X W (.op o [a, b])) := by
  refine op2 (fun σ H fe G ρ' d Q H' fe' f' d1 d2 x y F r1 r2 h0 => ?_) (pe_op ho ha hb)
  obtain ⟨f1, r1⟩ := r1
  obtain ⟨f2, r2⟩ := r2
  obtain ⟨i, j, rfl, rfl, hc, rfl⟩ := hap d1 d2 d h0
  exact ⟨i, j, r1.int, r2.int, hc, F.sc fz_int⟩
theorem ap_int2 {C : Int → Int → Prop} {g : Int → Int → Int} {d1 d2 d : D} (f : List D → Option D) (hf : f [d1, d2] = some d)
    (h1 : ∀ i j d, f [.int i, .int j] = some d → C i j ∧ d = .int (g i j)) (h2 : (∀ i j, ¬ (d1 = .int i ∧ d2 = .int j)) → f [d1, d2] = none) : ∃ i j, d1 = .int i ∧ d2 = .int j ∧ C i j ∧ d = .int (g i j) := by
  by_cases h : ∃ i j, d1 = .int i ∧ d2 = .int j
  · obtain ⟨i, j, rfl, rfl⟩ := h
    obtain ⟨q1, q2⟩ := h1 i j d hf
    exact ⟨i, j, rfl, rfl, q1, q2⟩
  · rw [h2 fun i j q => h ⟨i, j, q⟩] at hf
    cases hf
theorem pO_sub (ha : PE X ea (tO e X W a)) (hb : PE X eb (tO e X W b)) : PE X (.BinOp ea .Sub eb pos) (tE e X W (.op .sub [a, b])) := by
  refine op2 (fun σ H fe G ρ' d Q H' fe' f' d1 d2 x y F r1 r2 h0 => ?_) (pe_op op_sub ha hb)
  obtain ⟨f1, r1⟩ := r1
  obtain ⟨f2, r2⟩ := r2
  have h : ap_sub [d1, d2] = some d := h0
  unfold ap_sub at h
  split at h
  · rename_i i j he
    cases he; cases h
    exact ⟨_, _, r1.int, r2.int, F.sc fz_int⟩
  · cases h
theorem pO_mul (ha : PE X ea (tO e X W a)) (hb : PE X eb (tO e X W b)) : PE X (.BinOp ea .Mult eb pos) (tE e X W (.op .mul [a, b])) := by
  refine op2 (fun σ H fe G ρ' d Q H' fe' f' d1 d2 x y F r1 r2 h0 => ?_) (pe_op (op_mulW.or (op_rep.or op_mulS)) ha hb)
  obtain ⟨f1, r1⟩ := r1
  obtain ⟨f2, r2⟩ := r2
  have h : ap_mul [d1, d2] = some d := h0
  unfold ap_mul at h
  split at h
  · rename_i i j he
    cases he
    split at h
    · rename_i hm
      cases h
      unfold mulOk at hm
      have hm := of_decide_eq_true hm
      exact .inl ⟨_, _, r1.int, r2.int, hm, F.sc fz_int⟩
    · cases h
  · rename_i z k he
    cases he
    split at h
    · rename_i hl
      rw [Bool.and_eq_true, Bool.and_eq_true, decide_eq_true_eq, decide_eq_true_eq, decide_eq_true_eq] at hl
      cases h
      exact .inr (.inr ⟨_, _, r1.str, r2.int, hl.1.1, hl.1.2, hl.2, F.sc fz_str⟩)
    · cases h
  · rename_i w xs k he
    cases he
    split at h
    · rename_i hl
      rw [Bool.and_eq_true, Bool.and_eq_true, Bool.and_eq_true, decide_eq_true_eq, decide_eq_true_eq, decide_eq_true_eq] at hl
      cases h
      obtain ⟨p, vs, rfl, e1, z1⟩ := r1.lstX hl.1.1.1
      refine .inr (.inl ⟨p, k, vs, rfl, r2.int, e1, ?_, ?_, Nat.le_of_lt (big_line (by rw [z1.len]; exact hl.1.2)), fun l hn => F.new (z1.rep _) hn⟩)
      · have := hl.1.1.2; omega
      · have := hl.2; omega
    · cases h
  · cases h
theorem pO_fdiv (ha : PE X ea (tO e X W a)) (hb : PE X eb (tO e X W b)) : PE X (.BinOp ea .FloorDiv eb pos) (tE e X W (.op .fdiv [a, b])) := by
  refine op2 (fun σ H fe G ρ' d Q H' fe' f' d1 d2 x y F r1 r2 h0 => ?_) (pe_op op_fdivW ha hb)
  obtain ⟨f1, r1⟩ := r1
  obtain ⟨f2, r2⟩ := r2
  have h : ap_fdiv [d1, d2] = some d := h0
  unfold ap_fdiv at h
  split at h
  · rename_i i j he
    cases he
    split at h
    · rename_i hm
      cases h
      unfold divOk at hm
      have hm := of_decide_eq_true hm
      exact ⟨_, _, r1.int, r2.int, hm, F.sc fz_int⟩
    · cases h
  · cases h
theorem pO_mod (ha : PE X ea (tO e X W a)) (hb : PE X eb (tO e X W b)) : PE X (.BinOp ea .Mod eb pos) (tE e X W (.op .mod [a, b])) := by
  refine op2 (fun σ H fe G ρ' d Q H' fe' f' d1 d2 x y F r1 r2 h0 => ?_) (pe_op op_mod ha hb)
  obtain ⟨f1, r1⟩ := r1
  obtain ⟨f2, r2⟩ := r2
  have h : ap_mod [d1, d2] = some d := h0
  unfold ap_mod at h
  split at h
  · rename_i i j he
    cases he
    split at h
    · rename_i hm
      cases h
      exact ⟨_, _, r1.int, r2.int, hm, F.sc fz_int⟩
    · cases h
  · cases h
theorem pO_pow (ha : PE X ea (tO e X W a)) (hb : PE X eb (tO e X W b)) : PE X (.BinOp ea .Pow eb pos) (tE e X W (.op .pow [a, b])) := by
  refine op2 (fun σ H fe G ρ' d Q H' fe' f' d1 d2 x y F r1 r2 h0 => ?_) (pe_op op_pow ha hb)
  obtain ⟨f1, r1⟩ := r1
  obtain ⟨f2, r2⟩ := r2
  have h : ap_pow [d1, d2] = some d := h0
  unfold ap_pow at h
  split at h
  · rename_i i j he
    cases he
    split at h
    · rename_i hm
      cases h
      unfold powOk at hm
      have hm := of_decide_eq_true hm
      exact ⟨_, _, r1.int, r2.int, hm, F.sc fz_int⟩
    · cases h
  · cases h
theorem pO_neg (ha : PE X ea (tO e X W a)) : PE X (.UnaryOp .USub ea pos) (tE e X W (.op .neg [a])) := by
  refine op1 (r := rU fun i => .int (-i)) (fun σ H fe G ρ' d Q H' fe' f' d1 x F r1 h0 => ?_) (pe_un un_neg ha)
  obtain ⟨f1, r1⟩ := r1
  have h : ap_neg [d1] = some d := h0
  unfold ap_neg at h
  split at h
  · rename_i i he
    cases he; cases h
    exact ⟨_, r1.int, F.sc fz_int⟩
  · cases h
/-- a comparison of two whole numbers -/
theorem pO_cmpI {op : CmpOp} {o : Op} {g : Int → Int → Bool} (ho : OpR X (compareOp op) (rI0 fun i j => .bl (g i j))) (hm : behindInMarks op eb = false)
    (hap : ∀ d1 d2 d, ap o [d1, d2] = some d → ∃ i j, d1 = .int i ∧ d2 = .int j ∧ d = .bl (g i j))
    (ha : PE X ea (tO e X W a)) (hb : PE X eb (tO e X W b)) : PB e X W (.op o [a, b]) (.Compare ea [op] [eb] pos) := by
  refine op2b (fun σ H fe G ρ' d Q H' fe' f' d1 d2 x y F r1 r2 h0 => ?_) (pe_cmpR ho ha hb hm) (pt_cmpR ho ha hb hm)
  obtain ⟨f1, r1⟩ := r1
  obtain ⟨f2, r2⟩ := r2
  obtain ⟨i, j, rfl, rfl, rfl⟩ := hap d1 d2 d h0
  exact ⟨i, j, r1.int, r2.int, F.sc fz_bl⟩
theorem pO_lt (hu : X.A.units < cLine) (ha : PE X ea (tO e X W a)) (hb : PE X eb (tO e X W b)) : PB e X W (.op .lt [a, b]) (.Compare ea [.Lt] [eb] pos) := by
  refine op2b (fun σ H fe G ρ' d Q H' fe' f' d1 d2 x y F r1 r2 h0 => ?_) (pe_cmpR (op_lt.or (op_ltL hu)) ha hb (nomark _)) (pt_cmpR (op_lt.or (op_ltL hu)) ha hb (nomark _))
  obtain ⟨f1, r1⟩ := r1
  obtain ⟨f2, r2⟩ := r2
  have h : ap_lt [d1, d2] = some d := h0
  unfold ap_lt at h
  split at h
  · rename_i i j he
    cases he; cases h
    exact .inl ⟨_, _, r1.int, r2.int, F.sc fz_bl⟩
  · rename_i w xs u ys he
    cases he
    cases q1 : intsD xs with
    | none => rw [q1] at h; cases h
    | some ns =>
      cases q2 : intsD ys with
      | none => rw [q1, q2] at h; cases h
      | some ms =>
        rw [q1, q2] at h
        cases h
        obtain ⟨p, vs, rfl, e1, z1⟩ := r1.lst
        obtain ⟨q, us, rfl, e2, z2⟩ := r2.lst
        have v1 := z1.ints q1
        have v2 := z2.ints q2
        subst v1 v2
        exact .inr ⟨p, q, ns, ms, rfl, rfl, e1, e2, F.sc fz_bl⟩
  · cases h
theorem pO_le (ha : PE X ea (tO e X W a)) (hb : PE X eb (tO e X W b)) : PB e X W (.op .le [a, b]) (.Compare ea [.LtE] [eb] pos) := by
  refine pO_cmpI op_le (nomark _) (fun d1 d2 d h0 => ?_) ha hb
  have h : ap_le [d1, d2] = some d := h0
  unfold ap_le at h
  split at h
  · rename_i i j he
    cases he; cases h
    exact ⟨_, _, rfl, rfl, rfl⟩
  · cases h
theorem pO_gt (ha : PE X ea (tO e X W a)) (hb : PE X eb (tO e X W b)) : PB e X W (.op .gt [a, b]) (.Compare ea [.Gt] [eb] pos) := by
  refine pO_cmpI op_gt (nomark _) (fun d1 d2 d h0 => ?_) ha hb
  have h : ap_gt [d1, d2] = some d := h0
  unfold ap_gt at h
  split at h
  · rename_i i j he
    cases he; cases h
    exact ⟨_, _, rfl, rfl, rfl⟩
  · cases h
theorem pO_ge (ha : PE X ea (tO e X W a)) (hb : PE X eb (tO e X W b)) : PB e X W (.op .ge [a, b]) (.Compare ea [.GtE] [eb] pos) := by
  refine pO_cmpI op_ge (nomark _) (fun d1 d2 d h0 => ?_) ha hb
  have h : ap_ge [d1, d2] = some d := h0
  unfold ap_ge at h
  split at h
  · rename_i i j he
    cases he; cases h
    exact ⟨_, _, rfl, rfl, rfl⟩
  · cases h
theorem eqD_v {H : Hp} {T : AP} {d1 d2 : D} {x y : V} {f1 f2 : List Addr} {r : Bool} {Q : VK} (r1 : Rep (e.L X.K) H T d1 x f1) (r2 : Rep (e.L X.K) H T d2 y f2) (h : eqD d1 d2 = some r) (q : Q (.bl r) H) :
    (rEq x y H Q ∨ rEqD X.K x y H Q) := by
  unfold eqD at h
  split at h
  · rename_i r' hs
    cases h
    obtain ⟨z1, z2⟩ := eqS_v r1 r2 hs
    exact .inl ⟨z1, by rw [z2]; exact q⟩
  · split at h
    · rename_i a' b' h1 h2
      split at h
      · rename_i hs
        rw [Bool.and_eq_true] at hs
        cases h
        exact .inr ⟨_, _, rep_dp r1 h1, rep_dp r2 h2, hs.1, hs.2, q⟩
      · cases h
    · cases h
theorem neD_v {H : Hp} {T : AP} {d1 d2 : D} {x y : V} {f1 f2 : List Addr} {r : Bool} {Q : VK} (r1 : Rep (e.L X.K) H T d1 x f1) (r2 : Rep (e.L X.K) H T d2 y f2) (h : eqD d1 d2 = some r) (q : Q (.bl (!r)) H) :
    (rNe x y H Q ∨ rNeD X.K x y H Q) := by
  unfold eqD at h
  split at h
  · rename_i r' hs
    cases h
    obtain ⟨z1, z2⟩ := eqS_v r1 r2 hs
    exact .inl ⟨z1, by rw [z2]; exact q⟩
  · split at h
    · rename_i a' b' h1 h2
      split at h
      · rename_i hs
        rw [Bool.and_eq_true] at hs
        cases h
        exact .inr ⟨_, _, rep_dp r1 h1, rep_dp r2 h2, hs.1, hs.2, q⟩
      · cases h
    · cases h
theorem pO_eq (hu : X.A.units + 64 < cLine) (ha : PE X ea (tO e X W a)) (hb : PE X eb (tO e X W b)) : PB e X W (.op .eq [a, b]) (.Compare ea [.Eq] [eb] pos) := by
  refine op2b (fun σ H fe G ρ' d Q H' fe' f' d1 d2 x y F r1 r2 h0 => ?_) (pe_cmpR (op_eq.or (op_eqD hu)) ha hb (nomark _)) (pt_cmpR (op_eq.or (op_eqD hu)) ha hb (nomark _))
  obtain ⟨f1, r1⟩ := r1
  obtain ⟨f2, r2⟩ := r2
  have h : ap_eq [d1, d2] = some d := h0
  unfold ap_eq at h
  dsimp only at h
  cases hq : eqD d1 d2 with
  | none => rw [hq] at h; cases h
  | some r =>
    rw [hq] at h
    cases h
    exact eqD_v r1 r2 hq (F.sc fz_bl)
theorem pO_ne (hu : X.A.units + 64 < cLine) (ha : PE X ea (tO e X W a)) (hb : PE X eb (tO e X W b)) : PB e X W (.op .ne [a, b]) (.Compare ea [.NotEq] [eb] pos) := by
  refine op2b (fun σ H fe G ρ' d Q H' fe' f' d1 d2 x y F r1 r2 h0 => ?_) (pe_cmpR (op_ne.or (op_neD hu)) ha hb (nomark _)) (pt_cmpR (op_ne.or (op_neD hu)) ha hb (nomark _))
  obtain ⟨f1, r1⟩ := r1
  obtain ⟨f2, r2⟩ := r2
  have h : ap_ne [d1, d2] = some d := h0
  unfold ap_ne at h
  dsimp only at h
  cases hq : eqD d1 d2 with
  | none => rw [hq] at h; cases h
  | some r =>
    rw [hq] at h
    cases h
    exact neD_v r1 r2 hq (F.sc fz_bl)
/-! ### in, not in -/
def rInD : R2 := fun y x H Q => ∃ a o, x = .ref a ∧ DGet H a y o ∧ Q (.bl o.isSome) H
def rNinD : R2 := fun y x H Q => ∃ a o, x = .ref a ∧ DGet H a y o ∧ Q (.bl (!o.isSome)) H
theorem op_inD (hu : X.A.units + 1 < cLine) : OpR X (compareOp .In) rInD := by
  intro pins s σ H y x u v Q I ry rx ⟨a, o, ex, g, q⟩
  subst ex
  obtain rfl : v = Value.ref a := rx
  exact d_in hu I g ry fun s' I' => ⟨.bl o.isSome, H, I', rfl, q⟩
theorem op_ninD (hu : X.A.units + 1 < cLine) : OpR X (compareOp .NotIn) rNinD := by
  intro pins s σ H y x u v Q I ry rx ⟨a, o, ex, g, q⟩
  subst ex
  obtain rfl : v = Value.ref a := rx
  exact d_notIn hu I g ry fun s' I' => ⟨.bl (!o.isSome), H, I', rfl, q⟩
theorem dget_k {L : LC} {H : Hp} {T : AP} {w : TL.W} {kvs : List (Key × D)} {x : D} {k : Key} {v y : V} {f1 f2 : List Addr} (r1 : Rep L H T (.dct w kvs) v f1) (r2 : Rep L H T x y f2) (hk : keyOf x = some k) :
    ∃ a o, v = .ref a ∧ DGet H a y o ∧ o.isSome = (dget kvs k).isSome ∧ ∀ d, dget kvs k = some d → ∃ u, o = some u ∧ Fz L H T d u := by
  obtain ⟨a, kws, rfl, rd, z⟩ := r1.dct
  refine ⟨a, valV kws k, rfl, .inl ⟨kws, k, rd, keyOf_v r2 hk, rfl⟩, ?_, fun d hd => ?_⟩
  · rcases z.get k with ⟨h1, h2⟩ | ⟨d, u, h1, h2, _⟩ <;> rw [h1, h2] <;> rfl
  · rcases z.get k with ⟨h1, h2⟩ | ⟨d', u, h1, h2, h3⟩
    · rw [h1] at hd; cases hd
    · rw [h1] at hd; cases hd
      exact ⟨u, h2, h3⟩
theorem dget_t {L : LC} {H : Hp} {T : AP} {w : TL.W} {kvs : List (List Key × D)} {xs : List D} {k : List Key} {v y : V} {f1 f2 : List Addr} (r1 : Rep L H T (.dtt w kvs) v f1)
    (r2 : Rep L H T (.tup xs) y f2) (hk : keysOf xs = some k) :
    ∃ a o, v = .ref a ∧ DGet H a y o ∧ o.isSome = (dget kvs k).isSome ∧ ∀ d, dget kvs k = some d → ∃ u, o = some u ∧ Fz L H T d u := by
  obtain ⟨a, kws, rfl, rd, z⟩ := r1.dtt
  obtain ⟨b, vs, rfl, eb, z2⟩ := r2.tup
  rw [keysOf_v z2 hk] at eb
  refine ⟨a, valV kws k, rfl, .inr ⟨kws, k, b, rd, rfl, eb, rfl⟩, ?_, fun d hd => ?_⟩
  · rcases z.get k with ⟨h1, h2⟩ | ⟨d, u, h1, h2, _⟩ <;> rw [h1, h2] <;> rfl
  · rcases z.get k with ⟨h1, h2⟩ | ⟨d', u, h1, h2, h3⟩
    · rw [h1] at hd; cases hd
    · rw [h1] at hd; cases hd
      exact ⟨u, h2, h3⟩
/-- x in xs, x in d -/
theorem pO_inn (hu : X.A.units + 1 < cLine) (hm : behindInMarks .In eb = false) (ha : PE X ea (tO e X W a)) (hb : PE X eb (tO e X W b)) : PB e X W (.op .inn [a, b]) (.Compare ea [.In] [eb] pos) := by
  refine op2b (fun σ H fe G ρ' d Q H' fe' f' d1 d2 x y F r1 r2 h0 => ?_) (pe_cmpR (op_in_seq.or (op_inD hu)) ha hb hm) (pt_cmpR (op_in_seq.or (op_inD hu)) ha hb hm)
  obtain ⟨f1, r1⟩ := r1
  obtain ⟨f2, r2⟩ := r2
  have h : ap_inn [d1, d2] = some d := h0
  unfold ap_inn at h
  split at h
  · rename_i x' w ys he
    cases he
    split at h
    · cases h
    · rename_i hf
      cases hq : inFlat d1 ys with
      | none => rw [hq] at h; cases h
      | some r =>
        rw [hq] at h
        cases h
        obtain ⟨p, vs, rfl, e1, z1⟩ := r2.lst
        obtain ⟨q1, q2, q3⟩ := inFlat_v r1 (by simpa using hf) z1 hq
        exact .inl ⟨p, vs, rfl, .inl e1, q1, q2, by rw [q3]; exact F.sc fz_bl⟩
  · rename_i x' w kvs he
    cases he
    cases hk : keyOf d1 with
    | none => rw [hk] at h; cases h
    | some k =>
      rw [hk] at h
      cases h
      obtain ⟨p, o, rfl, g, ho, _⟩ := dget_k r2 r1 hk
      exact .inr ⟨p, o, rfl, g, by rw [ho]; exact F.sc fz_bl⟩
  · rename_i x' kvs he
    cases he
    cases hk : keyOf d1 with
    | none => rw [hk] at h; cases h
    | some k =>
      rw [hk] at h
      cases h
      obtain ⟨p, kws, f', rfl, _, e3, kl⟩ := r2
      refine .inr ⟨p, valV kws k, rfl, .inl ⟨kws, k, .inl e3, keyOf_v r1 hk, rfl⟩, ?_⟩
      have ho : (valV kws k).isSome = (lget k kvs).isSome := by rcases kl.get k with ⟨z1, z2⟩ | ⟨xs, b, vs, z1, z2, _⟩ <;> rw [z1, z2] <;> rfl
      rw [ho]
      exact F.sc fz_bl
  · rename_i x' ys he
    cases he
    split at h
    · cases h
    · rename_i hf
      cases hq : inFlat d1 ys with
      | none => rw [hq] at h; cases h
      | some r =>
        rw [hq] at h
        cases h
        obtain ⟨p, vs, rfl, e1, z1⟩ := r2.tup
        obtain ⟨q1, q2, q3⟩ := inFlat_v r1 (by simpa using hf) z1 hq
        exact .inl ⟨p, vs, rfl, .inr (.inl (.inl e1)), q1, q2, by rw [q3]; exact F.sc fz_bl⟩
  · rename_i xs w kvs he
    cases he
    cases hk : keysOf xs with
    | none => rw [hk] at h; cases h
    | some k =>
      rw [hk] at h
      cases h
      obtain ⟨p, o, rfl, g, ho, _⟩ := dget_t r2 r1 hk
      exact .inr ⟨p, o, rfl, g, by rw [ho]; exact F.sc fz_bl⟩
  · cases h
theorem pO_nin (hu : X.A.units + 1 < cLine) (hm : behindInMarks .NotIn eb = false) (ha : PE X ea (tO e X W a)) (hb : PE X eb (tO e X W b)) : PB e X W (.op .nin [a, b]) (.Compare ea [.NotIn] [eb] pos) := by
  refine op2b (fun σ H fe G ρ' d Q H' fe' f' d1 d2 x y F r1 r2 h0 => ?_) (pe_cmpR (op_notIn_seq.or (op_ninD hu)) ha hb hm) (pt_cmpR (op_notIn_seq.or (op_ninD hu)) ha hb hm)
  obtain ⟨f1, r1⟩ := r1
  obtain ⟨f2, r2⟩ := r2
  have h : ap_nin [d1, d2] = some d := h0
  unfold ap_nin at h
  split at h
  · rename_i x' w ys he
    cases he
    split at h
    · cases h
    · rename_i hf
      cases hq : inFlat d1 ys with
      | none => rw [hq] at h; cases h
      | some r =>
        rw [hq] at h
        cases h
        obtain ⟨p, vs, rfl, e1, z1⟩ := r2.lst
        obtain ⟨q1, q2, q3⟩ := inFlat_v r1 (by simpa using hf) z1 hq
        exact .inl ⟨p, vs, rfl, .inl e1, q1, q2, by rw [q3]; exact F.sc fz_bl⟩
  · rename_i x' w kvs he
    cases he
    cases hk : keyOf d1 with
    | none => rw [hk] at h; cases h
    | some k =>
      rw [hk] at h
      cases h
      obtain ⟨p, o, rfl, g, ho, _⟩ := dget_k r2 r1 hk
      exact .inr ⟨p, o, rfl, g, by rw [ho]; exact F.sc fz_bl⟩
  · rename_i x' kvs he
    cases he
    cases hk : keyOf d1 with
    | none => rw [hk] at h; cases h
    | some k =>
      rw [hk] at h
      cases h
      obtain ⟨p, kws, f', rfl, _, e3, kl⟩ := r2
      refine .inr ⟨p, valV kws k, rfl, .inl ⟨kws, k, .inl e3, keyOf_v r1 hk, rfl⟩, ?_⟩
      have ho : (valV kws k).isSome = (lget k kvs).isSome := by rcases kl.get k with ⟨z1, z2⟩ | ⟨xs, b, vs, z1, z2, _⟩ <;> rw [z1, z2] <;> rfl
      rw [ho]
      exact F.sc fz_bl
  · rename_i x' ys he
    cases he
    split at h
    · cases h
    · rename_i hf
      cases hq : inFlat d1 ys with
      | none => rw [hq] at h; cases h
      | some r =>
        rw [hq] at h
        cases h
        obtain ⟨p, vs, rfl, e1, z1⟩ := r2.tup
        obtain ⟨q1, q2, q3⟩ := inFlat_v r1 (by simpa using hf) z1 hq
        exact .inl ⟨p, vs, rfl, .inr (.inl (.inl e1)), q1, q2, by rw [q3]; exact F.sc fz_bl⟩
  · rename_i xs w kvs he
    cases he
    cases hk : keysOf xs with
    | none => rw [hk] at h; cases h
    | some k =>
      rw [hk] at h
      cases h
      obtain ⟨p, o, rfl, g, ho, _⟩ := dget_t r2 r1 hk
      exact .inr ⟨p, o, rfl, g, by rw [ho]; exact F.sc fz_bl⟩
  · cases h
/-- is None -/
theorem non_iff {L : LC} {H : Hp} {T : AP} {d : D} {v : V} {f : List Addr} (r : Rep L H T d v f) (n : d ≠ .non) : v ≠ .non := by
  intro e
  subst e
  cases d with
  | non => exact n rfl
  | int i => cases r.int
  | bl i => cases r.bl
  | str i => cases r.str
  | und => exact r.und
  | lst w xs => obtain ⟨_, _, e, _⟩ := r.lst; cases e
  | tup xs => obtain ⟨_, _, e, _⟩ := r.tup; cases e
  | dct w xs => obtain ⟨_, _, e, _⟩ := r.dct; cases e
  | dtt w xs => obtain ⟨_, _, e, _⟩ := r.dtt; cases e
  | obj w c xs => obtain ⟨_, _, _, e, _⟩ := r.obj; cases e
  | dls kvs => obtain ⟨_, _, _, e, _⟩ := r; cases e
  | obn c fs => obtain ⟨_, _, _, _, e, _⟩ := r; cases e
theorem pO_isN {j : Nat} {p' : Pos} (ha : PE X ea (tO e X W a)) : PB e X W (.op .isN [a]) (.Compare ea [.Is] [.Constant .none j p'] pos) := by
  refine op1b (r := fun x H Q => Q (.bl (decide (x = .non))) H) (fun σ H fe G ρ' d Q H' fe' f' d1 x F r1 h0 => ?_) (PE.mk' fun σ H Q h => ⟨_, pe_cmp (pc_isN ha), h⟩) (PT.mk' fun σ H Q h => ⟨_, pt_cmp (pc_isN ha), h⟩)
  obtain ⟨f1, r1⟩ := r1
  have h : ap_isN [d1] = some d := h0
  unfold ap_isN at h
  dsimp only at h
  split at h
  · cases h
  · cases h
    rw [r1.non]
    exact F.sc fz_bl
  · rename_i n1 n2
    cases h
    rw [decide_eq_false (non_iff r1 n2)]
    exact F.sc fz_bl
theorem pO_notN {j : Nat} {p' : Pos} (ha : PE X ea (tO e X W a)) : PB e X W (.op .notN [a]) (.Compare ea [.IsNot] [.Constant .none j p'] pos) := by
  refine op1b (r := fun x H Q => Q (.bl (!decide (x = .non))) H) (fun σ H fe G ρ' d Q H' fe' f' d1 x F r1 h0 => ?_) (PE.mk' fun σ H Q h => ⟨_, pe_cmp (pc_notN ha), h⟩) (PT.mk' fun σ H Q h => ⟨_, pt_cmp (pc_notN ha), h⟩)
  obtain ⟨f1, r1⟩ := r1
  have h : ap_notN [d1] = some d := h0
  unfold ap_notN at h
  dsimp only at h
  split at h
  · cases h
  · cases h
    rw [r1.non]
    exact F.sc fz_bl
  · rename_i n1 n2
    cases h
    rw [decide_eq_false (non_iff r1 n2)]
    exact F.sc fz_bl
theorem pO_not (ha : PE X ea (tO e X W a)) : PE X (.UnaryOp .Not ea pos) (tE e X W (.op .not [a])) := by
  refine op1 (r := fun x H Q => ∃ c, x = .bl c ∧ Q (.bl (!c)) H) (fun σ H fe G ρ' d Q H' fe' f' d1 x F r1 h0 => ?_) (pe_not ha)
  obtain ⟨f1, r1⟩ := r1
  have h : ap_not [d1] = some d := h0
  unfold ap_not at h
  split at h
  · rename_i b' he
    cases he; cases h
    exact ⟨_, r1.bl, F.sc fz_bl⟩
  · cases h
/-! ### subscripts -/
def rIxD : R2 := fun x y H Q => ∃ a v, x = .ref a ∧ DGet H a y (some v) ∧ Q v H
theorem pO_idx (hu : X.A.units + 1 < cLine) (hs : PlainIx eb) (ha : PE X ea (tO e X W a)) (hb : PE X eb (tO e X W b)) : PE X (.Subscript ea eb pos) (tE e X W (.op .idx [a, b])) := by
  refine op2 (r := fun x y H Q => rIx X.K x y H Q ∨ rIxD x y H Q) (fun σ H fe G ρ' d Q H' fe' f' d1 d2 x y F r1 r2 h0 => ?_) ?_
  · obtain ⟨f1, r1⟩ := r1
    obtain ⟨f2, r2⟩ := r2
    have h : ap_idx [d1, d2] = some d := h0
    unfold ap_idx at h
    split at h
    · rename_i w xs i he
      cases he
      obtain ⟨p, vs, rfl, e1, z1⟩ := r1.lst
      obtain ⟨v, q1, q2⟩ := z1.atI h
      exact .inl (.inl ⟨p, vs, i, v, rfl, r2.int, e1, q1, F.sc q2⟩)
    · rename_i xs i he
      cases he
      obtain ⟨p, vs, rfl, e1, z1⟩ := r1.tup
      obtain ⟨v, q1, q2⟩ := z1.atI h
      exact .inl (.inr (.inl ⟨p, vs, i, v, rfl, r2.int, .inl (.inl e1), q1, F.sc q2⟩))
    · rename_i z i he
      cases he
      split at h
      · rename_i hl
        split at h
        · rename_i c hc
          cases h
          exact .inl (.inr (.inr ⟨z, i, c, r1.str, r2.int, Nat.le_of_lt (big_line hl), hc, F.sc fz_str⟩))
        · cases h
      · cases h
    · rename_i w kvs x' he
      cases he
      cases hk : keyOf d2 with
      | none => rw [hk] at h; cases h
      | some k =>
        rw [hk] at h
        obtain ⟨p, o, rfl, g, _, ho⟩ := dget_k r1 r2 hk
        obtain ⟨u, rfl, z⟩ := ho d h
        exact .inr ⟨p, u, rfl, g, F.sc z⟩
    · rename_i w kvs xs he
      cases he
      cases hk : keysOf xs with
      | none => rw [hk] at h; cases h
      | some k =>
        rw [hk] at h
        obtain ⟨p, o, rfl, g, _, ho⟩ := dget_t r1 r2 hk
        obtain ⟨u, rfl, z⟩ := ho d h
        exact .inr ⟨p, u, rfl, g, F.sc z⟩
    · cases h
  · refine pe_ix (ix_seq.or ?_) ha hb hs
    intro value slice pins s σ H x y v u Q I rx ry ⟨p, w, ex, g, q⟩ hsl
    subst ex
    obtain rfl : v = Value.ref p := rx
    refine tail_any (dict_typeIs I g) PySem.F.slot_dict_getitem.lookup ?_ hsl
    exact d_getItem hu I g ry fun w' s3 I3 rw' => ⟨w, H, I3, rw', q⟩
end
end TL

namespace TL
open PySem PySem.Spec PyProof.Rows L2

section
variable {e : Pm} {X : Cx} {W : WX} {c : CK} {lv : Nat} {ea eb ec : Expr} {a b c' : IE} {p pos : Pos}

def noStar : Expr → Bool
  | .Starred _ _ => false
  | _ => true
theorem starEach_of {x : Expr} {xs : List Expr} {env : Env} (h : noStar x = true) : starEach (x :: xs) env = (false, eval x env) :: starEach xs env := by
  cases x <;> first | rfl | cases h
theorem starEach_any {env : Env} {pos : Pos} : ∀ {xs : List Expr}, xs.all noStar = true → (backTo pos (starEach xs env)).any (·.1) = false
  | [], _ => rfl
  | x :: xs, h => by
    rw [List.all_cons, Bool.and_eq_true] at h
    rw [starEach_of h.1]
    show (false || (backTo pos (starEach xs env)).any (·.1)) = false
    rw [starEach_any h.2]
    rfl
/-- a built-in function's call, by what its rule says -/
theorem pO_callB {o : Op} {es : List IE} {x : Str} {id : String} {args : List Expr} {r : List V → Hp → VK → Prop} (hc : CallR X (.builtin id) r)
    (hR : ∀ (σ : L2.St) (H : Hp) (fe : List Addr) (G : AP) (ρ' : List D) (d : D) (Q : VK) (H' : Hp) (fe' f' : List Addr) (ds : List D) (vs : List V), Fi e X σ H fe G ρ' d Q H' fe' f' → RdL (e.L X.K) H' (Rv fe' f' G) ds vs → ds.length = es.length → ap o ds = some d → r vs H' Q)
    (hg : Gl X x) (hm : X.mg x = none) (hv : bootBuiltins x = some (.builtin id)) (hn : x ≠ "__name__") (hdb : (x == ("__debug__" : Str)) = false) (ns : noStar ea = true) (ns2 : args.all noStar = true) (ha : PA X (ea :: args) (tAs e X W es)) :
    PE X (.Call (.Name x p) (ea :: args) [] pos) (tE e X W (.op o es)) :=
  opA hR (pe_callB hc hg hm hv ha hn hdb (starEach_of ns) (starEach_any ns2))
theorem pO_callT {o : Op} {es : List IE} {x : Str} {id : String} {args : List Expr} {r : List V → Hp → VK → Prop} (hc : CallR X (.type id) r)
    (hR : ∀ (σ : L2.St) (H : Hp) (fe : List Addr) (G : AP) (ρ' : List D) (d : D) (Q : VK) (H' : Hp) (fe' f' : List Addr) (ds : List D) (vs : List V), Fi e X σ H fe G ρ' d Q H' fe' f' → RdL (e.L X.K) H' (Rv fe' f' G) ds vs → ds.length = es.length → ap o ds = some d → r vs H' Q)
    (hg : Gl X x) (hm : X.mg x = none) (hv : bootBuiltins x = some (.type id)) (hn : x ≠ "__name__") (hdb : (x == ("__debug__" : Str)) = false) (ns : noStar ea = true) (ns2 : args.all noStar = true) (ha : PA X (ea :: args) (tAs e X W es)) :
    PE X (.Call (.Name x p) (ea :: args) [] pos) (tE e X W (.op o es)) :=
  opA hR (pe_callTy hc hg hm hv ha hn hdb (starEach_of ns) (starEach_any ns2))

/-- either of two rules -/
theorem CallR.or {f : Value} {r r' : List V → Hp → VK → Prop} (h : CallR X f r) (h' : CallR X f r') : CallR X f (fun xs H Q => r xs H Q ∨ r' xs H Q) := by
  intro pins s σ H xs us Q I rx q
  rcases q with q | q
  · exact h pins s σ H xs us Q I rx q
  · exact h' pins s σ H xs us Q I rx q
section
variable {σ : L2.St} {H : Hp} {fe : List Addr} {G : AP} {ρ' : List D} {d : D} {Q : VK} {H' : Hp} {fe' f' : List Addr}
theorem rd1 {d1 : D} {vs : List V} (h : RdL (e.L X.K) H' (Rv fe' f' G) [d1] vs) : ∃ x f, vs = [x] ∧ Rep (e.L X.K) H' (Rv fe' f' G) d1 x f := by
  obtain ⟨x, r, f, rfl, q, z⟩ := h
  unfold RdL at z
  subst z
  exact ⟨x, f, rfl, q⟩
theorem rd2 {d1 d2 : D} {vs : List V} (h : RdL (e.L X.K) H' (Rv fe' f' G) [d1, d2] vs) : ∃ x y f g, vs = [x, y] ∧ Rep (e.L X.K) H' (Rv fe' f' G) d1 x f ∧ Rep (e.L X.K) H' (Rv fe' f' G) d2 y g := by
  obtain ⟨x, r, f, rfl, q, z⟩ := h
  obtain ⟨y, g, rfl, q2⟩ := rd1 z
  exact ⟨x, y, f, g, rfl, q, q2⟩
end
variable {es : List IE} {args : List Expr}
theorem FzK.len {L : LC} {H : Hp} {T : AP} : ∀ {kvs : List (Key × D)} {kws : List (Key × V)}, FzK L H T kvs kws → kws.length = kvs.length
  | [], _, h => by unfold FzK at h; rw [h]; rfl
  | (k, d) :: r, _, h => by
    unfold FzK at h
    obtain ⟨v, r', rfl, _, h2⟩ := h
    rw [List.length_cons, List.length_cons, FzK.len h2]
theorem intsD_of : ∀ {xs : List D} {n : List Int}, intsD xs = some n → xs = n.map .int
  | [], n, h => by unfold intsD at h; cases h; rfl
  | x :: r, n, h => by
    cases x with
    | int i =>
      unfold intsD at h
      cases q : intsD r with
      | none => rw [q] at h; cases h
      | some m => rw [q] at h; cases h; rw [intsD_of q]; rfl
    | _ => unfold intsD at h; cases h
theorem rowsD_of : ∀ {xs : List D} {l : List (List Int)}, rowsD xs = some l → xs = l.map rowV
  | [], l, h => by unfold rowsD at h; cases h; rfl
  | x :: r, l, h => by
    cases x with
    | lst w ys =>
      cases w with
      | fz =>
        unfold rowsD at h
        cases q : intsD ys with
        | none => rw [q] at h; cases h
        | some n =>
          cases q2 : rowsD r with
          | none => rw [q, q2] at h; cases h
          | some m =>
            rw [q, q2] at h
            cases h
            rw [List.map_cons, rowsD_of q2, intsD_of q]
            rfl
      | _ => unfold rowsD at h; cases h
    | _ => unfold rowsD at h; cases h
theorem toPys_I : ∀ xs : List Int, toPys (xs.map D.int) = some (xs.map PyData.int)
  | [] => rfl
  | x :: xs => by
    rw [List.map_cons, toPys, toPys_I xs]
    rfl
theorem toPys_rows : ∀ l : List (List Int), toPys (l.map rowV) = some (l.map pyL)
  | [] => rfl
  | n :: l => by
    rw [List.map_cons, toPys, toPys_rows l]
    unfold rowV
    rw [toPy, toPys_I]
    rfl
theorem rows_zip {L : LC} {H : Hp} {T : AP} : ∀ {l : List (List Int)} {vs : List V}, Fzs L H T (l.map rowV) vs → ∃ bs : List (V × List Int), bs.map (·.1) = vs ∧ bs.map (·.2) = l ∧ ∀ b ∈ bs, Fz L H T (rowV b.2) b.1
  | [], vs, h => by
    rw [List.map_nil] at h
    unfold Fzs at h
    exact ⟨[], h.symm, rfl, fun b m => nomatch m⟩
  | n :: l, vs, h => by
    rw [List.map_cons] at h
    unfold Fzs at h
    obtain ⟨v, r, rfl, h1, h2⟩ := h
    obtain ⟨bs, b1, b2, b3⟩ := rows_zip h2
    refine ⟨(v, n) :: bs, by rw [List.map_cons, b1], by rw [List.map_cons, b2], fun b m => ?_⟩
    rcases List.mem_cons.mp m with rfl | m
    · exact h1
    · exact b3 b m
theorem rows_unzip {L : LC} {H : Hp} {T : AP} : ∀ {bs : List (V × List Int)}, (∀ b ∈ bs, Fz L H T (rowV b.2) b.1) → Fzs L H T ((bs.map (·.2)).map rowV) (bs.map (·.1))
  | [], _ => by unfold Fzs; rfl
  | b :: bs, h => by
    rw [List.map_cons, List.map_cons, List.map_cons]
    unfold Fzs
    exact ⟨b.1, _, rfl, h b List.mem_cons_self, rows_unzip fun c m => h c (List.mem_cons_of_mem _ m)⟩
theorem Fzs_at {L : LC} {H : Hp} {T : AP} : ∀ {ds : List D} {vs : List V}, Fzs L H T ds vs → ∀ {i : Nat} {v : V}, vs[i]? = some v → ∃ d, ds[i]? = some d ∧ Fz L H T d v
  | [], _, h, i, v, e => by unfold Fzs at h; rw [h] at e; cases e
  | d :: ds, _, h, i, v, e => by
    unfold Fzs at h
    obtain ⟨u, r, rfl, h1, h2⟩ := h
    cases i with
    | zero => cases e; exact ⟨d, rfl, h1⟩
    | succ i => exact Fzs_at h2 e
theorem pO_len (hg : Gl X "len") (hm : X.mg "len" = none) (ns : noStar ea = true) (ns2 : args.all noStar = true) (ha : PA X (ea :: args) (tAs e X W es)) : PE X (.Call (.Name "len" p) (ea :: args) [] pos) (tE e X W (.op .len es)) := by
  refine pO_callB (CallR.or call_len_seq call_lenD) (fun σ H fe G ρ' d Q H' fe' f' ds vs F rd hl h0 => ?_) hg hm PySem.boot_len (by decide) (by decide) ns ns2 ha
  have h : ap_len ds = some d := h0
  unfold ap_len at h
  split at h
  · cases h
    obtain ⟨x, f, rfl, r⟩ := rd1 rd
    obtain ⟨l, us, rfl, e1, z1⟩ := r.dct
    exact .inr ⟨l, us, rfl, e1, by rw [FzK.len z1]; exact F.sc fz_int⟩
  · cases h
    obtain ⟨x, f, rfl, r⟩ := rd1 rd
    obtain ⟨q, us, rfl, e1, z1⟩ := r.lst
    exact .inl ⟨q, us, rfl, .inl e1, by rw [z1.len]; exact F.sc fz_int⟩
  · cases h
    obtain ⟨x, f, rfl, r⟩ := rd1 rd
    obtain ⟨q, us, rfl, e1, z1⟩ := r.tup
    exact .inl ⟨q, us, rfl, .inr (.inl (.inl e1)), by rw [z1.len]; exact F.sc fz_int⟩
  · cases h
theorem pO_list (hg : Gl X "list") (hm : X.mg "list" = none) (ns : noStar ea = true) (ns2 : args.all noStar = true) (ha : PA X (ea :: args) (tAs e X W es)) : PE X (.Call (.Name "list" p) (ea :: args) [] pos) (tE e X W (.op .list es)) := by
  refine pO_callT call_list_of (fun σ H fe G ρ' d Q H' fe' f' ds vs F rd hl h0 => ?_) hg hm (by decide +kernel) (by decide) (by decide) ns ns2 ha
  have h : ap_list ds = some d := h0
  unfold ap_list at h
  split at h
  · cases h
    obtain ⟨x, f, rfl, r⟩ := rd1 rd
    obtain ⟨q, us, rfl, e1, z1⟩ := r.lst
    exact ⟨q, us, rfl, .inl e1, fun l hn => F.new z1 hn⟩
  · cases h
    obtain ⟨x, f, rfl, r⟩ := rd1 rd
    obtain ⟨q, us, rfl, e1, z1⟩ := r.tup
    exact ⟨q, us, rfl, .inr (.inl (.inl e1)), fun l hn => F.new z1 hn⟩
  · cases h
theorem Fi.old {σ : L2.St} {H : Hp} {fe : List Addr} {G : AP} {ρ' : List D} {d : D} {Q : VK} {H' : Hp} {fe' f' f : List Addr} {v : V} (F : Fi e X σ H fe G ρ' d Q H' fe' f') (n : isOwn d = false) (r : Rep (e.L X.K) H' (Rv fe' f' G) d v f) : Q v H' :=
  F.sc (r.fz_of n).2
theorem pO_tuple (hg : Gl X "tuple") (hm : X.mg "tuple" = none) (ns : noStar ea = true) (ns2 : args.all noStar = true) (ha : PA X (ea :: args) (tAs e X W es)) : PE X (.Call (.Name "tuple" p) (ea :: args) [] pos) (tE e X W (.op .tuple es)) := by
  refine pO_callT call_tuple_of (fun σ H fe G ρ' d Q H' fe' f' ds vs F rd hl h0 => ?_) hg hm (by decide +kernel) (by decide) (by decide) ns ns2 ha
  have h : ap_tuple ds = some d := h0
  unfold ap_tuple at h
  split at h
  · cases h
    obtain ⟨x, f, rfl, r⟩ := rd1 rd
    obtain ⟨q, us, rfl, e1, z1⟩ := r.lst
    exact ⟨q, us, rfl, .inl ⟨e1, fun l hn => F.newT z1 hn⟩⟩
  · cases h
    obtain ⟨x, f, rfl, r⟩ := rd1 rd
    obtain ⟨q, us, ex, e1, z1⟩ := r.tup
    exact ⟨q, us, by rw [ex], .inr ⟨.inl (.inl e1), by rw [← ex]; exact F.old rfl r⟩⟩
  · cases h
theorem keyInts_of {L : LC} {H : Hp} {T : AP} : ∀ {kvs : List (Key × D)} {kws : List (Key × V)} {ns : List Int}, FzK L H T kvs kws → keyInts kvs = some ns → kws.map (·.1) = ns.map Sum.inl
  | [], _, _, h, e => by
    unfold FzK at h
    unfold keyInts at e
    cases e
    rw [h]; rfl
  | (k, d) :: r, _, ns, h, e => by
    unfold FzK at h
    obtain ⟨v, r', rfl, _, h2⟩ := h
    cases k with
    | inr x => unfold keyInts at e; cases e
    | inl i =>
      unfold keyInts at e
      cases q : keyInts r with
      | none => rw [q] at e; cases e
      | some ms =>
        rw [q] at e
        cases e
        rw [List.map_cons, List.map_cons, keyInts_of h2 q]
theorem pO_sorted (hc : X.calm = true) (hu : X.A.units + 64 < cLine) (hg : Gl X "sorted") (hm : X.mg "sorted" = none) (ns : noStar ea = true) (ns2 : args.all noStar = true) (ha : PA X (ea :: args) (tAs e X W es)) : PE X (.Call (.Name "sorted" p) (ea :: args) [] pos) (tE e X W (.op .sorted es)) := by
  refine pO_callB (CallR.or (CallR.or cr_sortedI (call_sortedDI hc)) (cr_sortedL hu)) (fun σ H fe G ρ' d Q H' fe' f' ds vs F rd hl h0 => ?_) hg hm (by decide +kernel) (by decide) (by decide) ns ns2 ha
  have h : ap_sorted ds = some d := h0
  unfold ap_sorted at h
  split at h
  · rename_i w xs
    cases q : intsD xs with
    | none =>
      rw [q] at h
      dsimp only at h
      cases q2 : rowsD xs with
      | none => rw [q2] at h; cases h
      | some rs =>
        rw [q2] at h
        cases h
        obtain ⟨x, f, rfl, r⟩ := rd1 rd
        obtain ⟨l, us, rfl, e1, z1⟩ := r.lst
        have ex := rowsD_of q2
        subst ex
        have dp := toPys_dp _ _ _ z1 (toPys_rows rs)
        obtain ⟨bs, b1, b2, b3⟩ := rows_zip z1
        subst b1
        subst b2
        have e3 : (bs.map (·.2)).map pyL = bs.map fun b => pyL b.2 := by rw [List.map_map]; rfl
        rw [e3] at dp
        refine .inr ⟨l, bs, rfl, e1, dp, fun p hn => ?_⟩
        have e4 : (bs.map (·.2)).mergeSort (fun x y => !ltL y x) = (bs.mergeSort rowLe).map (·.2) := (List.map_mergeSort (r := rowLe) (f := fun x : V × List Int => x.2) fun a _ b _ => rfl).symm
        rw [e4] at F
        exact F.new (rows_unzip fun b m => b3 b (List.mem_mergeSort.mp m)) hn
    | some ks =>
      rw [q] at h
      cases h
      obtain ⟨x, f, rfl, r⟩ := rd1 rd
      obtain ⟨l, us, rfl, e1, z1⟩ := r.lst
      have hu := z1.ints q
      subst hu
      refine .inl (.inl ⟨l, ks, rfl, e1, fun ns' p pm pw hn => ?_⟩)
      rw [sortI_of pm pw]
      exact F.new (Fzs.of_ints _) hn
  · rename_i w kvs
    cases q : keyInts kvs with
    | none => rw [q] at h; cases h
    | some ks =>
      rw [q] at h
      dsimp only at h
      split at h
      · rename_i h64
        cases h
        obtain ⟨x, f, rfl, r⟩ := rd1 rd
        obtain ⟨l, us, rfl, e1, z1⟩ := r.dct
        refine .inl (.inr ⟨l, us, ks, rfl, e1, keyInts_of z1 q, h64, fun ns' p pm pw hn => ?_⟩)
        rw [sortI_of pm pw]
        exact F.new (Fzs.of_ints _) hn
      · cases h
  · cases h
theorem pO_sum (hc : X.calm = true) (hg : Gl X "sum") (hm : X.mg "sum" = none) (ns : noStar ea = true) (ns2 : args.all noStar = true) (ha : PA X (ea :: args) (tAs e X W es)) : PE X (.Call (.Name "sum" p) (ea :: args) [] pos) (tE e X W (.op .sum es)) := by
  refine pO_callB (cr_sum hc) (fun σ H fe G ρ' d Q H' fe' f' ds vs F rd hl h0 => ?_) hg hm (by decide +kernel) (by decide) (by decide) ns ns2 ha
  have h : ap_sum ds = some d := h0
  unfold ap_sum at h
  split at h
  · rename_i w xs
    cases q : intsD xs with
    | none => rw [q] at h; cases h
    | some ks =>
      rw [q] at h
      cases h
      obtain ⟨x, f, rfl, r⟩ := rd1 rd
      obtain ⟨l, us, rfl, e1, z1⟩ := r.lst
      have hu := z1.ints q
      subst hu
      exact ⟨l, ks, rfl, e1, F.sc fz_int⟩
  · cases h
theorem pO_max1 (hc : X.calm = true) (hg : Gl X "max") (hm : X.mg "max" = none) (ns : noStar ea = true) (ns2 : args.all noStar = true) (ha : PA X (ea :: args) (tAs e X W es)) : PE X (.Call (.Name "max" p) (ea :: args) [] pos) (tE e X W (.op .max1 es)) := by
  refine pO_callB (cr_max hc) (fun σ H fe G ρ' d Q H' fe' f' ds vs F rd hl h0 => ?_) hg hm (by decide +kernel) (by decide) (by decide) ns ns2 ha
  have h : ap_max1 ds = some d := h0
  unfold ap_max1 at h
  split at h
  · rename_i w xs
    split at h
    · rename_i n ks q
      cases h
      obtain ⟨x, f, rfl, r⟩ := rd1 rd
      obtain ⟨l, us, rfl, e1, z1⟩ := r.lst
      have hu := z1.ints q
      subst hu
      refine ⟨l, n :: ks, rfl, e1, by simp, fun m hm1 hm2 => ?_⟩
      obtain ⟨k1, k2⟩ := maxI_mem n ks
      rw [Int.le_antisymm (k2 m hm1) (hm2 _ k1)]
      exact F.sc fz_int
    · cases h
  · cases h
theorem pO_min1 (hc : X.calm = true) (hu : X.A.units + 64 < cLine) (hg : Gl X "min") (hm : X.mg "min" = none) (ns : noStar ea = true) (ns2 : args.all noStar = true) (ha : PA X (ea :: args) (tAs e X W es)) : PE X (.Call (.Name "min" p) (ea :: args) [] pos) (tE e X W (.op .min1 es)) := by
  refine pO_callB (CallR.or (cr_min hc) (cr_minL hc hu)) (fun σ H fe G ρ' d Q H' fe' f' ds vs F rd hl h0 => ?_) hg hm (by decide +kernel) (by decide) (by decide) ns ns2 ha
  have h : ap_min1 ds = some d := h0
  unfold ap_min1 at h
  split at h
  · rename_i w xs
    split at h
    · rename_i n ks q
      cases h
      obtain ⟨x, f, rfl, r⟩ := rd1 rd
      obtain ⟨l, us, rfl, e1, z1⟩ := r.lst
      have hu := z1.ints q
      subst hu
      refine .inl ⟨l, n :: ks, rfl, e1, by simp, fun m hm1 hm2 => ?_⟩
      obtain ⟨k1, k2⟩ := minI_mem n ks
      rw [Int.le_antisymm (hm2 _ k1) (k2 m hm1)]
      exact F.sc fz_int
    · split at h
      · rename_i n rs q2
        cases h
        obtain ⟨x, f, rfl, r⟩ := rd1 rd
        obtain ⟨l, us, rfl, e1, z1⟩ := r.lst
        have ex := rowsD_of q2
        subst ex
        have dp := toPys_dp _ _ _ z1 (toPys_rows (n :: rs))
        refine .inr ⟨l, us, n, rs, rfl, e1, dp, fun i v hv hi => ?_⟩
        obtain ⟨d', hd, z⟩ := Fzs_at z1 hv
        have hd2 : ((n :: rs).map rowV)[i]? = some (rowV (minL n rs)) := by rw [List.getElem?_map, hi]; rfl
        rw [hd2] at hd
        cases hd
        exact F.sc z
      · cases h
  · cases h
theorem pO_max2 (hc : X.calm = true) (hg : Gl X "max") (hm : X.mg "max" = none) (ns : noStar ea = true) (ns2 : args.all noStar = true) (ha : PA X (ea :: args) (tAs e X W es)) : PE X (.Call (.Name "max" p) (ea :: args) [] pos) (tE e X W (.op .max2 es)) := by
  refine pO_callB (call_max2 hc) (fun σ H fe G ρ' d Q H' fe' f' ds vs F rd hl h0 => ?_) hg hm (by decide +kernel) (by decide) (by decide) ns ns2 ha
  have h : ap_max2 ds = some d := h0
  unfold ap_max2 at h
  split at h
  · rename_i i j
    cases h
    obtain ⟨x, y, f, g, rfl, r1, r2⟩ := rd2 rd
    cases r1.int
    cases r2.int
    refine ⟨i, j, rfl, ?_⟩
    rw [show (if j > i then j else i) = max i j by omega]
    exact F.sc fz_int
  · cases h
theorem pO_min2 (hc : X.calm = true) (hg : Gl X "min") (hm : X.mg "min" = none) (ns : noStar ea = true) (ns2 : args.all noStar = true) (ha : PA X (ea :: args) (tAs e X W es)) : PE X (.Call (.Name "min" p) (ea :: args) [] pos) (tE e X W (.op .min2 es)) := by
  refine pO_callB (call_min2 hc) (fun σ H fe G ρ' d Q H' fe' f' ds vs F rd hl h0 => ?_) hg hm (by decide +kernel) (by decide) (by decide) ns ns2 ha
  have h : ap_min2 ds = some d := h0
  unfold ap_min2 at h
  split at h
  · rename_i i j
    cases h
    obtain ⟨x, y, f, g, rfl, r1, r2⟩ := rd2 rd
    cases r1.int
    cases r2.int
    refine ⟨i, j, rfl, ?_⟩
    rw [show (if j < i then j else i) = min i j by omega]
    exact F.sc fz_int
  · cases h
theorem pO_abs (hg : Gl X "abs") (hm : X.mg "abs" = none) (ns : noStar ea = true) (ns2 : args.all noStar = true) (ha : PA X (ea :: args) (tAs e X W es)) : PE X (.Call (.Name "abs" p) (ea :: args) [] pos) (tE e X W (.op .abs es)) := by
  refine pO_callB call_abs (fun σ H fe G ρ' d Q H' fe' f' ds vs F rd hl h0 => ?_) hg hm (by decide +kernel) (by decide) (by decide) ns ns2 ha
  have h : ap_abs ds = some d := h0
  unfold ap_abs at h
  split at h
  · cases h
    obtain ⟨x, f, rfl, r⟩ := rd1 rd
    cases r.int
    exact ⟨_, rfl, F.sc fz_int⟩
  · cases h
theorem pO_intb (hg : Gl X "int") (hm : X.mg "int" = none) (ns : noStar ea = true) (ns2 : args.all noStar = true) (ha : PA X (ea :: args) (tAs e X W es)) : PE X (.Call (.Name "int" p) (ea :: args) [] pos) (tE e X W (.op .intb es)) := by
  refine pO_callT call_int1 (fun σ H fe G ρ' d Q H' fe' f' ds vs F rd hl h0 => ?_) hg hm (by decide +kernel) (by decide) (by decide) ns ns2 ha
  have h : ap_intb ds = some d := h0
  unfold ap_intb at h
  split at h
  · cases h
    obtain ⟨x, f, rfl, r⟩ := rd1 rd
    cases r.bl
    exact .inr ⟨_, rfl, F.sc fz_int⟩
  · cases h
/-! ### isinstance -/
def kindOf : D → Option String
  | .non => some "NoneType" | .bl _ => some "bool" | .int _ => some "int" | .str _ => some "str" | .lst _ _ => some "list" | .tup _ => some "tuple" | .dct _ _ => some "dict" | _ => none
theorem tyX_of {L : LC} {H : Hp} {T : AP} {d : D} {v : V} {f : List Addr} (r : Rep L H T d v f) {t : String}
    (ht : kindOf d = some t) : TyX L.K H v (.type t) := by
  cases d with
  | non => cases ht; rw [r.non]; exact .base .non
  | bl b => cases ht; rw [r.bl]; exact .base (.bl b)
  | int b => cases ht; rw [r.int]; exact .base (.int b)
  | str b => cases ht; rw [r.str]; exact .base (.str b)
  | lst w xs =>
    cases ht
    obtain ⟨a, vs, rfl, e1, _⟩ := r.lst
    rcases e1 with (e1 | ⟨o, e1⟩) | ⟨o, its, n, e1, e2, _⟩
    · exact .base (.lst e1)
    · exact .base (.frz e1)
    · exact .kList e1 e2
  | tup xs =>
    cases ht
    obtain ⟨a, vs, rfl, e1, _⟩ := r.tup
    exact .base (.tup e1)
  | dct w xs =>
    cases ht
    obtain ⟨a, vs, rfl, e1, _⟩ := r.dct
    rcases e1 with e1 | ⟨o, e1⟩
    · exact .base (.dK e1)
    · exact .fDict e1
  | _ => cases ht
theorem pO_isi {o : Op} {cn : Str} {ct : String} {p2 : Pos} (hap : ∀ d1 d, ap o [d1] = some d → ∃ t b, kindOf d1 = some t ∧ d = .bl b ∧ ∀ K : PySem.W.Frag, PySem.W.kitOne K (.type t) (.type ct) = some b)
    (hg : Gl X "isinstance") (hm : X.mg "isinstance" = none) (hg2 : Gl X cn) (hm2 : X.mg cn = none) (hv2 : bootBuiltins cn = some (.type ct)) (hn2 : cn ≠ "__name__") (hd2 : (cn == ("__debug__" : Str)) = false) (ns : noStar ea = true) (ha : PE X ea (tO e X W a)) :
    PE X (.Call (.Name "isinstance" p) [ea, .Name cn p2] [] pos) (tE e X W (.op o [a])) := by
  refine op1 (r := fun x H Q => rIsi X.K [x, .ty ct] H Q) (fun σ H fe G ρ' d Q H' fe' f' d1 x F r1 h0 => ?_)
    (PE.mk' fun σ H Q h => ⟨_, pe_callB call_isi hg hm (by decide +kernel) (pa_cons ha (pa_cons (pe_bltn hg2 hm2 hv2 (v := .ty ct) rfl hn2 hd2) pa_nil) (starEach_of ns)) (by decide) (by decide) (starEach_of ns) rfl, h⟩)
  obtain ⟨f1, r1⟩ := r1
  obtain ⟨t, b', h1, rfl, h2⟩ := hap d1 d h0
  exact ⟨x, .ty ct, .type t, .type ct, b', rfl, .ty ct, tyX_of r1 h1, h2 _, F.sc fz_bl⟩
end
end TL

namespace TL
open PySem PySem.Spec PyProof.Rows L2

section
variable {e : Pm} {X : Cx} {W : WX} {c : CK} {lv : Nat} {ea eb ec : Expr} {a b c' : IE} {p p2 pos : Pos}
/-- not the bare super() -/
def noSup : Expr → Bool
  | .Call (.Name _ _) [] [] _ => false
  | _ => true
theorem base_of {o : Expr} {m : Str} {env : Env} {w : Sem Value} (h : noSup o = true) : attributeBase o m env w = w := by
  unfold attributeBase
  split
  · cases h
  · rfl
theorem two_trees {x y : Expr} {env : Env} {pos : Pos} (h1 : noStar x = true) (h2 : noStar y = true) : backTo pos (starEach [x, y] env) = [(false, eval x env), (false, eval y env)] := by
  rw [starEach_of h1, starEach_of h2]; rfl
theorem one_tree {x : Expr} {env : Env} {pos : Pos} (h1 : noStar x = true) : backTo pos (starEach [x] env) = [(false, eval x env)] := by
  rw [starEach_of h1]; rfl
theorem pO_get {apos : Pos} (hu : X.A.units + 1 < cLine) (ns : noSup ea = true) (n1 : noStar eb = true) (n2 : noStar ec = true) (hl : (apos.endLine == pos.line) = true) (ha : PE X ea (tO e X W a)) (hb : PE X eb (tO e X W b)) (hc : PE X ec (tO e X W c')) :
    PE X (.Call (.Attribute ea "get" apos) [eb, ec] [] pos) (tE e X W (.op .get [a, b, c'])) := by
  have m : M2 X ea "get" apos eb ec pos := ⟨base_of ns, by rw [two_trees n1 n2]; rfl, hl, two_trees n1 n2⟩
  refine opM (P := fun x H => ∃ q, x = .ref q ∧ IsD H q) (r := fun vs H Q => ∃ q y z o, vs = [.ref q, y, z] ∧ DGet H q y o ∧ Q (o.getD z) H)
    (fun ρ d v H1 T f pre hf rep => ?_) (fun σ H fe G ρ' d Q H' fe' f' ds vs F rd hlen h0 => ?_) (PE.mk' fun σ H Q h => ⟨_, pe_dget2 hu ha hb hc m, ?_⟩)
  · cases a with
    | var i =>
      have hd : ρ[i]? = some d := hf
      have pre : isDct (ρ.getD i .und) = true := pre
      rw [List.getD_eq_getElem?_getD, hd] at pre
      cases d with
      | dct w kvs =>
        obtain ⟨q, kws, rfl, rd, _⟩ := rep.dct
        exact ⟨q, rfl, .inl ⟨kws, rd⟩⟩
      | _ => cases pre
    | _ => cases pre
  · have h : ap_get ds = some d := h0
    unfold ap_get at h
    split at h
    · rename_i w kvs x' z'
      obtain ⟨x, r, f1, rfl, r1, rd⟩ := rd
      obtain ⟨y, z, f2, f3, rfl, r2, r3⟩ := rd2 rd
      cases hk : keyOf x' with
      | none => rw [hk] at h; cases h
      | some k =>
        rw [hk] at h
        dsimp only at h
        split at h
        · cases h
        · rename_i no
          cases h
          obtain ⟨l, kws, rfl, rd, zz⟩ := r1.dct
          refine ⟨l, y, z, valV kws k, rfl, .inl ⟨kws, k, rd, keyOf_v r2 hk, rfl⟩, ?_⟩
          rcases zz.get k with ⟨h1, h2⟩ | ⟨d', u, h1, h2, h3⟩
          · rw [h2]
            rw [h1] at F
            exact F.old (by simpa using no) r3
          · rw [h2]
            rw [h1] at F
            exact F.sc h3
    · cases h
  · refine tO_mono h fun x H1 q => ?_
    obtain ⟨⟨q1, ex, id⟩, q⟩ := q
    refine ⟨q1, ex, id, tO_mono q fun y H2 q => ?_⟩
    have q2 : tO e X W c' σ H2 fun z H3 => ∃ q y' z' o, [x, y, z] = [.ref q, y', z'] ∧ DGet H3 q y' o ∧ Q (o.getD z') H3 := q
    refine tO_mono q2 fun z H3 q3 => ?_
    obtain ⟨q', y', z', o, ev, g, qq⟩ := q3
    cases ev
    cases ex
    exact ⟨o, g, qq⟩
/-! ### slices -/
theorem pO_slE (ha : PE X ea (tO e X W a)) (hb : PE X eb (tO e X W b)) : PE X (.Subscript ea (.Slice (some eb) none none p2) pos) (tE e X W (.op .slE [a, b])) := by
  refine op2 (r := fun x y H Q => ∃ i, y = .int i ∧ rSlL X.K x (some i) none H Q) (fun σ H fe G ρ' d Q H' fe' f' d1 d2 x y F r1 r2 h0 => ?_)
    (PE.mk' fun σ H Q h => ⟨_, pe_slice sl_list ha (po_some hb) po_none, h⟩)
  obtain ⟨f1, r1⟩ := r1
  obtain ⟨f2, r2⟩ := r2
  have h : ap_slE [d1, d2] = some d := h0
  unfold ap_slE at h
  split at h
  · rename_i w xs i he
    cases he; cases h
    obtain ⟨l, vs, rfl, e1, z1⟩ := r1.lst
    exact ⟨i, r2.int, l, vs, rfl, e1, fun p hn => F.new (z1.cut _ _) hn⟩
  · cases h
theorem pO_sl0 (ha : PE X ea (tO e X W a)) (hb : PE X eb (tO e X W b)) : PE X (.Subscript ea (.Slice none (some eb) none p2) pos) (tE e X W (.op .sl0 [a, b])) := by
  refine op2 (r := fun x y H Q => ∃ i, y = .int i ∧ rSlL X.K x none (some i) H Q) (fun σ H fe G ρ' d Q H' fe' f' d1 d2 x y F r1 r2 h0 => ?_)
    (PE.mk' fun σ H Q h => ⟨_, pe_slice sl_list ha po_none (po_some hb), h⟩)
  obtain ⟨f1, r1⟩ := r1
  obtain ⟨f2, r2⟩ := r2
  have h : ap_sl0 [d1, d2] = some d := h0
  unfold ap_sl0 at h
  split at h
  · rename_i w xs i he
    cases he; cases h
    obtain ⟨l, vs, rfl, e1, z1⟩ := r1.lst
    exact ⟨i, r2.int, l, vs, rfl, e1, fun p hn => F.new (z1.cut _ _) hn⟩
  · cases h
theorem pO_sl {i j k : Nat} (ha : PE X ea (tO e X W (.var i))) (hb : PE X eb (tO e X W (.var j))) (hc : PE X ec (tO e X W (.var k))) : PE X (.Subscript ea (.Slice (some eb) (some ec) none p2) pos) (tE e X W (.op .sl [.var i, .var j, .var k])) := by
  refine PE.mk' fun σ H Q h => ⟨_, pe_slice sl_list ha (po_some hb) (po_some hc), ?_⟩
  obtain ⟨ρ, fe, G, s, h⟩ := h
  unfold evE at h
  split at h
  · exact h.elim
  rename_i pre
  have pre' : isIntD (ρ.getD j .und) = true := by simpa [preOk] using pre
  unfold evB evB evB evB at h
  have hd : ∀ i, isLck (ρ.getD i .und) = false → ∃ d, ρ[i]? = some d ∧ ρ.getD i .und = d ∧ isLck d = false := fun i hl => by
    cases q : ρ[i]? with
    | none => rw [List.getD_eq_getElem?_getD, q] at hl; cases hl
    | some d => rw [List.getD_eq_getElem?_getD, q] at hl; exact ⟨d, rfl, by rw [List.getD_eq_getElem?_getD, q]; rfl, hl⟩
  by_cases l1 : isLck (ρ.getD i .und) = true
  · rw [if_pos l1] at h; exact h.elim
  rw [if_neg l1] at h
  by_cases l2 : isLck (ρ.getD j .und) = true
  · rw [if_pos l2] at h; exact h.elim
  rw [if_neg l2] at h
  by_cases l3 : isLck (ρ.getD k .und) = true
  · rw [if_pos l3] at h; exact h.elim
  rw [if_neg l3] at h
  obtain ⟨d1, e1, g1, n1⟩ := hd i (Bool.eq_false_iff.mpr l1)
  obtain ⟨d2, e2, g2, n2⟩ := hd j (Bool.eq_false_iff.mpr l2)
  obtain ⟨d3, e3, g3, n3⟩ := hd k (Bool.eq_false_iff.mpr l3)
  obtain ⟨v1, f1, s1, r1, _⟩ := s.get e1 n1
  obtain ⟨v2, f2, s2, r2, _⟩ := s.get e2 n2
  obtain ⟨v3, f3, s3, r3, _⟩ := s.get e3 n3
  dsimp only at h
  split at h
  · exact h.elim
  dsimp only [lentB] at h
  rw [g1, g2, g3] at h
  rw [g2] at pre'
  cases d2 with
  | int n =>
    cases r2.int
    have h' : EndE e X W σ H fe G (match ap_sl [d1, .int n, d3] with | some d => .ok ρ d | none => .stuck) Q := h
    unfold ap_sl at h'
    split at h'
    · rename_i d hx
      split at hx
      · rename_i w xs i' j' he
        cases he
        cases hx
        cases r3.int
        obtain ⟨l, vs, rfl, q1, z1⟩ := r1.lst
        have F : Fi e X σ H fe G ρ (.lst .own (cutD xs (some n) (some j'))) Q H fe [] := ⟨h', s, Stp.refl⟩
        exact ⟨_, s1, _, s2, n, rfl, _, s3, j', rfl, l, vs, rfl, q1, fun p hn => F.new (z1.cut _ _) hn⟩
      · cases hx
    · exact h'.elim
  | _ => cases pre'
/-! ### list(range(..)) -/
theorem rgV_fz {L : LC} {H : Hp} {T : AP} (lo : Int) : ∀ n : Nat, Fzs L H T (rangeD lo n) ((List.range n).map fun i => V.int (lo + (i : Nat)))
  | 0 => by unfold rangeD; exact Fzs.nil
  | n + 1 => by
    unfold rangeD
    rw [List.range_succ, List.map_append, List.map_append]
    exact (rgV_fz lo n).append (Fzs.one fz_int)
theorem pO_range1 {p3 pos3 : Pos} (hc : X.calm = true) (hg : Gl X "list") (hm : X.mg "list" = none) (hg2 : Gl X "range") (hm2 : X.mg "range" = none) (ns : noStar ea = true) (ha : PE X ea (tO e X W a)) :
    PE X (.Call (.Name "list" p) [.Call (.Name "range" p3) [ea] [] pos3] [] pos) (tE e X W (.op .rangeL [a])) := by
  refine op1 (r := fun x H Q => ∃ n, x = .int n ∧ RgOk 0 n ∧ ∀ q, H q = none → Q (.ref q) (upd H q (.lst (rgV 0 n)))) (fun σ H fe G ρ' d Q H' fe' f' d1 x F r1 h0 => ?_)
    (PE.mk' fun σ H Q h => ⟨_, pe_listRg hc hg hm (prg_1 hg2 hm2 ha (starEach_of ns)) (starEach_of rfl), h⟩)
  obtain ⟨f1, r1⟩ := r1
  have h : ap_rangeL [d1] = some d := h0
  unfold ap_rangeL at h
  dsimp only at h
  cases hr : rng [d1] with
  | none => rw [hr] at h; cases h
  | some q =>
    obtain ⟨lo, n⟩ := q
    rw [hr] at h
    dsimp only at h
    split at h
    · rename_i hl
      cases h
      unfold rng at hr
      split at hr
      · rename_i j he
        cases he
        split at hr
        · rename_i hb
          cases hr
          unfold lenOk at hl
          have hl := of_decide_eq_true hl
          refine ⟨j, r1.int, ⟨by omega, by omega, hb.1, hb.2, by omega⟩, fun q hn => ?_⟩
          have : rgV 0 j = (List.range j.toNat).map fun i => V.int (0 + (i : Nat)) := by unfold rgV; rw [Int.sub_zero]
          rw [this]
          exact F.new (rgV_fz 0 _) hn
        · cases hr
      · rename_i he; cases he
      · cases hr
    · cases h
end
end TL

namespace TL
open PySem PySem.Spec PyProof.Rows L2

section
variable {e : Pm} {X : Cx} {W : WX} {σ : L2.St} {H : Hp} {fe : List Addr} {G : AP} {ρ : List D}
/-! ### a call's arguments -/
def ArgA (L : LC) (H : Hp) (T : AP) (σ : L2.St) : List IE → List D → List V → Prop
  | [], ds, vs => ds = [] ∧ vs = []
  | ie :: es, ds, vs => ∃ d r v vs', ds = d :: r ∧ vs = v :: vs' ∧ ArgA L H T σ es r vs' ∧ match isVar ie with
    | some i => σ[i]? = some (some v)
    | none => Fz L H T d v
def EndA (e : Pm) (X : Cx) (W : WX) (σ : L2.St) (H : Hp) (fe : List Addr) (G : AP) (es : List IE) (r : EsR) (Q : List V → Hp → Prop) : Prop :=
  match r with
  | .ok ρ' ds => ∀ vs H' fe', SR (e.L X.K) ρ' σ H' fe' [] G → ArgA (e.L X.K) H' (Rv fe' [] G) σ es ds vs → Stp H fe [] G H' fe' [] → Q vs H'
  | .exn c ρ' => Flew e X W σ H fe G c ρ'
  | .stuck => False
theorem look_slot {ρ : List D} {i : Nat} (hl : isLck (ρ.getD i .und) = false) : ∃ d, ρ[i]? = some d ∧ ρ.getD i .und = d ∧ isLck d = false := by
  cases q : ρ[i]? with
  | none => rw [List.getD_eq_getElem?_getD, q] at hl; cases hl
  | some d => rw [List.getD_eq_getElem?_getD, q] at hl; exact ⟨d, rfl, by rw [List.getD_eq_getElem?_getD, q]; rfl, hl⟩
theorem tO_of {ie : IE} (hv : ¬ ∃ i, ie = .var i) : tO e X W ie = tE e X W ie ∧ isVar ie = none := by
  cases ie <;> first | exact ⟨rfl, rfl⟩ | exact absurd ⟨_, rfl⟩ hv
theorem evA_cons {T : Tbl} {ie : IE} {es : List IE} (hv : ¬ ∃ i, ie = .var i) : evA T (ie :: es) ρ = (match evE T ie ρ with
    | .ok ρ1 d => if isLck d then .stuck else match evA T es ρ1 with
      | .ok ρ2 ds => .ok ρ2 (frz d :: ds)
      | .exn c ρ2 => .exn c ρ2
      | .stuck => .stuck
    | .exn c ρ1 => .exn c ρ1
    | .stuck => .stuck) := by
  cases ie <;> first | exact absurd ⟨_, rfl⟩ hv | ((conv => lhs; unfold evA) <;> rfl)
theorem evA_ok : ∀ (es : List IE) (ρ : List D) (H : Hp) (fe : List Addr) (Q : List V → Hp → Prop), SR (e.L X.K) ρ σ H fe [] G → EndA e X W σ H fe G es (evA e.T es ρ) Q → tAs e X W es σ H Q
  | [], ρ, H, fe, Q, s, h => by
    unfold evA at h
    exact h [] H fe s ⟨rfl, rfl⟩ Stp.refl
  | ie :: es, ρ, H, fe, Q, s, h => by
    show tO e X W ie σ H fun x H1 => tAs e X W es σ H1 fun xs H2 => Q (x :: xs) H2
    by_cases hv : ∃ i, ie = .var i
    · obtain ⟨i, rfl⟩ := hv
      unfold evA at h
      split at h
      · exact h.elim
      · rename_i hl
        obtain ⟨d, hd, _, nl⟩ := look_slot (Bool.eq_false_iff.mpr hl)
        obtain ⟨v, f1, e1, _, _⟩ := s.get hd nl
        refine ⟨v, e1, evA_ok es ρ H fe _ s ?_⟩
        cases q : evA e.T es ρ with
        | ok ρ2 ds =>
          rw [q] at h
          intro vs H' fe' s' r t
          exact h (v :: vs) H' fe' s' ⟨_, _, v, vs, rfl, rfl, r, e1⟩ t
        | exn c ρ2 => rw [q] at h; exact h
        | stuck => rw [q] at h; exact h
    · obtain ⟨ho, hn⟩ := tO_of (e := e) (X := X) (W := W) hv
      rw [ho]
      rw [evA_cons hv] at h
      refine ⟨ρ, fe, G, s, ?_⟩
      cases q : evE e.T ie ρ with
      | stuck => rw [q] at h; exact h
      | exn c ρ1 => rw [q] at h; exact h
      | ok ρ1 d =>
        rw [q] at h
        dsimp only at h
        split at h
        · exact h.elim
        · intro v H1 fe1 f1 s1 r1 t1
          obtain ⟨s1', t1', z1⟩ := s1.shed r1
          refine evA_ok es ρ1 H1 fe1 _ s1' ?_
          cases q2 : evA e.T es ρ1 with
          | stuck => rw [q2] at h; exact h
          | exn c ρ2 =>
            rw [q2] at h
            intro H2 fe2 s2 t2
            exact h H2 fe2 s2 ((t1.trans t1').trans t2)
          | ok ρ2 ds =>
            rw [q2] at h
            intro vs H2 fe2 s2 r2 t2
            refine h (v :: vs) H2 fe2 s2 ⟨frz d, ds, v, vs, rfl, rfl, r2, ?_⟩ ((t1.trans t1').trans t2)
            rw [hn]
            exact z1.step t2.fr

/-! ### names given up -/
mutual
theorem frz_frz : ∀ d : D, frz (frz d) = frz d
  | .und => rfl | .non => rfl | .bl _ => rfl | .int _ => rfl | .str _ => rfl | .tup _ => rfl
  | .lst .fz _ => rfl | .lst .own _ => rfl | .lst .scr _ => rfl
  | .dct _ _ => rfl | .dtt _ _ => rfl
  | .obj _ c fs => by
    show D.obj .fz c (frzF (frzF fs)) = D.obj .fz c (frzF fs)
    rw [frzF_frzF fs]
  | .dls _ => rfl
  | .obn c fs => by
    show D.obj .fz c (frzF (frzF fs)) = D.obj .fz c (frzF fs)
    rw [frzF_frzF fs]
theorem frzF_frzF : ∀ fs : List (Nat × D), frzF (frzF fs) = frzF fs
  | [] => rfl
  | (n, d) :: r => by
    show (n, frz (frz d)) :: frzF (frzF r) = (n, frz d) :: frzF r
    rw [frz_frz d, frzF_frzF r]
end
theorem isLck_frz (d : D) : isLck (frz d) = isLck d := by
  cases d with
  | lst w xs => cases w <;> rfl
  | _ => rfl
theorem give_ok {L : LC} : ∀ (es : List IE) (ρ : List D) (fe : List Addr), SR L ρ σ H fe [] G → ∃ fe', SR L (give es ρ) σ H fe' [] G ∧ Stp H fe [] G H fe' [] ∧ (∀ a ∈ fe', a ∈ fe) ∧
    ∀ i, .var i ∈ es → ∀ d, ρ[i]? = some d → isLck d = false → ∃ v, σ[i]? = some (some v) ∧ Fz L H (Rv fe' [] G) (frz d) v
  | [], ρ, fe, s => ⟨fe, s, Stp.refl, fun _ m => m, fun _ m => nomatch m⟩
  | ie :: es, ρ, fe, s => by
    by_cases hv : ∃ i, ie = .var i
    · obtain ⟨i, rfl⟩ := hv
      cases q : ρ[i]? with
      | none =>
        have hg : give (.var i :: es) ρ = give es ρ := by
          show give es (match ρ[i]? with | some d => if isOwn d then ρ.set i (frz d) else ρ | none => ρ) = _
          rw [q]
        obtain ⟨fe', h1, h2, h3, h4⟩ := give_ok es ρ fe s
        rw [hg]
        refine ⟨fe', h1, h2, h3, fun j m d hd nl => ?_⟩
        rcases List.mem_cons.mp m with m | m
        · cases m; rw [q] at hd; cases hd
        · exact h4 j m d hd nl
      | some d0 =>
        have hg : give (.var i :: es) ρ = give es (if isOwn d0 then ρ.set i (frz d0) else ρ) := by
          show give es (match ρ[i]? with | some d => if isOwn d then ρ.set i (frz d) else ρ | none => ρ) = _
          rw [q]
        rw [hg]
        by_cases ow : isOwn d0 = true
        · rw [if_pos ow]
          have nl : isLck d0 = false := by cases d0 <;> first | rfl | cases ow
          obtain ⟨v, fe1, e1, s1, t1, z1, sub1⟩ := s.give q nl
          obtain ⟨fe', h1, h2, h3, h4⟩ := give_ok es _ fe1 s1
          refine ⟨fe', h1, t1.trans h2, fun a m => sub1 a (h3 a m), fun j m d hd nl' => ?_⟩
          by_cases hj : i = j
          · subst hj
            rw [q] at hd; cases hd
            exact ⟨v, e1, z1.step h2.fr⟩
          · rcases List.mem_cons.mp m with m | m
            · cases m; exact absurd rfl hj
            · exact h4 j m d (by rw [List.getElem?_set_ne hj]; exact hd) nl'
        · rw [if_neg ow]
          obtain ⟨fe', h1, h2, h3, h4⟩ := give_ok es ρ fe s
          refine ⟨fe', h1, h2, h3, fun j m d hd nl => ?_⟩
          rcases List.mem_cons.mp m with m | m
          · cases m
            rw [q] at hd; cases hd
            obtain ⟨v, f1, e1, r1, _⟩ := s.get q nl
            have z := (r1.fz_of (Bool.eq_false_iff.mpr ow)).2
            exact ⟨v, e1, by rw [frz_fz _ _ z]; exact z.step h2.fr⟩
          · exact h4 j m d hd nl
    · have hg : give (ie :: es) ρ = give es ρ := by
        cases ie <;> first | rfl | exact absurd ⟨_, rfl⟩ hv
      obtain ⟨fe', h1, h2, h3, h4⟩ := give_ok es ρ fe s
      rw [hg]
      refine ⟨fe', h1, h2, h3, fun j m d hd nl => ?_⟩
      rcases List.mem_cons.mp m with m | m
      · exact absurd ⟨j, m.symm⟩ hv
      · exact h4 j m d hd nl
/-- the values at the call -/
theorem lent_ok {L : LC} {fe fe' : List Addr} {ρ : List D} (st : Frz H (Rv fe [] G) H (Rv fe' [] G)) : ∀ {es : List IE} {ds : List D} {vs : List V}, ArgA L H (Rv fe [] G) σ es ds vs →
    (∀ i, .var i ∈ es → ∀ d, ρ[i]? = some d → isLck d = false → ∃ v, σ[i]? = some (some v) ∧ Fz L H (Rv fe' [] G) (frz d) v) → (lent es ds ρ).any isLck = false → Fzs L H (Rv fe' [] G) (lent es ds ρ) vs
  | [], _, _, h, _, _ => by
    obtain ⟨rfl, rfl⟩ := h
    exact Fzs.nil
  | ie :: es, _, _, h, k, n => by
    unfold ArgA at h
    obtain ⟨d, r, v, vs', rfl, rfl, h2, q⟩ := h
    by_cases hv : ∃ i, ie = .var i
    · obtain ⟨i, rfl⟩ := hv
      have q : σ[i]? = some (some v) := q
      have hl : lent (.var i :: es) (d :: r) ρ = frz (ρ.getD i .und) :: lent es r ρ := rfl
      rw [hl] at n ⊢
      rw [List.any_cons, Bool.or_eq_false_iff, isLck_frz] at n
      obtain ⟨d', hd, hg, nl⟩ := look_slot n.1
      obtain ⟨v', e1, z⟩ := k i List.mem_cons_self d' hd nl
      rw [q] at e1
      cases e1
      rw [hg]
      unfold Fzs
      exact ⟨v, vs', rfl, z, lent_ok st h2 (fun j m => k j (List.mem_cons_of_mem _ m)) n.2⟩
    · have hn : isVar ie = none := by cases ie <;> first | rfl | exact absurd ⟨_, rfl⟩ hv
      rw [hn] at q
      have hl : lent (ie :: es) (d :: r) ρ = d :: lent es r ρ := by
        cases ie <;> first | rfl | exact absurd ⟨_, rfl⟩ hv
      rw [hl] at n ⊢
      rw [List.any_cons, Bool.or_eq_false_iff] at n
      unfold Fzs
      exact ⟨v, vs', rfl, Fz.step st _ _ q, lent_ok st h2 (fun j m => k j (List.mem_cons_of_mem _ m)) n.2⟩
theorem envR_fz {L : LC} {T : AP} : ∀ {ds : List D} {vs : List V}, Fzs L H T ds vs → EnvR L H T ds (vs.map some) []
  | [], _, h => by unfold Fzs at h; rw [h]; exact ⟨rfl, rfl⟩
  | d :: ds, _, h => by
    unfold Fzs at h
    obtain ⟨v, r, rfl, h1, h2⟩ := h
    exact ⟨some v, r.map some, [], [], rfl, rfl, SlotR.mk (Rep.of_fz h1), envR_fz h2⟩
theorem fzs_lck {L : LC} {T : AP} : ∀ {ds : List D} {vs : List V}, Fzs L H T ds vs → ds.all (fun d => !isLck d) = true
  | [], _, _ => rfl
  | d :: ds, _, h => by
    unfold Fzs at h
    obtain ⟨v, r, rfl, h1, h2⟩ := h
    rw [List.all_cons, (Rep.of_fz h1).not_lck, fzs_lck h2]
    rfl

/-! ### what is ours is no tuple -/
def NoTup (H : Hp) (a : Addr) : Prop := ∀ xs, H a ≠ some (.tup xs)
theorem Rep1.noTup {L : LC} {T : AP} {d : D} {v : V} {f : List Addr} (h : Rep1 L H T d v f) : ∀ a ∈ f, NoTup H a := by
  cases d with
  | lst w xs => cases w <;> first | (obtain ⟨b, vs, _, rfl, e, _⟩ := h; intro a m ys; rw [List.mem_singleton.mp m, e]; exact fun z => nomatch z) | (rw [h.1]; exact fun _ m => nomatch m)
  | dct w xs => cases w <;> first | (obtain ⟨b, vs, _, rfl, e, _⟩ := h; intro a m ys; rw [List.mem_singleton.mp m, e]; exact fun z => nomatch z) | (rw [h.1]; exact fun _ m => nomatch m)
  | dtt w xs => cases w <;> first | (obtain ⟨b, vs, _, rfl, e, _⟩ := h; intro a m ys; rw [List.mem_singleton.mp m, e]; exact fun z => nomatch z) | (rw [h.1]; exact fun _ m => nomatch m)
  | obj w c xs => cases w <;> first | (obtain ⟨b, _, vs, _, rfl, e, _⟩ := h; intro a m ys; rw [List.mem_singleton.mp m, e]; exact fun z => nomatch z) | (rw [h.1]; exact fun _ m => nomatch m)
  | _ => rw [h.1]; exact fun _ m => nomatch m
theorem KL.noTup {L : LC} {T : AP} : ∀ {kvs : List (Key × List D)} {ws : List (Key × V)} {f : List Addr}, KL L H T kvs ws f → ∀ a ∈ f, NoTup H a
  | [], _, _, h => by rw [h.2]; exact fun _ m => nomatch m
  | (x, xs) :: r, _, _, h => by
    obtain ⟨b, vs, ws', f', rfl, rfl, e, _, q⟩ := h
    intro a m
    rcases List.mem_cons.mp m with m | m
    · rw [m]; intro ys; rw [e]; exact fun z => nomatch z
    · exact KL.noTup q a m
theorem FO.noTup {L : LC} {T : AP} : ∀ {fs : List (Nat × D)} {ws : List (Str × V)} {f : List Addr}, FO L H T fs ws f → ∀ a ∈ f, NoTup H a
  | [], _, _, h => by rw [h.2]; exact fun _ m => nomatch m
  | (n, d) :: r, _, _, h => by
    obtain ⟨v, ws', f1, f2, rfl, rfl, z, q⟩ := h
    intro a m
    rcases List.mem_append.mp m with m | m
    · exact z.noTup a m
    · exact FO.noTup q a m
theorem Rep.noTup {L : LC} {T : AP} {d : D} {v : V} {f : List Addr} (h : Rep L H T d v f) : ∀ a ∈ f, NoTup H a := by
  cases d with
  | dls kvs =>
    obtain ⟨a, kws, f', _, rfl, e, q⟩ := h
    intro b m
    rcases List.mem_cons.mp m with m | m
    · rw [m]; intro ys; rw [e]; exact fun z => nomatch z
    · exact q.noTup b m
  | obn c fs =>
    obtain ⟨a, dx, ws, f', _, rfl, e, q⟩ := h
    intro b m
    rcases List.mem_cons.mp m with m | m
    · rw [m]; intro ys; rw [e]; exact fun z => nomatch z
    · exact q.noTup b m
  | _ => exact Rep1.noTup (L := L) (T := T) (v := v) (h.one rfl)
theorem EnvR.noTup {L : LC} {T : AP} : ∀ {ρ : List D} {σ : L2.St} {fe : List Addr}, EnvR L H T ρ σ fe → ∀ a ∈ fe, NoTup H a
  | [], _, _, h => by rw [h.2]; exact fun _ m => nomatch m
  | d :: ρ, _, _, h => by
    obtain ⟨o, σ', f, fe', rfl, rfl, h1, h2⟩ := h
    intro a m
    rcases List.mem_append.mp m with m | m
    · cases d with
      | und => have e : f = [] := h1; rw [e] at m; cases m
      | _ =>
        obtain ⟨v, _, r⟩ := h1
        exact r.noTup a m
    · exact h2.noTup a m
mutual
theorem safe1_fz {L : LC} {T T' : AP} (k : ∀ a, T' a → T a ∨ NoTup H a) : ∀ (d : D) (v : V), safe1 d = true → Fz L H T d v → Fz L H T' d v
  | .non, _, _, h => by unfold Fz at h ⊢; exact h
  | .bl _, _, _, h => by unfold Fz at h ⊢; exact h
  | .int _, _, _, h => by unfold Fz at h ⊢; exact h
  | .str _, _, _, h => by unfold Fz at h ⊢; exact h
  | .tup xs, v, s, h => by
    unfold Fz at h ⊢
    obtain ⟨a, vs, ev, n, e, q⟩ := h
    exact ⟨a, vs, ev, fun t => (k a t).elim n fun z => z vs e, e, safes_fz k xs vs s q⟩
  | .und, _, s, _ => by cases s
  | .lst _ _, _, s, _ => by cases s
  | .dct _ _, _, s, _ => by cases s
  | .dtt _ _, _, s, _ => by cases s
  | .obj _ _ _, _, s, _ => by cases s
  | .dls _, _, s, _ => by cases s
  | .obn _ _, _, s, _ => by cases s
theorem safes_fz {L : LC} {T T' : AP} (k : ∀ a, T' a → T a ∨ NoTup H a) : ∀ (ds : List D) (vs : List V), safe1.safes ds = true → Fzs L H T ds vs → Fzs L H T' ds vs
  | [], _, _, h => by unfold Fzs at h ⊢; exact h
  | d :: ds, vs, s, h => by
    unfold Fzs at h ⊢
    obtain ⟨v, r, e, h1, h2⟩ := h
    unfold safe1.safes at s
    rw [Bool.and_eq_true] at s
    exact ⟨v, r, e, safe1_fz k d v s.1 h1, safes_fz k ds r s.2 h2⟩
end
theorem safeL_fz {L : LC} {T T' : AP} (k : ∀ a, T' a → T a ∨ NoTup H a) : ∀ (ds : List D) (vs : List V), ds.all safe1 = true → Fzs L H T ds vs → Fzs L H T' ds vs
  | [], _, _, h => by unfold Fzs at h ⊢; exact h
  | d :: ds, vs, s, h => by
    unfold Fzs at h ⊢
    obtain ⟨v, r, e, h1, h2⟩ := h
    rw [List.all_cons, Bool.and_eq_true] at s
    exact ⟨v, r, e, safe1_fz k d v s.1 h1, safeL_fz k ds r s.2 h2⟩
theorem safeK_fz {L : LC} {T T' : AP} (k : ∀ a, T' a → T a ∨ NoTup H a) : ∀ (ds : List (Key × D)) (vs : List (Key × V)), (ds.all fun p => safe1 p.2) = true → FzK L H T ds vs → FzK L H T' ds vs
  | [], _, _, h => by unfold FzK at h ⊢; exact h
  | (q, d) :: ds, vs, s, h => by
    unfold FzK at h ⊢
    obtain ⟨v, r, e, h1, h2⟩ := h
    rw [List.all_cons, Bool.and_eq_true] at s
    exact ⟨v, r, e, safe1_fz k d v s.1 h1, safeK_fz k ds r s.2 h2⟩
theorem safeT_fz {L : LC} {T T' : AP} (k : ∀ a, T' a → T a ∨ NoTup H a) : ∀ (ds : List (List Key × D)) (vs : List (List Key × V)), (ds.all fun p => safe1 p.2) = true → FzT L H T ds vs → FzT L H T' ds vs
  | [], _, _, h => by unfold FzT at h ⊢; exact h
  | (q, d) :: ds, vs, s, h => by
    unfold FzT at h ⊢
    obtain ⟨v, r, e, h1, h2⟩ := h
    rw [List.all_cons, Bool.and_eq_true] at s
    exact ⟨v, r, e, safe1_fz k d v s.1 h1, safeT_fz k ds r s.2 h2⟩
/-- a safe answer bears that more is ours -/
theorem safe_rep {L : LC} {T T' : AP} {d : D} {v : V} {f : List Addr} (k : ∀ a, T' a → T a ∨ NoTup H a) (s : safe d = true) (h : Rep L H T d v f) : Rep L H T' d v f := by
  cases d with
  | lst w xs =>
    cases w with
    | own => obtain ⟨a, vs, e1, e2, e3, q⟩ := h; exact ⟨a, vs, e1, e2, e3, safeL_fz k _ _ s q⟩
    | fz => cases s
    | scr => cases s
  | dct w xs =>
    cases w with
    | own => obtain ⟨a, vs, e1, e2, e3, q⟩ := h; exact ⟨a, vs, e1, e2, e3, safeK_fz k _ _ s q⟩
    | fz => cases s
    | scr => cases s
  | dtt w xs =>
    cases w with
    | own => obtain ⟨a, vs, e1, e2, e3, q⟩ := h; exact ⟨a, vs, e1, e2, e3, safeT_fz k _ _ s q⟩
    | fz => cases s
    | scr => cases s
  | obj w c xs => cases w <;> cases s
  | dls _ => cases s
  | obn _ _ => cases s
  | und => exact h.und.elim
  | non => exact ⟨h.1, safe1_fz k _ _ s h.2⟩
  | bl b => exact ⟨h.1, safe1_fz k _ _ s h.2⟩
  | int b => exact ⟨h.1, safe1_fz k _ _ s h.2⟩
  | str b => exact ⟨h.1, safe1_fz k _ _ s h.2⟩
  | tup b => exact ⟨h.1, safe1_fz k _ _ s h.2⟩
end
end TL

namespace TL
open PySem PySem.Spec PyProof.Rows L2

/-- a def that may be called -/
structure FunOk (P : Program) (w : World) (K : PySem.W.Frag) (mg : Str → Option Value) (base : Heap) (e : Pm) (lv : Nat) (f : Nat) (k : Nat) (a : Addr) (fd : FuncData) (ps : List Str) : Prop where
  lv : k ≤ lv
  ar : e.ar f = ps.length
  kp : PySem.W.keepIn K (.ref a) = true
  bd : Binds K fd ps []
  ok : FnOk P w K mg base (L2.CX P w) k a fd ps (spM (e.L K) e.xa (e.T.muts f) ps.length (e.T.F f))
structure Oks where
  fn : Nat → Bool
  me : Nat → Bool
  mak : Nat → Nat → Bool
  fl : Nat → Nat → Bool
  bl : Str → Bool
  cn : Nat → Bool
  ex : Nat → Bool
  hx : Nat → Bool
structure Lnk (P : Program) (w : World) (K : PySem.W.Frag) (mg : Str → Option Value) (base : Heap) (e : Pm) (o : Oks) (lv : Nat) : Prop where
  fn : ∀ f, o.fn f = true → e.nm.fn f ≠ "__debug__" ∧ ∃ k a fd ps, mg (e.nm.fn f) = some (.ref a) ∧ FunOk P w K mg base e lv f k a fd ps
  me : ∀ f, o.me f = true → e.T.mc f = (e.nm.me f).1 ∧ Cls K (e.ca (e.nm.me f).1) ∧ (∀ n, e.nm.fd n ≠ (e.nm.me f).2) ∧ ∃ k a fd ps, Meth K (e.ca (e.nm.me f).1) (e.nm.me f).2 a ∧ FunOk P w K mg base e lv f k a fd ps
  mak : ∀ c f, o.mak c f = true → e.nm.cl c ≠ "__debug__" ∧ e.T.muts f = [0] ∧ mg (e.nm.cl c) = some (.ref (e.ca c)) ∧ ∃ k a fd ps, Mk K (e.ca c) a ∧ k + 1 ≤ lv ∧ FunOk P w K mg base e lv f k a fd ps
  fl : ∀ c f, o.fl c f = true → Cls K (e.ca c) ∧ NoAttr K (e.ca c) (e.nm.fd f)
  inj : ∀ m n, e.nm.fd m = e.nm.fd n → m = n
  bl : ∀ x, o.bl x = true → mg x = none
  cn : ∀ n, o.cn n = true → e.nm.cn n ≠ "__debug__" ∧ ∃ v u, mg (e.nm.cn n) = some u ∧ RelV v u ∧ ∀ H T, Fz (e.L K) H T (e.T.con n) v
  ex : ∀ c, o.ex c = true → e.nm.ex c ≠ "__debug__" ∧ mg (e.nm.ex c) = some (.ref (e.xa c)) ∧ PySem.W.keepIn K (.ref (e.xa c)) = true ∧
    PySem.W.excIn K (e.xa c) [.type "ValueError", .type "Exception", .type "BaseException", .type "object"] "ValueError.__new__" = true ∧
    PySem.W.subIn K (.ref (e.xa c)) (.type "BaseException") = some true ∧ PySem.W.typeIn K (.ref (e.xa c)) = some (.type "type")
  hx : ∀ h, o.hx h = true → e.nm.ex h ≠ "__debug__" ∧ mg (e.nm.ex h) = some (.ref (e.xa h)) ∧ ∀ c, e.T.kx c = true → PySem.W.exmOne K (.ref (e.xa c)) (.ref (e.xa h)) = some (e.T.sub c h)

theorem Rv_nil (G : AP) : Rv [] [] G = G := by
  funext a
  apply propext
  unfold Rv
  constructor
  · rintro (h | h | h)
    · cases h
    · cases h
    · exact h
  · exact fun h => .inr (.inr h)

section
variable {e : Pm} {X : Cx} {W : WX} {c : CK} {lv : Nat} {σ : L2.St} {H : Hp} {fe : List Addr} {G : AP} {ρ : List D}

/-- what a call of shared values leaves -/
theorem after_call {L : LC} {H1 H' : Hp} {fe1 feg f0 f' : List Addr} {ρ1 : List D} {es : List IE} {r : D} {v : V} (s1 : SR L ρ1 σ H1 fe1 [] G) (sg : SR L (give es ρ1) σ H1 feg [] G) (sub : ∀ a ∈ feg, a ∈ fe1)
    (nd : (f0 ++ f').Nodup) (dj : ∀ a, a ∈ f0 ∨ a ∈ f' → ¬ Rv feg [] G a) (dm : ∀ a ∈ f', H' a ≠ none) (t : Stp H1 [] [] (Rv feg [] G) H' f0 f') (rp : Rep L H' (Rv f0 f' (Rv feg [] G)) r v f') :
    ∃ fe2, SR L (settle r es ρ1) σ H' fe2 f' G ∧ Rep L H' (Rv fe2 f' G) r v f' ∧ Stp H1 fe1 [] G H' fe2 f' := by
  have nd' : f'.Nodup := (List.nodup_append.mp nd).2.1
  have all : ∀ a o, H1 a = some o → H' a = some o := fun a o q => by
    by_cases g : Rv feg [] G a
    · exact t.kg a o g q
    · exact (t.fr a o (by rw [Rv_nil]; exact g) q).1
  have new : ∀ a ∈ f', H1 a = none := fun a m => by
    cases q : H1 a with
    | none => rfl
    | some o =>
      exfalso
      by_cases g : Rv feg [] G a
      · exact dj a (.inr m) g
      · exact (t.fr a o (by rw [Rv_nil]; exact g) q).2 (.inr (.inl m))
  unfold settle
  by_cases sf : safe r = true
  · rw [if_pos sf]
    have fr : Frz H1 (Rv fe1 [] G) H' (Rv fe1 f' G) := fun a o n q => ⟨all a o q, fun z => by
      rcases z with z | z | z
      · exact n (.inl z)
      · rw [new a z] at q; cases q
      · exact n (.inr (.inr z))⟩
    refine ⟨fe1, ⟨s1.env.step fr fun a o _ q => all a o q, ?_, fun a m => ?_, fun a m => ?_⟩, ?_, ⟨fr, fun a o _ q => all a o q⟩⟩
    · refine List.nodup_append.mpr ⟨(List.nodup_append.mp s1.nd).1, nd', fun a m b m' q => ?_⟩
      have := new b m'
      rw [← q] at this
      exact s1.dm a (.inl m) this
    · rcases m with m | m
      · exact s1.dj a (.inl m)
      · exact fun g => dj a (.inr m) (.inr (.inr g))
    · rcases m with m | m | m
      · cases q : H1 a with
        | none => exact absurd q (s1.dm a (.inl m))
        | some o => rw [all a o q]; exact fun z => nomatch z
      · exact dm a m
      · cases q : H1 a with
        | none => exact absurd q (s1.dm a (.inr (.inr m)))
        | some o => rw [all a o q]; exact fun z => nomatch z
    · refine safe_rep (fun a z => ?_) sf rp
      rcases z with z | z | z
      · right
        intro xs
        cases q : H1 a with
        | none => exact absurd q (s1.dm a (.inl z))
        | some o =>
          rw [all a o q]
          intro w
          exact s1.env.noTup a z xs (by rw [q]; exact w)
      · exact .inl (.inr (.inl z))
      · exact .inl (.inr (.inr (.inr (.inr z))))
  · rw [if_neg sf]
    have fr : Frz H1 (Rv feg [] G) H' (Rv feg f' G) := fun a o n q => ⟨all a o q, fun z => by
      rcases z with z | z | z
      · exact n (.inl z)
      · rw [new a z] at q; cases q
      · exact n (.inr (.inr z))⟩
    refine ⟨feg, ⟨sg.env.step fr fun a o _ q => all a o q, ?_, fun a m => ?_, fun a m => ?_⟩, ?_, ⟨?_, fun a o _ q => all a o q⟩⟩
    · refine List.nodup_append.mpr ⟨(List.nodup_append.mp sg.nd).1, nd', fun a m b m' q => ?_⟩
      have := new b m'
      rw [← q] at this
      exact sg.dm a (.inl m) this
    · rcases m with m | m
      · exact sg.dj a (.inl m)
      · exact fun g => dj a (.inr m) (.inr (.inr g))
    · rcases m with m | m | m
      · cases q : H1 a with
        | none => exact absurd q (sg.dm a (.inl m))
        | some o => rw [all a o q]; exact fun z => nomatch z
      · exact dm a m
      · cases q : H1 a with
        | none => exact absurd q (sg.dm a (.inr (.inr m)))
        | some o => rw [all a o q]; exact fun z => nomatch z
    · refine rp.step (Frz.sub fun a z => ?_) fun _ _ _ q => q
      rcases z with z | z | z
      · exact .inr (.inr (.inl z))
      · exact .inr (.inl z)
      · exact .inr (.inr (.inr (.inr z)))
    · exact (show Frz H1 (Rv fe1 [] G) H1 (Rv feg [] G) from Frz.sub fun a z => by
        rcases z with z | z | z
        · exact .inl (sub a z)
        · cases z
        · exact .inr (.inr z)).trans fr
theorem after_exn {L : LC} {H1 H' : Hp} {fe1 feg f0 : List Addr} {ρ1 : List D} {es : List IE} (s1 : SR L ρ1 σ H1 fe1 [] G) (t : Stp H1 [] [] (Rv feg [] G) H' f0 []) :
    SR L ρ1 σ H' fe1 [] G ∧ Stp H1 fe1 [] G H' fe1 [] := by
  have all : ∀ a o, H1 a = some o → H' a = some o := fun a o q => by
    by_cases g : Rv feg [] G a
    · exact t.kg a o g q
    · exact (t.fr a o (by rw [Rv_nil]; exact g) q).1
  have fr : Frz H1 (Rv fe1 [] G) H' (Rv fe1 [] G) := fun a o n q => ⟨all a o q, n⟩
  refine ⟨⟨s1.env.step fr fun a o _ q => all a o q, s1.nd, s1.dj, fun a m => ?_⟩, fr, fun a o _ q => all a o q⟩
  cases q : H1 a with
  | none => exact absurd q (s1.dm a m)
  | some o => rw [all a o q]; exact fun z => nomatch z
/-- the callee's state -/
theorem callee_state {L : LC} {H1 : Hp} {feg : List Addr} {ds : List D} {vs : List V} {ρg : List D} (sg : SR L ρg σ H1 feg [] G) (z : Fzs L H1 (Rv feg [] G) ds vs) : SR L ds (vs.map some) H1 [] [] (Rv feg [] G) := by
  refine ⟨by rw [Rv_nil]; exact envR_fz z, List.nodup_nil, fun a m => ?_, fun a m => sg.dm a (by rw [Rv_nil] at m; exact m)⟩
  rcases m with m | m <;> cases m
/-- a call meets the promise -/
theorem call_meets {L : LC} (hL : L = e.L X.K) {H1 : Hp} {fe1 : List Addr} {ρ1 : List D} {es : List IE} {ds : List D} {vs : List V} {f : Nat} {Q : VK} (n : Nat) (hn : vs.length = n)
    (s1 : SR L ρ1 σ H1 fe1 [] G) (t1 : Stp H fe [] G H1 fe1 []) (z : ∀ feg, (∀ i, .var i ∈ es → ∀ d, ρ1[i]? = some d → isLck d = false → ∃ v, σ[i]? = some (some v) ∧ Fz L H1 (Rv feg [] G) (frz d) v) → Frz H1 (Rv fe1 [] G) H1 (Rv feg [] G) → Fzs L H1 (Rv feg [] G) ds vs)
    (h : EndE e X W σ H fe G (called e.T f ds es ρ1) Q) : spM L e.xa (e.T.muts f) n (e.T.F f) vs H1 Q (WE W σ) := by
  subst hL
  obtain ⟨feg, sg, tg, sub, k⟩ := give_ok es ρ1 fe1 s1
  have zz := z feg k tg.fr
  refine ⟨hn, ds, [], Rv feg [] G, callee_state sg zz, fzs_lck zz, ?_⟩
  unfold called at h
  split at h
  · exact h.elim
  · cases q : e.T.F f ds with
    | stuck => rw [q] at h; exact h.elim
    | ok ds' r =>
      rw [q] at h
      intro v H' f0 f' s' rp t'
      obtain ⟨fe2, s2, r2, t2⟩ := after_call s1 sg sub s'.nd s'.dj (fun a m => s'.dm a (.inr (.inl m))) t' rp
      exact h v H' fe2 f' s2 r2 (t1.trans t2)
    | exn x ds' =>
      rw [q] at h
      intro H' f0 s' t'
      obtain ⟨s2, t2⟩ := after_exn (es := es) s1 t'
      exact h H' fe1 s2 (t1.trans t2)
end
end TL

namespace TL
open PySem PySem.Spec PyProof.Rows L2

theorem starEach_all {env : Env} {pos : Pos} : ∀ {xs : List Expr}, xs.all noStar = true → (backTo pos (starEach xs env)).all (fun x => !x.1) = true
  | [], _ => rfl
  | x :: xs, h => by
    rw [List.all_cons, Bool.and_eq_true] at h
    rw [starEach_of h.1]
    show (true && (backTo pos (starEach xs env)).all (fun x => !x.1)) = true
    rw [starEach_all h.2]
    rfl
theorem meth_tree {o : Expr} {m : Str} {apos pos : Pos} {args : List Expr} {env : Env} (h1 : noSup o = true) (h2 : args.all noStar = true) (h3 : args.length < 29) (h4 : (apos.endLine == pos.line) = true) :
    eval (.Call (.Attribute o m apos) args [] pos) env = (do
      let ov ← eval o env
      standAt apos.atName
      let (f, first) ← holding [ov] (getMethod ov m (do return (← importBound o env).getD true))
      callWith pos f first (backTo pos (starEach args env)) (backToKw pos (keywordEach [] env))) := by
  have e1 : eval (.Call (.Attribute o m apos) args [] pos) env = (do
      let ov ← attributeBase o m env (eval o env)
      standAt apos.atName
      methodCall o m apos pos env ov (args.length + ([] : List Keyword).length) (backTo pos (starEach args env)) (backToKw pos (keywordEach [] env))) := rfl
  have e2 : methodCallForm (args.length + ([] : List Keyword).length) (backTo pos (starEach args env)) (backToKw pos (keywordEach [] env)) = true := by
    unfold methodCallForm
    rw [starEach_all h2]
    show (true && true && decide (args.length + 0 + 0 < 30)) = true
    rw [decide_eq_true (by omega)]
    rfl
  have e3 : ∀ ov, methodCall o m apos pos env ov (args.length + ([] : List Keyword).length) (backTo pos (starEach args env)) (backToKw pos (keywordEach [] env)) = (do
      let (f, first) ← holding [ov] (getMethod ov m (do return (← importBound o env).getD true))
      callWith pos f first (backTo pos (starEach args env)) (backToKw pos (keywordEach [] env))) := fun ov => by
    unfold methodCall
    rw [e2]
    unfold calleeOf methodCallPos
    rw [if_pos rfl]
    rw [if_pos (show (!true || apos.endLine == pos.line) = true by rw [h4]; rfl)]
    rfl
  rw [e1, base_of h1]
  simp only [e3]

section
variable {e : Pm} {X : Cx} {W : WX} {c : CK} {lv : Nat} {σ : L2.St} {H : Hp} {fe : List Addr} {G : AP} {ρ : List D} {k : Nat} {C f : Addr} {fd : FuncData} {ps : List Str} {sp : Sp} {m x : Str} {o ea : Expr} {args : List Expr} {ta : TE} {t : TA} {apos pos p : Pos}

def tMethW (W : WX) (C : Addr) (m : Str) (sp : Sp) (ta : TE) (t : TA) : TE := fun σ H Q => ta σ H fun x H1 => (∃ a dx fs, x = .ref a ∧ H1 a = some (.ins C dx fs) ∧ fs.lookup m = none) ∧ t σ H1 fun vs H2 => sp (x :: vs) H2 Q (WE W σ)
theorem pe_methW {y : Expr} {ys : List Expr} (he : PE X o ta) (cl : Cls X.K C) (hm : Meth X.K C m f) (F : FnOk X.prog X.w X.K X.mg X.base (L2.CX X.prog X.w) k f fd ps sp) (hr : Room k X.A) (hb : Binds X.K fd ps []) (hx : ∀ σ, PassesAt (L2.CX X.prog X.w) X σ (WE W σ)) (ha : PA X (y :: ys) t)
    (h1 : noSup o = true) (h2 : (y :: ys).all noStar = true) (h3 : (y :: ys).length < 29) (h4 : (apos.endLine == pos.line) = true) : PE X (.Call (.Attribute o m apos) (y :: ys) [] pos) (tMethW W C m sp ta t) := by
  refine ⟨fun pins s σ H Q I h => ?_⟩
  refine PySem.W.methodCall_KW (thn (he.run pins s σ H _ I h) fun u s1 hu => ?_) (meth_tree h1 h2 h3 h4)
  obtain ⟨x, H1, I1, rx, ⟨a, dx, fs, ex, ea, l⟩, q⟩ := hu
  subst ex
  obtain rfl : u = Value.ref a := rx
  refine getmeth_ok I1 ea cl hm l ?_
  rw [List.all_cons, Bool.and_eq_true] at h2
  refine PySem.W.callWith_K (first := [.ref a]) (h₀ := X.base) I.ok.mod.kin hm.kp (thn (ha.run pos pins s1 σ H1 _ I1 q) fun us s2 hh => ?_) (starEach_of h2.1) (starEach_any h2.2)
  obtain ⟨vs, H2, I2, r, q2⟩ := hh
  exact ⟨I2.kIn, run_fnS (us := .ref a :: us) (vs := .ref a :: vs) F hr hb (hx σ) I2 (.cons rfl r) q2⟩
theorem pe_methW0 (he : PE X o ta) (cl : Cls X.K C) (hm : Meth X.K C m f) (F : FnOk X.prog X.w X.K X.mg X.base (L2.CX X.prog X.w) k f fd ps sp) (hr : Room k X.A) (hb : Binds X.K fd ps []) (hx : ∀ σ, PassesAt (L2.CX X.prog X.w) X σ (WE W σ))
    (h1 : noSup o = true) (h4 : (apos.endLine == pos.line) = true) : PE X (.Call (.Attribute o m apos) [] [] pos) (tMethW W C m sp ta tNil) := by
  refine ⟨fun pins s σ H Q I h => ?_⟩
  refine PySem.W.methodCall_KW (thn (he.run pins s σ H _ I h) fun u s1 hu => ?_) (meth_tree h1 rfl (by decide) h4)
  obtain ⟨x, H1, I1, rx, ⟨a, dx, fs, ex, ea, l⟩, q⟩ := hu
  subst ex
  obtain rfl : u = Value.ref a := rx
  refine getmeth_ok I1 ea cl hm l ?_
  exact PySem.W.callWith_K0 (first := [.ref a]) I1.kIn hm.kp (run_fnS (us := [.ref a]) (vs := [.ref a]) F hr hb (hx σ) I1 (.cons rfl .nil) q)
/-- C(e, ..): the exceptions of its __init__ at these slots -/
def tMakeW (W : WX) (C : Addr) (sp : Sp) (t : TA) : TE := fun σ H Q => t σ H fun vs H1 => ∀ x dx, H1 x = none → H1 dx = none → dx ≠ x →
  sp (.ref x :: vs) (upd (upd H1 dx (.own x)) x (.ins C dx [])) (fun v H2 => v = .non ∧ Q (.ref x) H2) (WE W σ)
theorem pe_makeW {y : Expr} {ys : List Expr} (M : Mk X.K C f) (F : FnOk X.prog X.w X.K X.mg X.base (L2.CX X.prog X.w) k f fd ps sp) (hr : Room (k + 1) X.A) (hg : Gl X x) (hm : X.mg x = some (.ref C)) (hb : Binds X.K fd ps []) (hx : ∀ σ, PassesAt (L2.CX X.prog X.w) X σ (WE W σ))
    (ha : PA X (y :: ys) t) (hdb : (x == ("__debug__" : Str)) = false) (h2 : (y :: ys).all noStar = true) : PE X (.Call (.Name x p) (y :: ys) [] pos) (tMakeW W C sp t) := by
  refine ⟨fun pins s σ H Q I h => ?_⟩
  rw [List.all_cons, Bool.and_eq_true] at h2
  refine wpAny_Call_Name_kw (ld_glob I hg hm ?_ hdb)
  refine PySem.W.callWith_K (h₀ := X.base) I.ok.mod.kin M.kp (thn (ha.run pos pins s σ H _ I h) fun us s1 hh => ?_) (starEach_of h2.1) (starEach_any h2.2)
  obtain ⟨vs, H1, I1, r, q⟩ := hh
  refine ⟨I1.kIn, ?_⟩
  have hq := q (s1.heap.objs.size + 1) s1.heap.objs.size (I1.hok.fresh (Nat.le_succ _)) (I1.hok.fresh (Nat.le_refl _)) (Nat.ne_of_lt (Nat.lt_succ_self _))
  have I2 := Inv.made (C := C) I1
  have r2 : Vals (V.ref (s1.heap.objs.size + 1) :: vs) (Value.ref (s1.heap.objs.size + 1) :: us) := .cons rfl r
  have hl : (Value.ref (s1.heap.objs.size + 1) :: us).length = ps.length := by rw [← r2.length]; exact F.len _ _ _ _ hq
  have bd := hb _ (Value.ref (s1.heap.objs.size + 1) :: us) I2.kIn (by rw [List.append_nil]; exact hl)
  rw [List.append_nil] at bd
  refine wpAny_call (make_map (f := f) I1.kIn M.makes M.init (beq_iff_eq.mp M.fn) (codeAny_mono (F.run _ X.stack _ _ ⟨Value.ref (s1.heap.objs.size + 1) :: us, []⟩ _ _ _ _ (hr.make C us []) (I2.env0.make C us []) bd r2 hq) fun r s' hq' => ?_))
  cases r with
  | error z => exact hx σ pins _ _ z s' I2 hq'
  | ok fl =>
    cases fl with
    | ret u =>
      obtain ⟨v, H', I3, rv, ev, q3⟩ := I2.after hq'
      subst ev
      exact ⟨rv, ⟨V.ref (s1.heap.objs.size + 1), H', I3, rfl, q3⟩⟩
    | next => exact hq'.elim
    | brk => exact hq'.elim
    | cont => exact hq'.elim

/-! ### calls, by the interpreter -/
theorem ArgA.len {L : LC} {H : Hp} {T : AP} : ∀ {es : List IE} {ds : List D} {vs : List V}, ArgA L H T σ es ds vs → vs.length = es.length
  | [], _, _, h => by rw [h.2]; rfl
  | ie :: es, _, _, h => by
    unfold ArgA at h
    obtain ⟨d, r, v, vs', rfl, rfl, q, _⟩ := h
    show vs'.length + 1 = es.length + 1
    rw [ArgA.len q]
theorem Room.low {j k : Nat} {A : Around} (r : Room k A) (h : j ≤ k) : Room j A := r.mono h
variable {es : List IE} {o' : Oks}
theorem pE_call {f : Nat} (g : GX X W c lv) (lk : Lnk X.prog X.w X.K X.mg X.base e o' lv) (hf : o'.fn f = true) (hg : Gl X (e.nm.fn f)) (h2 : (ea :: args).all noStar = true) (hl : es.length = e.ar f) (ha : PA X (ea :: args) (tAs e X W es)) :
    PE X (.Call (.Name (e.nm.fn f) p) (ea :: args) [] pos) (tE e X W (.call f es)) := by
  obtain ⟨nd, k, a, fd, ps, hm, F⟩ := lk.fn f hf
  rw [List.all_cons, Bool.and_eq_true] at h2
  refine PE.mk' fun σ H Q h => ⟨_, pe_callS F.ok (g.room.mono F.lv) hg hm F.kp F.bd g.pass ha (beq_eq_false_iff_ne.mpr nd) (starEach_of h2.1) (starEach_any h2.2), ?_⟩
  obtain ⟨ρ, fe, G, s, h⟩ := h
  refine evA_ok es ρ H fe _ s ?_
  unfold evE at h
  cases q : evA e.T es ρ with
  | stuck => rw [q] at h; exact h
  | exn x ρ1 => rw [q] at h; exact h
  | ok ρ1 ds =>
    rw [q] at h
    intro vs H1 fe1 s1 r1 t1
    have nl : (lent es ds ρ1).any isLck = false := by
      dsimp only at h
      unfold called at h
      split at h
      · exact h.elim
      · rename_i z; exact Bool.eq_false_iff.mpr z
    exact call_meets rfl ps.length (by rw [r1.len, hl, F.ar]) s1 t1 (fun feg kk st => lent_ok st r1 kk nl) h
end
end TL

namespace TL
open PySem PySem.Spec PyProof.Rows L2

section
variable {e : Pm} {X : Cx} {W : WX} {c : CK} {lv : Nat} {σ : L2.St} {H : Hp} {fe : List Addr} {G : AP} {ρ : List D} {x : Str} {o ea : Expr} {args : List Expr} {apos pos p : Pos} {es : List IE} {o' : Oks}

theorem fzF_lookup {L : LC} {T : AP} {m : Str} (hm : ∀ n, L.fn n ≠ m) : ∀ {fs : List (Nat × D)} {ws : List (Str × V)}, FzF L H T fs ws → ws.lookup m = none
  | [], _, h => by unfold FzF at h; rw [h]; rfl
  | (n, d) :: r, _, h => by
    unfold FzF at h
    obtain ⟨v, r', rfl, _, q⟩ := h
    rw [List.lookup_cons, beq_eq_false_iff_ne.mpr (Ne.symm (hm n))]
    exact fzF_lookup hm q
theorem isObj_of {c : Nat} {d : D} (h : isObj c d = true) : ∃ w fs, d = .obj w c fs := by
  cases d with
  | obj w c' fs => exact ⟨w, fs, by rw [eq_of_beq h]⟩
  | _ => cases h
theorem Rep.objAt {L : LC} {T : AP} {w : TL.W} {c : Nat} {fs : List (Nat × D)} {v : V} {f : List Addr} (h : Rep L H T (.obj w c fs) v f) : ∃ a dx ws, v = .ref a ∧ H a = some (.ins (L.ca c) dx ws) ∧ FzF L H T fs ws := by
  cases w with
  | own => obtain ⟨a, dx, ws, e1, _, e3, q⟩ := h; exact ⟨a, dx, ws, e1, e3, q⟩
  | fz => have h2 := h.2; unfold Fz at h2; obtain ⟨_, a, dx, ws, e1, _, e3, q⟩ := h2; exact ⟨a, dx, ws, e1, e3, q⟩
  | scr => have h2 := h.2; unfold Fz at h2; cases h2.1
theorem recv {L : LC} {T : AP} {c : Nat} {d : D} {v : V} {f : List Addr} {m : Str} (hm : ∀ n, L.fn n ≠ m) (h : Rep L H T d v f) (k : isObj c d = true) : ∃ a dx fs, v = .ref a ∧ H a = some (.ins (L.ca c) dx fs) ∧ fs.lookup m = none := by
  obtain ⟨w, fs, rfl⟩ := isObj_of k
  obtain ⟨a, dx, ws, e1, e2, q⟩ := h.objAt
  exact ⟨a, dx, ws, e1, e2, fzF_lookup hm q⟩
theorem noLck_called {T : Tbl} {f : Nat} {ds : List D} {ρ1 : List D} {Q : VK} (h : EndE e X W σ H fe G (called T f ds es ρ1) Q) : ds.any isLck = false := by
  unfold called at h
  split at h
  · exact h.elim
  · rename_i z; exact Bool.eq_false_iff.mpr z

def tMethE (W : WX) (C : Addr) (m : Str) (sp : Sp) (ta : TE) (t : TA) : TE := fun σ H Q => ta σ H fun x H1 => (∃ a dx fs, x = .ref a ∧ H1 a = some (.ins C dx fs) ∧ fs.lookup m = none) ∧ t σ H1 fun vs H2 => sp (x :: vs) H2 Q (WE W σ)
/-- what the interpreter says of a method's call, for the rule's wish -/
theorem meth_says {f : Nat} {ie : IE} {C : Addr} {m : Str} {ps : List Str} {Q : VK} (hC : C = e.ca (e.T.mc f)) (hm : ∀ n, e.nm.fd n ≠ m) (hl : es.length + 1 = ps.length) (h : tE e X W (.meth f ie es) σ H Q) :
    tMethW W C m (spM (e.L X.K) e.xa (e.T.muts f) ps.length (e.T.F f)) (tO e X W ie) (tAs e X W es) σ H Q := by
  subst hC
  obtain ⟨ρ, fe, G, s, h⟩ := h
  by_cases hv : ∃ i, ie = .var i
  · obtain ⟨i, rfl⟩ := hv
    unfold evE at h
    split at h
    · exact h.elim
    rename_i ob
    have ob : isObj (e.T.mc f) (ρ.getD i .und) = true := by simpa using ob
    have hl0 : isLck (ρ.getD i .und) = false := by obtain ⟨w, fs, q⟩ := isObj_of ob; rw [q]; rfl
    obtain ⟨d, hd, hg, nl⟩ := look_slot hl0
    rw [hg] at ob
    obtain ⟨v, f1, e1, rep, _⟩ := s.get hd nl
    refine ⟨v, e1, recv hm rep ob, evA_ok es ρ H fe _ s ?_⟩
    cases q : evA e.T es ρ with
    | stuck => rw [q] at h; exact h
    | exn x ρ1 => rw [q] at h; exact h
    | ok ρ1 ds =>
      rw [q] at h
      intro vs H1 fe1 s1 r1 t1
      have nl := noLck_called h
      have r2 : ArgA (e.L X.K) H1 (Rv fe1 [] G) σ (.var i :: es) (.und :: ds) (v :: vs) := ⟨_, _, v, vs, rfl, rfl, r1, e1⟩
      exact call_meets rfl ps.length (by rw [r2.len]; exact hl) s1 t1 (fun feg kk st => lent_ok (es := .var i :: es) st r2 kk nl) h
  · obtain ⟨ho, hn⟩ := tO_of (e := e) (X := X) (W := W) hv
    have hb : evE e.T (.meth f ie es) ρ = (match evE e.T ie ρ with
      | .ok ρ0 d => if isObj (e.T.mc f) d = false then .stuck else match evA e.T es ρ0 with
        | .ok ρ1 ds => called e.T f (frz d :: lent es ds ρ1) es ρ1
        | .exn c ρ1 => .exn c ρ1
        | .stuck => .stuck
      | .exn c ρ1 => .exn c ρ1
      | .stuck => .stuck) := by
      cases ie <;> first | exact absurd ⟨_, rfl⟩ hv | ((conv => lhs; unfold evE) <;> rfl)
    rw [hb] at h
    unfold tMethW
    rw [ho]
    refine ⟨ρ, fe, G, s, ?_⟩
    cases q : evE e.T ie ρ with
    | stuck => rw [q] at h; exact h
    | exn x ρ1 => rw [q] at h; exact h
    | ok ρ0 d =>
      rw [q] at h
      dsimp only at h
      split at h
      · exact h.elim
      rename_i ob
      have ob : isObj (e.T.mc f) d = true := by simpa using ob
      intro v H0 fe0 f0 s0 r0 t0
      obtain ⟨s0', t0', z0⟩ := s0.shed r0
      refine ⟨recv hm r0 ob, evA_ok es ρ0 H0 fe0 _ s0' ?_⟩
      cases q2 : evA e.T es ρ0 with
      | stuck => rw [q2] at h; exact h
      | exn x ρ1 =>
        rw [q2] at h
        intro H1 fe1 s1 t1
        exact h H1 fe1 s1 ((t0.trans t0').trans t1)
      | ok ρ1 ds =>
        rw [q2] at h
        intro vs H1 fe1 s1 r1 t1
        have nl := noLck_called h
        rw [List.any_cons, Bool.or_eq_false_iff] at nl
        refine call_meets rfl ps.length (by show vs.length + 1 = _; rw [r1.len]; exact hl) s1 ((t0.trans t0').trans t1) (fun feg kk st => ?_) h
        unfold Fzs
        exact ⟨v, vs, rfl, z0.step (t1.fr.trans st), lent_ok st r1 kk nl.2⟩
theorem pE_meth {f : Nat} {ie : IE} (g : GX X W c lv) (lk : Lnk X.prog X.w X.K X.mg X.base e o' lv) (hf : o'.me f = true) (he : PE X o (tO e X W ie)) (ha : PA X (ea :: args) (tAs e X W es))
    (h1 : noSup o = true) (h2 : (ea :: args).all noStar = true) (h3 : (ea :: args).length < 29) (h4 : (apos.endLine == pos.line) = true) (hl : es.length + 1 = e.ar f) :
    PE X (.Call (.Attribute o (e.nm.me f).2 apos) (ea :: args) [] pos) (tE e X W (.meth f ie es)) := by
  obtain ⟨hc, cl, hm, k, a, fd, ps, hM, F⟩ := lk.me f hf
  exact PE.mk' fun σ H Q h => ⟨_, pe_methW he cl hM F.ok (g.room.mono F.lv) F.bd g.pass ha h1 h2 h3 h4, meth_says (by rw [hc]) hm (by rw [hl, F.ar]) h⟩
theorem pE_meth0 {f : Nat} {ie : IE} (g : GX X W c lv) (lk : Lnk X.prog X.w X.K X.mg X.base e o' lv) (hf : o'.me f = true) (he : PE X o (tO e X W ie))
    (h1 : noSup o = true) (h4 : (apos.endLine == pos.line) = true) (hl : 1 = e.ar f) :
    PE X (.Call (.Attribute o (e.nm.me f).2 apos) [] [] pos) (tE e X W (.meth f ie [])) := by
  obtain ⟨hc, cl, hm, k, a, fd, ps, hM, F⟩ := lk.me f hf
  exact PE.mk' fun σ H Q h => ⟨_, pe_methW0 he cl hM F.ok (g.room.mono F.lv) F.bd g.pass h1 h4, meth_says (es := []) (by rw [hc]) hm (by rw [← F.ar]; exact hl) h⟩
end
end TL

namespace TL
open PySem PySem.Spec PyProof.Rows L2

section
variable {e : Pm} {X : Cx} {W : WX} {c : CK} {lv : Nat} {σ : L2.St} {H : Hp} {fe : List Addr} {G : AP} {ρ : List D} {x : Str} {o ea : Expr} {args : List Expr} {apos pos p : Pos} {es : List IE} {o' : Oks}

theorem made_stp {H1 H' : Hp} {G' : AP} {y dx : Addr} {C : Addr} {fe' f' : List Addr} (n1 : H1 y = none) (n2 : H1 dx = none) (t : Stp (upd (upd H1 dx (.own y)) y (.ins C dx [])) [y] [] G' H' fe' f') (hg : ∀ a, G' a → H1 a ≠ none) : Stp H1 [] [] G' H' fe' f' := by
  have up : ∀ a w, H1 a = some w → upd (upd H1 dx (.own y)) y (.ins C dx []) a = some w ∧ a ≠ y := fun a w q => by
    have h1 : a ≠ y := fun z => by rw [z, n1] at q; cases q
    have h2 : a ≠ dx := fun z => by rw [z, n2] at q; cases q
    exact ⟨by rw [upd_ne h1, upd_ne h2]; exact q, h1⟩
  refine ⟨fun a w n q => ?_, fun a w g q => t.kg a w g (up a w q).1⟩
  refine t.fr a w (fun z => ?_) (up a w q).1
  rcases z with z | z | z
  · exact (up a w q).2 (List.mem_singleton.mp z)
  · cases z
  · exact n (.inr (.inr z))
theorem pE_make {cl f : Nat} (g : GX X W c lv) (lk : Lnk X.prog X.w X.K X.mg X.base e o' lv) (hf : o'.mak cl f = true) (hg : Gl X (e.nm.cl cl)) (h2 : (ea :: args).all noStar = true) (hl : es.length + 1 = e.ar f) (ha : PA X (ea :: args) (tAs e X W es)) :
    PE X (.Call (.Name (e.nm.cl cl) p) (ea :: args) [] pos) (tE e X W (.make cl f es)) := by
  obtain ⟨nd, hmu, hm, k, a, fd, ps, M, hk, F⟩ := lk.mak cl f hf
  refine PE.mk' fun σ H Q h => ⟨_, pe_makeW M F.ok (g.room.mono hk) hg hm F.bd g.pass ha (beq_eq_false_iff_ne.mpr nd) h2, ?_⟩
  obtain ⟨ρ, fe, G, s, h⟩ := h
  refine evA_ok es ρ H fe _ s ?_
  unfold evE at h
  cases q : evA e.T es ρ with
  | stuck => rw [q] at h; exact h
  | exn x ρ1 => rw [q] at h; exact h
  | ok ρ1 ds =>
    rw [q] at h
    intro vs H1 fe1 s1 r1 t1 y dx n1 n2 nn
    dsimp only at h
    split at h
    · exact h.elim
    rename_i nl
    have nl : (lent es ds ρ1).any isLck = false := Bool.eq_false_iff.mpr nl
    obtain ⟨feg, sg, tg, sub, kk⟩ := give_ok es ρ1 fe1 s1
    have z := lent_ok tg.fr r1 kk nl
    have s0 := callee_state sg z
    have sd : ∀ a, Rv feg [] G a → H1 a ≠ none := sg.dm
    have fr0 : Frz H1 (Rv [] [] (Rv feg [] G)) (upd (upd H1 dx (.own y)) y (.ins (e.ca cl) dx [])) (Rv [y] [] (Rv feg [] G)) := fun a w n q => by
      have h1 : a ≠ y := fun z => by rw [z, n1] at q; cases q
      have h2 : a ≠ dx := fun z => by rw [z, n2] at q; cases q
      refine ⟨by rw [upd_ne h1, upd_ne h2]; exact q, fun m => ?_⟩
      rcases m with m | m | m
      · exact h1 (List.mem_singleton.mp m)
      · cases m
      · exact n (.inr (.inr m))
    have sc : SR (e.L X.K) (.obj .own cl [] :: lent es ds ρ1) ((V.ref y :: vs).map some) (upd (upd H1 dx (.own y)) y (.ins (e.ca cl) dx [])) [y] [] (Rv feg [] G) := by
      refine ⟨⟨some (.ref y), vs.map some, [y], [], rfl, rfl, ?_, s0.env.step fr0 fun a w m _ => nomatch m⟩, ?_, fun a m => ?_, fun a m => ?_⟩
      · exact SlotR.mk (d := .obj .own cl []) ⟨y, dx, [], rfl, rfl, upd_same, by unfold FzF; rfl⟩
      · exact List.nodup_cons.mpr ⟨by simp, List.nodup_nil⟩
      · rcases m with m | m
        · rw [List.mem_singleton.mp m]; exact fun gg => sd y gg n1
        · cases m
      · by_cases e1 : a = y
        · rw [e1, upd_same]; exact fun z => nomatch z
        · rw [upd_ne e1]
          by_cases e2 : a = dx
          · rw [e2, upd_same]; exact fun z => nomatch z
          · rw [upd_ne e2]
            rcases m with m | m | m
            · exact absurd (List.mem_singleton.mp m) e1
            · cases m
            · exact sd a m
    refine ⟨by show vs.length + 1 = _; rw [r1.len, hl, F.ar], _, _, _, sc, ?_, ?_⟩
    · show (!isLck (.obj .own cl []) && _) = true
      rw [fzs_lck z]; rfl
    · cases q3 : e.T.F f (.obj .own cl [] :: lent es ds ρ1) with
      | stuck => rw [q3] at h; exact h
      | exn x ds' =>
        rw [q3] at h
        intro H' f0 s' t'
        obtain ⟨s2, t2⟩ := after_exn (es := es) s1 (made_stp n1 n2 t' sd)
        exact h H' fe1 s2 (t1.trans t2)
      | ok ds' r =>
        rw [q3] at h
        split at h
        case h_1 d0 rest heq =>
          cases heq
          split at h
          · exact h.elim
          rename_i nl0
          intro v H' f0 f' s' rp t'
          obtain ⟨rfl, rv⟩ := rp
          unfold Fz at rv
          refine ⟨rv, ?_⟩
          rw [hmu] at s'
          obtain ⟨o1, σ1, f1, f2, eσ, rfl, h1, h2⟩ := s'.env
          have eσ : [some (V.ref y)] = o1 :: σ1 := eσ
          cases eσ
          obtain ⟨v1, e1, rp1⟩ := h1.rep (Bool.eq_false_iff.mpr nl0)
          cases e1
          have f2e : f2 = [] ∧ rest = [] := by
            cases rest with
            | nil => exact ⟨h2.2, rfl⟩
            | cons a b => obtain ⟨o, σ', f, fe', q, _⟩ := h2; cases q
          obtain ⟨rfl, rfl⟩ := f2e
          rw [List.append_nil] at rp1 t'
          have hnd := s'.nd
          rw [List.append_nil, List.append_nil] at hnd
          have hdj : ∀ a, a ∈ f1 → ¬ Rv feg [] G a := fun a m => s'.dj a (.inl (List.mem_append_left _ m))
          have t2 := made_stp n1 n2 t' sd
          have swap : Rv f1 [] (Rv feg [] G) = Rv [] f1 (Rv feg [] G) := by
            funext a
            apply propext
            unfold Rv
            constructor
            · rintro (m | m | m)
              · exact .inr (.inl m)
              · cases m
              · exact .inr (.inr m)
            · rintro (m | m | m)
              · cases m
              · exact .inl m
              · exact .inr (.inr m)
          have t3 : Stp H1 [] [] (Rv feg [] G) H' [] f1 := ⟨by rw [← swap]; exact t2.fr, t2.kg⟩
          rw [swap] at rp1
          obtain ⟨fe2, s2, r2, t4⟩ := after_call (es := es) s1 sg sub (f0 := []) (f' := f1) hnd (fun a m => m.elim (fun z => nomatch z) (hdj a)) (fun a m => s'.dm a (.inl (List.mem_append_left _ m))) t3 rp1
          exact h _ H' fe2 f1 s2 r2 (t1.trans t4)
        case h_2 heq => cases heq
        case h_3 => exact h.elim
end
end TL

namespace TL
open PySem PySem.Spec PyProof.Rows L2

def testable : Expr → Bool
  | .Name _ _ | .Call _ _ _ _ | .Attribute _ _ _ | .Subscript _ _ _ => true
  | _ => false
def isBoolOp : Expr → Bool
  | .BoolOp _ _ _ => true
  | _ => false
def isCmp : Expr → Bool
  | .Compare _ _ _ _ => true | .UnaryOp .Not _ _ => true | _ => false
/-- an expression by the interpreter: as an operand, as a value, as a test -/
structure GdE (e : Pm) (X : Cx) (W : WX) (ie : IE) (ex : Expr) : Prop where
  o : PE X ex (tO e X W ie)
  v : PE X ex (tE e X W ie)
  t : (testable ex || isBoolOp ex || isCmp ex) = true → PT X ex (tT e X W ie)
  w : isBoolOp ex = true → PW X ex (tT e X W ie)

section
variable {e : Pm} {X : Cx} {W : WX} {c : CK} {lv : Nat} {σ : L2.St} {H : Hp} {fe : List Addr} {G : AP} {ρ : List D} {x : Str} {o ea eb ec ex : Expr} {args rest : List Expr} {apos pos p : Pos} {es : List IE} {a b ie t : IE} {o' : Oks}

theorem pt_plain {ta : TE} (h : PE X ex ta) (k : testable ex = true) : PT X ex (tB ta) := by
  cases ex <;> first | exact pt_val h | cases k
theorem GdE.mk1 (hv : ¬ ∃ i, ie = .var i) (h : PE X ex (tE e X W ie)) (k : (isBoolOp ex || isCmp ex) = false) : GdE e X W ie ex := by
  rw [Bool.or_eq_false_iff] at k
  refine ⟨by rw [(tO_of hv).1]; exact h, h, fun z => ?_, fun z => ?_⟩
  · rw [k.1, k.2, Bool.or_false, Bool.or_false] at z
    exact pt_plain h z
  · rw [k.1] at z; cases z
theorem GdE.mk2 (hv : ¬ ∃ i, ie = .var i) (h : PB e X W ie ex) (k : isBoolOp ex = false) : GdE e X W ie ex :=
  ⟨by rw [(tO_of hv).1]; exact h.1, h.1, fun _ => h.2, fun z => by rw [k] at z; cases z⟩
theorem GdE.mk3 (hv : ¬ ∃ i, ie = .var i) (h : PE X ex (tE e X W ie)) (k : PW X ex (tT e X W ie)) : GdE e X W ie ex :=
  ⟨by rw [(tO_of hv).1]; exact h, h, fun _ => k.pt, fun _ => k⟩

/-- names -/
theorem var_says {i : Nat} {Q : VK} (h : tE e X W (.var i) σ H Q) : tVar i σ H Q := by
  obtain ⟨ρ, fe, G, s, h⟩ := h
  unfold evE at h
  cases q : ρ[i]? with
  | none => rw [q] at h; exact h.elim
  | some d =>
    rw [q] at h
    dsimp only at h
    by_cases l : isLck d = true
    · rw [if_pos l] at h; exact h.elim
    · rw [if_neg l] at h
      by_cases ow : isOwn d = true
      · rw [if_pos ow] at h
        obtain ⟨v, fe1, e1, s1, t1, z1, _⟩ := s.give q (Bool.eq_false_iff.mpr l)
        exact ⟨v, e1, h v H fe1 [] s1 (Rep.of_fz z1) t1⟩
      · rw [if_neg ow] at h
        obtain ⟨v, f1, e1, r1, _⟩ := s.get q (Bool.eq_false_iff.mpr l)
        exact ⟨v, e1, h v H fe [] s (Rep.of_fz (r1.fz_of (Bool.eq_false_iff.mpr ow)).2) Stp.refl⟩
theorem gd_var {i : Nat} (hN : X.N[i]? = some x) (hv : Vis X.env.scope x) (hd : (x == ("__debug__" : Str)) = false) (hcd : (x == ("__classdict__" : Str)) = false) : GdE e X W (.var i) (.Name x pos) := by
  have h := pe_var (pos := pos) hN hv hd hcd
  have h2 : PE X (.Name x pos) (tE e X W (.var i)) := PE.mk' fun _ _ _ q => ⟨_, h, var_says q⟩
  exact ⟨h, h2, fun _ => pt_plain h2 rfl, fun z => nomatch z⟩

/-- written values, constants of the module -/
theorem lit_says {d : D} {v : V} {Q : VK} (hv : ∀ H T, Fz (e.L X.K) H T d v) (h : tE e X W (.lit d) σ H Q) : tC v σ H Q := by
  obtain ⟨ρ, fe, G, s, h⟩ := h
  unfold evE at h
  exact h v H fe [] s (Rep.of_fz (hv _ _)) Stp.refl
theorem con_says {n : Nat} {v : V} {Q : VK} (hv : ∀ H T, Fz (e.L X.K) H T (e.T.con n) v) (h : tE e X W (.con n) σ H Q) : tC v σ H Q := by
  obtain ⟨ρ, fe, G, s, h⟩ := h
  unfold evE at h
  exact h v H fe [] s (Rep.of_fz (hv _ _)) Stp.refl
def litOk : D → Const → Bool
  | .int i, .int j => decide (i = j)
  | .str i, .str j => decide (i = j)
  | .bl i, .bool j => decide (i = j)
  | .non, .none => true
  | _, _ => false
theorem gd_lit {d : D} {k : Const} {j : Nat} (h : litOk d k = true) : GdE e X W (.lit d) (.Constant k j pos) := by
  refine GdE.mk1 (fun ⟨_, z⟩ => nomatch z) ?_ rfl
  unfold litOk at h
  split at h
  · rw [of_decide_eq_true h]; exact PE.mk' fun _ _ _ q => ⟨_, pe_int, lit_says (fun _ _ => fz_int) q⟩
  · rw [of_decide_eq_true h]; exact PE.mk' fun _ _ _ q => ⟨_, pe_str, lit_says (fun _ _ => fz_str) q⟩
  · rw [of_decide_eq_true h]; exact PE.mk' fun _ _ _ q => ⟨_, pe_bl, lit_says (fun _ _ => fz_bl) q⟩
  · exact PE.mk' fun _ _ _ q => ⟨_, pe_non, lit_says (fun _ _ => fz_non) q⟩
  · cases h
theorem gd_con {n : Nat} (lk : Lnk X.prog X.w X.K X.mg X.base e o' lv) (hf : o'.cn n = true) (hg : Gl X (e.nm.cn n)) : GdE e X W (.con n) (.Name (e.nm.cn n) pos) := by
  obtain ⟨nd, v, u, hm, r, z⟩ := lk.cn n hf
  exact GdE.mk1 (fun ⟨_, z⟩ => nomatch z) (PE.mk' fun _ _ _ q => ⟨_, pe_glob hg hm r (beq_eq_false_iff_ne.mpr nd), con_says z q⟩) rfl

/-! ### and, or, if else -/
theorem EndE.after {r : ER} {Q : VK} {H' : Hp} {fe' : List Addr} (h : EndE e X W σ H fe G r Q) (t : Stp H fe [] G H' fe' []) : EndE e X W σ H' fe' G r Q := by
  cases r with
  | ok ρ' d => exact fun v H2 fe2 f2 s2 r2 t2 => h v H2 fe2 f2 s2 r2 (t.trans t2)
  | exn c ρ' => exact fun H2 fe2 s2 t2 => h H2 fe2 s2 (t.trans t2)
  | stuck => exact h
theorem and_says {Q : VK} (h : tE e X W (.and a b) σ H Q) : tAndV (tE e X W a) (tE e X W b) σ H Q := by
  obtain ⟨ρ, fe, G, s, h⟩ := h
  refine ⟨ρ, fe, G, s, ?_⟩
  unfold evE at h
  cases q : evE e.T a ρ with
  | stuck => rw [q] at h; exact h
  | exn x ρ1 => rw [q] at h; exact h
  | ok ρ1 d =>
    rw [q] at h
    intro v H1 fe1 f1 s1 r1 t1
    cases d with
    | bl k =>
      have e1 := r1.bl
      have e2 : f1 = [] := r1.1
      subst e1 e2
      cases k with
      | true => exact ⟨true, rfl, ρ1, fe1, G, s1, h.after t1⟩
      | false => exact ⟨false, rfl, h _ H1 fe1 [] s1 r1 t1⟩
    | _ => exact h.elim
theorem or_says {Q : VK} (h : tE e X W (.or a b) σ H Q) : tOrV (tE e X W a) (tE e X W b) σ H Q := by
  obtain ⟨ρ, fe, G, s, h⟩ := h
  refine ⟨ρ, fe, G, s, ?_⟩
  unfold evE at h
  cases q : evE e.T a ρ with
  | stuck => rw [q] at h; exact h
  | exn x ρ1 => rw [q] at h; exact h
  | ok ρ1 d =>
    rw [q] at h
    intro v H1 fe1 f1 s1 r1 t1
    cases d with
    | bl k =>
      have e1 := r1.bl
      have e2 : f1 = [] := r1.1
      subst e1 e2
      cases k with
      | false => exact ⟨false, rfl, ρ1, fe1, G, s1, h.after t1⟩
      | true => exact ⟨true, rfl, h _ H1 fe1 [] s1 r1 t1⟩
    | _ => exact h.elim
theorem ite_says {Q : VK} (h : tE e X W (.ite t a b) σ H Q) : tIf (tT e X W t) (tE e X W a) (tE e X W b) σ H Q := by
  obtain ⟨ρ, fe, G, s, h⟩ := h
  refine ⟨ρ, fe, G, s, ?_⟩
  unfold evE at h
  cases q : evE e.T t ρ with
  | stuck => rw [q] at h; exact h
  | exn x ρ1 => rw [q] at h; exact h
  | ok ρ1 d =>
    rw [q] at h
    intro v H1 fe1 f1 s1 r1 t1
    cases d with
    | bl k =>
      have e1 := r1.bl
      have e2 : f1 = [] := r1.1
      subst e1 e2
      cases k with
      | false => exact ⟨false, rfl, ρ1, fe1, G, s1, h.after t1⟩
      | true => exact ⟨true, rfl, ρ1, fe1, G, s1, h.after t1⟩
    | _ => exact h.elim
/-- the last clause of a chain -/
theorem pw_last {op : BoolOp} (hb : GdE e X W b eb) (k : (testable eb || isBoolOp eb || isCmp eb) = true) : PW X (.BoolOp op [eb] pos) (tT e X W b) := by
  cases op with
  | And => exact pw_and1 (hb.t k)
  | Or => exact pw_or1 (hb.t k)
theorem gd_and (ha : GdE e X W a ea) (k : (testable ea || isBoolOp ea || isCmp ea) = true) (hb : PE X (.BoolOp .And (eb :: rest) pos) (tE e X W b)) (hw : PW X (.BoolOp .And (eb :: rest) pos) (tT e X W b)) : GdE e X W (.and a b) (.BoolOp .And (ea :: eb :: rest) pos) := by
  refine GdE.mk3 (fun ⟨_, z⟩ => nomatch z) (PE.mk' fun _ _ _ q => ⟨_, pe_and ha.v hb, and_says q⟩) ⟨fun wh pins s σ H Q I q => ?_⟩
  refine (pw_and (ha.t k) hw).run wh pins s σ H Q I ?_
  refine tE_mono (and_says q) fun v H' h => ?_
  obtain ⟨d, rfl, h⟩ := h
  refine ⟨d, rfl, ?_⟩
  cases d with
  | true => exact h
  | false => obtain ⟨b', eb, h⟩ := h; cases eb; exact h
theorem gd_or (ha : GdE e X W a ea) (k : (testable ea || isBoolOp ea || isCmp ea) = true) (hb : PE X (.BoolOp .Or (eb :: rest) pos) (tE e X W b)) (hw : PW X (.BoolOp .Or (eb :: rest) pos) (tT e X W b)) : GdE e X W (.or a b) (.BoolOp .Or (ea :: eb :: rest) pos) := by
  refine GdE.mk3 (fun ⟨_, z⟩ => nomatch z) (PE.mk' fun _ _ _ q => ⟨_, pe_or ha.v hb, or_says q⟩) ⟨fun wh pins s σ H Q I q => ?_⟩
  refine (pw_or (ha.t k) hw).run wh pins s σ H Q I ?_
  refine tE_mono (or_says q) fun v H' h => ?_
  obtain ⟨d, rfl, h⟩ := h
  refine ⟨d, rfl, ?_⟩
  cases d with
  | false => exact h
  | true => obtain ⟨b', eb, h⟩ := h; cases eb; exact h
theorem gd_ite (ht : GdE e X W t ec) (k : (testable ec || isBoolOp ec || isCmp ec) = true) (ha : GdE e X W a ea) (hb : GdE e X W b eb) : GdE e X W (.ite t a b) (.IfExp ec ea eb pos) :=
  GdE.mk1 (fun ⟨_, z⟩ => nomatch z) (PE.mk' fun _ _ _ q => ⟨_, pe_ifExp (ht.t k) ha.v hb.v, ite_says q⟩) rfl
theorem not_ev {T : Tbl} : evE T (.op .not [a]) ρ = .stuck ∨ evE T (.op .not [a]) ρ = (match evE T a ρ with | .ok ρ1 (.bl k) => .ok ρ1 (.bl (!k)) | .exn c ρ1 => .exn c ρ1 | _ => .stuck) := by
  have e0 : evE T (.op .not [a]) ρ = (match evB T [a] ρ with
    | .ok ρ1 ds => if (lentB [a] ds ρ1).any isLck then .stuck else match ap_not (lentB [a] ds ρ1) with
      | some d => .ok ρ1 d
      | none => .stuck
    | .exn c ρ1 => .exn c ρ1
    | .stuck => .stuck) := by
    conv => lhs; unfold evE
    rfl
  rw [e0]
  by_cases hv : ∃ i, a = .var i
  · obtain ⟨i, rfl⟩ := hv
    unfold evB
    by_cases hl : isLck (ρ.getD i .und) = true
    · rw [if_pos hl]; exact .inl rfl
    · rw [if_neg hl]
      obtain ⟨d, hd, hg, nl⟩ := look_slot (Bool.eq_false_iff.mpr hl)
      unfold evB
      show (if ([ρ.getD i .und]).any isLck then ER.stuck else match ap_not [ρ.getD i .und] with | some d => .ok ρ d | none => .stuck) = _ ∨ (if ([ρ.getD i .und]).any isLck then ER.stuck else match ap_not [ρ.getD i .und] with | some d => .ok ρ d | none => .stuck) = _
      unfold evE
      rw [hg, hd]
      cases d <;> first | exact .inr rfl | exact .inl rfl | (left; split <;> rfl)
  · have hb : evB T [a] ρ = (match evE T a ρ with
      | .ok ρ1 d => if isLck d then .stuck else .ok ρ1 [d]
      | .exn c ρ1 => .exn c ρ1
      | .stuck => .stuck) := by
      cases a <;> first | exact absurd ⟨_, rfl⟩ hv | ((conv => lhs; unfold evB) <;> rfl)
    rw [hb]
    cases q : evE T a ρ with
    | stuck => exact .inl rfl
    | exn x ρ1 => exact .inr rfl
    | ok ρ1 d =>
      have hb2 : lentB [a] [d] ρ1 = [d] := by cases a <;> first | exact absurd ⟨_, rfl⟩ hv | rfl
      dsimp only
      by_cases hl : isLck d = true
      · rw [if_pos hl]; exact .inl rfl
      · rw [if_neg hl]
        dsimp only
        rw [hb2]
        cases d <;> first | exact .inr rfl | exact .inl rfl | (left; split <;> rfl)
/-- not -/
theorem gd_not (ha : GdE e X W a ea) (k : (testable ea || isBoolOp ea || isCmp ea) = true) : GdE e X W (.op .not [a]) (.UnaryOp .Not ea pos) := by
  have core : ∀ (σ : L2.St) (H : Hp) (Q : VK), tE e X W (.op .not [a]) σ H Q → tO e X W a σ H fun x H1 => ∃ c, x = .bl c ∧ Q (.bl (!c)) H1 := fun σ H Q h => by
    refine op1i (r := fun x H Q => ∃ c, x = .bl c ∧ Q (.bl (!c)) H) (fun σ H fe G ρ' d Q H' fe' f' d1 x F r1 h0 => ?_) h
    obtain ⟨f1, r1⟩ := r1
    have h : ap_not [d1] = some d := h0
    unfold ap_not at h
    split at h
    · rename_i b' he
      cases he; cases h
      exact ⟨_, r1.bl, F.sc fz_bl⟩
    · cases h
  refine GdE.mk2 (fun ⟨_, z⟩ => nomatch z) ⟨pO_not ha.o, ?_⟩ rfl
  refine PT.mk' fun σ H Q h => ⟨_, pt_not (ha.t k), ?_⟩
  -- the test of a itself
  obtain ⟨ρ, fe, G, s, h⟩ := h
  refine ⟨ρ, fe, G, s, ?_⟩
  have key := not_ev (T := e.T) (a := a) (ρ := ρ)
  rcases key with key | key
  · rw [key] at h; exact h.elim
  rw [key] at h
  cases q : evE e.T a ρ with
  | stuck => rw [q] at h; exact h
  | exn x ρ1 => rw [q] at h; exact h
  | ok ρ1 d =>
    rw [q] at h
    intro v H1 fe1 f1 s1 r1 t1
    cases d with
    | bl k =>
      have e1 := r1.bl
      have e2 : f1 = [] := r1.1
      subst e1 e2
      obtain ⟨b', e3, h⟩ := h (.bl (!k)) H1 fe1 [] s1 (Rep.of_fz fz_bl) t1
      cases e3
      exact ⟨k, rfl, h⟩
    | _ => exact h.elim
end
end TL

namespace TL
open PySem PySem.Spec PyProof.Rows L2

section
variable {e : Pm} {X : Cx} {W : WX} {c : CK} {lv : Nat} {σ : L2.St} {H : Hp} {fe : List Addr} {G : AP} {ρ : List D} {x : Str} {o ea eb ec ex : Expr} {xs : List Expr} {apos pos p : Pos} {es : List IE} {a b ie t : IE} {o' : Oks}

theorem evEs_len {T : Tbl} : ∀ {es : List IE} {ρ ρ' : List D} {ds : List D}, evEs T es ρ = .ok ρ' ds → ds.length = es.length
  | [], ρ, ρ', ds, h => by unfold evEs at h; cases h; rfl
  | ie :: es, ρ, ρ', ds, h => by
    unfold evEs at h
    cases q : evE T ie ρ with
    | stuck => rw [q] at h; cases h
    | exn x ρ1 => rw [q] at h; cases h
    | ok ρ1 d =>
      rw [q] at h
      dsimp only at h
      split at h
      · cases h
      · cases q2 : evEs T es ρ1 with
        | stuck => rw [q2] at h; cases h
        | exn x ρ1 => rw [q2] at h; cases h
        | ok ρ2 ds' =>
          rw [q2] at h
          cases h
          show ds'.length + 1 = es.length + 1
          rw [evEs_len q2]
theorem small_line {n : Nat} (h : n ≤ 1000) : n ≤ sizeLine := Nat.le_trans h (by decide)
theorem gd_tup {k : Nat} (hl : es.length ≤ 1000) (h : PA X xs (tIs e X W es)) : GdE e X W (.tup es) (.Tuple xs k pos) := by
  refine GdE.mk1 (fun ⟨_, z⟩ => nomatch z) (PE.mk' fun σ H Q q => ⟨_, pe_tup h, ?_⟩) rfl
  obtain ⟨ρ, fe, G, s, q⟩ := q
  unfold evE at q
  refine evEs_ok es ρ H fe _ s ?_
  cases z : evEs e.T es ρ with
  | stuck => rw [z] at q; exact q
  | exn x ρ1 => rw [z] at q; exact q
  | ok ρ1 ds =>
    rw [z] at q
    intro vs H1 fe1 s1 r1 t1
    refine ⟨by rw [r1.len, evEs_len z]; exact small_line hl, fun p n => ?_⟩
    exact Fi.newT (e := e) (X := X) ⟨q, s1, t1⟩ r1 n
theorem gd_lst (hl : es.length ≤ 1000) (h : PA X xs (tIs e X W es)) : GdE e X W (.lst es) (.List xs pos) := by
  refine GdE.mk1 (fun ⟨_, z⟩ => nomatch z) (PE.mk' fun σ H Q q => ⟨_, pe_lst h, ?_⟩) rfl
  obtain ⟨ρ, fe, G, s, q⟩ := q
  unfold evE at q
  refine evEs_ok es ρ H fe _ s ?_
  cases z : evEs e.T es ρ with
  | stuck => rw [z] at q; exact q
  | exn x ρ1 => rw [z] at q; exact q
  | ok ρ1 ds =>
    rw [z] at q
    intro vs H1 fe1 s1 r1 t1
    refine ⟨by rw [r1.len, evEs_len z]; exact small_line hl, fun p n => ?_⟩
    exact Fi.new (e := e) (X := X) ⟨q, s1, t1⟩ r1 n
theorem gd_dct : GdE e X W (.dct []) (.Dict [] [] pos) := by
  refine GdE.mk1 (fun ⟨_, z⟩ => nomatch z) (PE.mk' fun σ H Q q => ⟨_, pe_dnewK, fun p n => ?_⟩) rfl
  obtain ⟨ρ, fe, G, s, q⟩ := q
  unfold evE at q
  unfold evEs at q
  exact Fi.newD (e := e) (X := X) ⟨q, s, Stp.refl⟩ (by unfold FzK; rfl) n
theorem gd_dcL : GdE e X W .dcL (.Dict [] [] pos) := by
  refine GdE.mk1 (fun ⟨_, z⟩ => nomatch z) (PE.mk' fun σ H Q q => ⟨_, pe_dnewK, fun p n => ?_⟩) rfl
  obtain ⟨ρ, fe, G, s, q⟩ := q
  unfold evE at q
  obtain ⟨s1, t1⟩ := s.alloc (o := .dK []) n
  exact q (.ref p) _ fe [p] s1 ⟨p, [], [], rfl, rfl, upd_same, rfl, rfl⟩ t1
theorem gd_dcT : GdE e X W .dcT (.Dict [] [] pos) := by
  refine GdE.mk1 (fun ⟨_, z⟩ => nomatch z) (PE.mk' fun σ H Q q => ⟨_, pe_dnewT, fun p n => ?_⟩) rfl
  obtain ⟨ρ, fe, G, s, q⟩ := q
  unfold evE at q
  exact Fi.newDT (e := e) (X := X) ⟨q, s, Stp.refl⟩ (by unfold FzT; rfl) n

/-! ### fields -/
theorem fzF_get {L : LC} {T : AP} {f : Nat} {d : D} (hi : ∀ m n, L.fn m = L.fn n → m = n) : ∀ {fs : List (Nat × D)} {ws : List (Str × V)}, FzF L H T fs ws → fs.lookup f = some d → ∃ v, ws.lookup (L.fn f) = some v ∧ Fz L H T d v
  | [], _, h, q => by cases q
  | (n, d') :: r, _, h, q => by
    unfold FzF at h
    obtain ⟨v, r', rfl, h1, h2⟩ := h
    rw [List.lookup_cons] at q ⊢
    by_cases hn : f = n
    · subst hn
      rw [beq_self_eq_true] at q ⊢
      cases q
      exact ⟨v, rfl, h1⟩
    · rw [beq_eq_false_iff_ne.mpr hn] at q
      rw [beq_eq_false_iff_ne.mpr (fun z => hn (hi _ _ z))]
      exact fzF_get hi h2 q
theorem fld_says {c f : Nat} {Q : VK} (hi : ∀ m n, e.nm.fd m = e.nm.fd n → m = n) (hc : Cls X.K (e.ca c)) (hn : NoAttr X.K (e.ca c) (e.nm.fd f)) (h : tE e X W (.fld c ie f) σ H Q) : tFld X.K (tO e X W ie) (e.nm.fd f) σ H Q := by
  obtain ⟨ρ, fe, G, s, h⟩ := h
  by_cases hv : ∃ i, ie = .var i
  · obtain ⟨i, rfl⟩ := hv
    unfold evE at h
    split at h
    · rename_i w c' fs hd
      split at h
      · rename_i hcc
        subst hcc
        split at h
        · rename_i d hl
          split at h
          · exact h.elim
          rename_i ho
          obtain ⟨v, f1, e1, r1, _⟩ := s.get hd rfl
          obtain ⟨p, dx, ws, rfl, e2, q⟩ := r1.objAt
          obtain ⟨v, e3, z⟩ := fzF_get hi q hl
          refine ⟨_, e1, p, _, dx, ws, v, rfl, e2, hc, hn, e3, ?_⟩
          exact h v H fe [] s (Rep.of_fz z) Stp.refl
        · exact h.elim
      · exact h.elim
    · exact h.elim
  · have hb : evE e.T (.fld c ie f) ρ = (match evE e.T ie ρ with
      | .ok ρ1 (.obj .fz c' fs) => if c' = c then (match fs.lookup f with
        | some d => if isOwn d || isLck d then .stuck else .ok ρ1 d
        | none => .stuck) else .stuck
      | .exn c ρ1 => .exn c ρ1
      | _ => .stuck) := by
      cases ie <;> first | exact absurd ⟨_, rfl⟩ hv | ((conv => lhs; unfold evE) <;> rfl)
    rw [hb] at h
    unfold tFld
    rw [(tO_of hv).1]
    refine ⟨ρ, fe, G, s, ?_⟩
    cases q : evE e.T ie ρ with
    | stuck => rw [q] at h; exact h
    | exn x ρ1 => rw [q] at h; exact h
    | ok ρ1 d =>
      rw [q] at h
      intro v H1 fe1 f1 s1 r1 t1
      split at h
      · rename_i ρ1' c' fs he
        cases he
        split at h
        · rename_i hcc
          subst hcc
          split at h
          · rename_i d hl
            split at h
            · exact h.elim
            obtain ⟨p, dx, ws, rfl, e2, q⟩ := r1.objAt
            obtain ⟨v, e3, z⟩ := fzF_get hi q hl
            have e4 : f1 = [] := r1.1
            subst e4
            exact ⟨p, _, dx, ws, v, rfl, e2, hc, hn, e3, h v H1 fe1 [] s1 (Rep.of_fz z) t1⟩
          · exact h.elim
        · exact h.elim
      · rename_i he; cases he
      · exact h.elim
theorem gd_fld {c f : Nat} (lk : Lnk X.prog X.w X.K X.mg X.base e o' lv) (hf : o'.fl c f = true) (he : GdE e X W ie ea) (h1 : noSup ea = true) : GdE e X W (.fld c ie f) (.Attribute ea (e.nm.fd f) pos) := by
  obtain ⟨hc, hn⟩ := lk.fl c f hf
  exact GdE.mk1 (fun ⟨_, z⟩ => nomatch z) (PE.mk' fun σ H Q q => ⟨_, pe_fld he.o (base_of h1), fld_says lk.inj hc hn q⟩) rfl

/-! ### pop -/
theorem popped {L : LC} {i : Nat} {xs ys : List D} {us : List V → List V} (s : SR L ρ σ H fe [] G) (hd : ρ[i]? = some (.lst .own xs)) (hu : ∀ {T : AP} {vs : List V}, Fzs L H T xs vs → Fzs L H T ys (us vs)) :
    ∃ p vs, σ[i]? = some (some (.ref p)) ∧ H p = some (.lst vs) ∧ Fzs L H (Rv fe [] G) xs vs ∧ SR L (ρ.set i (.lst .own ys)) σ (upd H p (.lst (us vs))) fe [] G ∧ Stp H fe [] G (upd H p (.lst (us vs))) fe [] := by
  obtain ⟨v, f1, e1, r1, m1⟩ := s.get hd rfl
  obtain ⟨p, vs, rfl, ef, e2, z⟩ := r1
  refine ⟨p, vs, e1, e2, z, s.mut (o := .lst (us vs)) (d' := .lst .own ys) hd e1 rfl e2 fun _ => ⟨p, us vs, rfl, rfl, upd_same, ?_⟩⟩
  refine Fzs.step (T := Rv fe [] G) (fun b w n q => ⟨?_, n⟩) _ _ (hu z)
  rw [upd_ne]
  · exact q
  · rintro rfl
    exact n (.inl (m1 b (by rw [ef]; exact List.mem_singleton.mpr rfl)))
theorem pop0_says {i : Nat} {Q : VK} (h : tE e X W (.pop i []) σ H Q) : tBM0 X.K "list" rPop (tVar i) σ H Q := by
  obtain ⟨ρ, fe, G, s, h⟩ := h
  unfold evE at h
  split at h
  · rename_i xs hd
    split at h
    · rename_i x hx
      obtain ⟨p, vs, e1, e2, z, s1, t1⟩ := popped (us := List.dropLast) s hd (fun z => z.dropLast)
      have hx' : xs[xs.length - 1]? = some x := by rw [← List.getLast?_eq_getElem?]; exact hx
      obtain ⟨y, e3, zx⟩ := z.get hx'
      exact ⟨_, e1, .inl ⟨rfl, vs, .inl (.inl e2)⟩, p, vs, y, rfl, rfl, e2, by rw [z.len]; exact e3, h y _ fe [] s1 (Rep.of_fz (zx.step t1.fr)) t1⟩
    · exact h.elim
  · exact h.elim
theorem gd_pop0 {i : Nat} (he : GdE e X W (.var i) o) (h1 : noSup o = true) (h4 : (apos.endLine == pos.line) = true) : GdE e X W (.pop i []) (.Call (.Attribute o "pop" apos) [] [] pos) :=
  GdE.mk1 (fun ⟨_, z⟩ => nomatch z) (PE.mk' fun σ H Q q => ⟨_, pe_bm0 PySem.F.plainAttrs_list PySem.F.slot_list_pop PySem.F.type_list_pop mt_pop he.o (base_of h1) h4, pop0_says q⟩) rfl
theorem lenOk_63 {n j : Nat} {i : Int} (h : lenOk n = true) (h1 : -(n : Int) ≤ i) (h2 : i < n) : -(2 ^ 63) ≤ i ∧ i < 2 ^ 63 := by
  unfold lenOk at h
  have := of_decide_eq_true h
  omega
theorem pop1_says {i : Nat} {Q : VK} (h : tE e X W (.pop i [a]) σ H Q) : tBM X.K "list" rPopAt (tVar i) (tCons (tE e X W a) tNil) σ H Q := by
  obtain ⟨ρ, fe, G, s, h⟩ := h
  unfold evE at h
  split at h
  · exact h.elim
  rename_i pre
  obtain ⟨xs0, hd0⟩ : ∃ xs0, ρ[i]? = some (.lst .own xs0) := by
    have pre : isOwnL (ρ.getD i .und) = true := by simpa using pre
    rw [List.getD_eq_getElem?_getD] at pre
    cases q : ρ[i]? with
    | none => rw [q] at pre; cases pre
    | some d =>
      rw [q] at pre
      cases d with
      | lst w xs => cases w <;> first | exact ⟨_, rfl⟩ | cases pre
      | _ => cases pre
  obtain ⟨v0, f0, e0, ⟨p0, vs0, e00, _, e01, _⟩, _⟩ := s.get hd0 rfl
  subst e00
  refine ⟨_, e0, .inl ⟨rfl, vs0, .inl (.inl e01)⟩, ρ, fe, G, s, ?_⟩
  cases q : evE e.T a ρ with
  | stuck => rw [q] at h; exact h
  | exn x ρ1 => rw [q] at h; exact h
  | ok ρ1 d =>
    rw [q] at h
    intro v H1 fe1 f1 s1 r1 t1
    cases d with
    | int k =>
      have e1 := r1.int
      have e2 : f1 = [] := r1.1
      subst e1 e2
      dsimp only at h
      split at h
      · rename_i xs hd
        split at h
        · exact h.elim
        rename_i hl
        split at h
        · rename_i j hj
          split at h
          · rename_i x hx
            obtain ⟨p, vs, e1, e2, z, s2, t2⟩ := popped (us := fun vs => vs.eraseIdx j) s1 hd (fun z => z.eraseIdx j)
            rw [e0] at e1
            cases e1
            obtain ⟨y, e3, zx⟩ := z.get hx
            obtain ⟨h1, h2, h3, h4⟩ := ixN_seq hj
            obtain ⟨h5, h6⟩ := lenOk_63 (j := j) (by simpa using hl) h3 h4
            exact ⟨p0, vs, k, j, y, rfl, rfl, e2, h5, h6, by rw [z.len]; exact h1, e3, h y _ fe1 [] s2 (Rep.of_fz (zx.step t2.fr)) (t1.trans t2)⟩
          · exact h.elim
        · exact h.elim
      · exact h.elim
    | _ => exact h.elim
theorem gd_pop1 {i : Nat} (he : GdE e X W (.var i) o) (ha : GdE e X W a ea) (n1 : noStar ea = true) (h1 : noSup o = true) (h4 : (apos.endLine == pos.line) = true) : GdE e X W (.pop i [a]) (.Call (.Attribute o "pop" apos) [ea] [] pos) := by
  refine GdE.mk1 (fun ⟨_, z⟩ => nomatch z) (PE.mk' fun σ H Q q => ⟨_, pe_bm PySem.F.plainAttrs_list PySem.F.slot_list_pop PySem.F.type_list_pop mt_popAt he.o (pa_cons ha.v pa_nil (starEach_of n1)) (base_of h1) ?_ h4 (starEach_of n1) rfl, pop1_says q⟩) rfl
  rw [starEach_of n1]; rfl
end
end TL

namespace TL
open PySem PySem.Spec PyProof.Rows L2

section
variable {L : LC} {σ : L2.St} {H : Hp} {fe f : List Addr} {G : AP} {ρ : List D}

/-- a slot takes what isn't anybody's own -/
theorem SR.put {i : Nat} {d d₀ : D} {o : Option V} (s : SR L ρ σ H fe f G) (e : ρ[i]? = some d₀) (q : SlotR L H (Rv fe f G) d o []) :
    ∃ fe', SR L (ρ.set i d) (σ.set i o) H fe' f G ∧ ∀ a ∈ fe', a ∈ fe := by
  obtain ⟨o1, l, f1, r, e1, rfl, _, go⟩ := s.env.focus e
  obtain ⟨n1, n2, n3⟩ := List.nodup_append.mp s.nd
  obtain ⟨m1, m2, m3⟩ := List.nodup_append.mp n1
  obtain ⟨k1, k2, k3⟩ := List.nodup_append.mp m2
  have inc : ∀ a ∈ l ++ r, a ∈ l ++ (f1 ++ r) := fun a m => (List.mem_append.mp m).elim (fun m => List.mem_append_left _ m) fun m => List.mem_append_right _ (List.mem_append_right _ m)
  have sub : ∀ a, Rv (l ++ r) f G a → Rv (l ++ (f1 ++ r)) f G a := fun a q => q.elim (fun q => .inl (inc a q)) .inr
  have fr : Frz H (Rv (l ++ (f1 ++ r)) f G) H (Rv (l ++ r) f G) := Frz.sub sub
  refine ⟨l ++ r, ⟨?_, ?_, fun a q => s.dj a (q.elim (fun q => .inl (inc a q)) .inr), fun a q => s.dm a (sub a q)⟩, inc⟩
  · have g := go H (Rv (l ++ r) f G) d o [] fr (fun _ _ _ e => e) (q.step fr fun _ _ m _ => nomatch m)
    rw [List.nil_append] at g
    exact g
  · exact List.nodup_append.mpr ⟨List.nodup_append.mpr ⟨m1, k2, fun a q b q' e => m3 a q b (List.mem_append_right _ q') e⟩, n2, fun a q b q' e => n3 a (inc a q) b q' e⟩
theorem Stp.less {fe' : List Addr} (h : ∀ a ∈ fe', a ∈ fe) : Stp H fe f G H fe' f := ⟨Frz.sub fun a q => q.elim (fun q => .inl (h a q)) .inr, fun _ _ _ e => e⟩
theorem SR.len (s : SR L ρ σ H fe f G) : σ.length = ρ.length := s.env.len
theorem set_far {α : Type} {l : List α} {i : Nat} {x : α} (h : l[i]? = none) : l.set i x = l := by
  rw [List.getElem?_eq_none_iff] at h
  exact List.set_eq_of_length_le h
theorem SR.far {i : Nat} (s : SR L ρ σ H fe f G) (h : ρ[i]? = none) : σ[i]? = none := by
  rw [List.getElem?_eq_none_iff] at h ⊢
  rw [s.len]; exact h

/-! ### targets -/
def gNs : List Nat → TGs
  | [] => gNil
  | i :: is => gCons (gName i) (gNs is)
def gOf (K : PySem.W.Frag) : Tg → TG
  | .one i => gName i
  | .tup is => gTup K is.length (gNs is)
theorem wipe_set {x : Option V} {i : Nat} : ∀ (vs : List Nat) (σ : L2.St), i ∈ vs → wipe (σ.set i x) vs = wipe σ vs := by
  have gen : ∀ (vs : List Nat) (σ : L2.St), i ∉ vs → wipe (σ.set i x) vs = (wipe σ vs).set i x := fun vs => by
    induction vs with
    | nil => exact fun _ _ => rfl
    | cons v vs ih =>
      intro σ h
      unfold wipe
      rw [ih σ (fun z => h (List.mem_cons_of_mem _ z)), List.set_comm _ _ (fun z => h (by rw [z]; exact List.mem_cons_self))]
  intro vs
  induction vs with
  | nil => exact fun _ h => nomatch h
  | cons v vs ih =>
    intro σ h
    unfold wipe
    by_cases hm : i ∈ vs
    · rw [ih σ hm]
    · have hv : i = v := (List.mem_cons.mp h).elim id fun z => absurd z hm
      subst hv
      rw [gen vs σ hm, List.set_set]
theorem storeT_ok : ∀ (is : List Nat) (ds : List D) (xs : List V) (ρ ρ' : List D) (σ : L2.St) (fe : List Addr), SR L ρ σ H fe [] G → Fzs L H (Rv fe [] G) ds xs → storeT is ds ρ = some ρ' →
    ∃ σ' fe', SR L ρ' σ' H fe' [] G ∧ (∀ a ∈ fe', a ∈ fe) ∧ (∀ vs : List Nat, (∀ i ∈ is, i ∈ vs) → wipe σ' vs = wipe σ vs) ∧ xs.length = is.length ∧ ∀ R : L2.St → Hp → Prop, R σ' H → gNs is xs σ H R
  | [], [], xs, ρ, ρ', σ, fe, s, z, h => by
    unfold storeT at h
    cases h
    unfold Fzs at z
    subst z
    exact ⟨σ, fe, s, fun _ m => m, fun _ _ => rfl, rfl, fun R q => ⟨rfl, q⟩⟩
  | i :: is, d :: ds, xs, ρ, ρ', σ, fe, s, z, h => by
    unfold storeT at h
    unfold Fzs at z
    obtain ⟨x, r, rfl, z1, z2⟩ := z
    obtain ⟨fe1, s1, m1⟩ : ∃ fe1, SR L (ρ.set i d) (σ.set i (some x)) H fe1 [] G ∧ ∀ a ∈ fe1, a ∈ fe := by
      cases q : ρ[i]? with
      | none => rw [set_far q, set_far (s.far q)]; exact ⟨fe, s, fun _ m => m⟩
      | some d₀ => exact s.put q (SlotR.mk (Rep.of_fz z1))
    obtain ⟨σ', fe', s', m', w', l', g'⟩ := storeT_ok is ds r (ρ.set i d) ρ' (σ.set i (some x)) fe1 s1 (Fzs.step (Frz.sub fun a q => q.elim (fun q => .inl (m1 a q)) .inr) _ _ z2) h
    refine ⟨σ', fe', s', fun a m => m1 a (m' a m), fun vs hv => ?_, by show r.length + 1 = is.length + 1; rw [l'], fun R q => ⟨x, r, rfl, g' R q⟩⟩
    rw [w' vs fun j m => hv j (List.mem_cons_of_mem _ m), wipe_set vs σ (hv i List.mem_cons_self)]
  | [], _ :: _, _, _, _, _, _, _, _, h => by unfold storeT at h; cases h
  | _ :: _, [], _, _, _, _, _, _, _, h => by unfold storeT at h; cases h
theorem store1_ok {g : Tg} {d : D} {x : V} {ρ' : List D} (s : SR L ρ σ H fe [] G) (z : Fz L H (Rv fe [] G) d x) (h : store1 g d ρ = some ρ') :
    ∃ σ' fe', SR L ρ' σ' H fe' [] G ∧ (∀ a ∈ fe', a ∈ fe) ∧ (∀ vs : List Nat, (∀ i ∈ slotsOf g, i ∈ vs) → wipe σ' vs = wipe σ vs) ∧ ∀ (K : PySem.W.Frag) (R : L2.St → Hp → Prop), R σ' H → gOf K g x σ H R := by
  cases g with
  | one i =>
    have h : some (ρ.set i d) = some ρ' := h
    cases h
    obtain ⟨fe1, s1, m1⟩ : ∃ fe1, SR L (ρ.set i d) (σ.set i (some x)) H fe1 [] G ∧ ∀ a ∈ fe1, a ∈ fe := by
      cases q : ρ[i]? with
      | none => rw [set_far q, set_far (s.far q)]; exact ⟨fe, s, fun _ m => m⟩
      | some d₀ => exact s.put q (SlotR.mk (Rep.of_fz z))
    exact ⟨_, fe1, s1, m1, fun vs hv => wipe_set vs σ (hv i List.mem_cons_self), fun K R q => q⟩
  | tup is =>
    unfold store1 at h
    dsimp only at h
    split at h
    · rename_i ds
      unfold Fz at z
      obtain ⟨a, vs, rfl, n, e, q⟩ := z
      obtain ⟨σ', fe', s', m', w', l', g'⟩ := storeT_ok is ds vs ρ ρ' σ fe s q h
      exact ⟨σ', fe', s', m', w', fun K R r => ⟨a, vs, rfl, .inl (.inl e), l', g' R r⟩⟩
    · cases h

/-! ### a block's own names -/
theorem SR.wiped : ∀ (vs : List Nat), SR L ρ σ H fe f G → ∃ fe', SR L (wipeD ρ vs) (wipe σ vs) H fe' f G ∧ ∀ a ∈ fe', a ∈ fe
  | [], s => ⟨fe, s, fun _ m => m⟩
  | i :: is, s => by
    obtain ⟨fe1, s1, m1⟩ := SR.wiped is s
    unfold wipe wipeD
    cases q : (wipeD ρ is)[i]? with
    | none => rw [set_far q, set_far (s1.far q)]; exact ⟨fe1, s1, m1⟩
    | some d₀ =>
      obtain ⟨fe2, s2, m2⟩ := s1.put (d := .und) (o := none) q rfl
      exact ⟨fe2, s2, fun a m => m1 a (m2 a m)⟩
theorem wipeD_len : ∀ (vs : List Nat) (ρ : List D), (wipeD ρ vs).length = ρ.length
  | [], _ => rfl
  | i :: is, ρ => by unfold wipeD; rw [List.length_set, wipeD_len is ρ]
theorem backD_len {old : List D} : ∀ (vs : List Nat) (ρ : List D), (backD old ρ vs).length = ρ.length
  | [], _ => rfl
  | i :: is, ρ => by unfold backD; rw [List.length_set, backD_len is ρ]
theorem plain_get : ∀ {vs : List Nat} {i : Nat}, plainSlots vs ρ = true → i ∈ vs → ∃ d, ρ[i]? = some d ∧ isOwn d = false
  | v :: vs, i, h, m => by
    unfold plainSlots at h
    rw [Bool.and_eq_true] at h
    rcases List.mem_cons.mp m with m | m
    · subst m
      have h := h.1
      split at h
      · rename_i d q
        exact ⟨d, q, by simpa using h⟩
      · cases h
    · exact plain_get h.2 m
/-- the slots as they were -/
theorem SR.restored {old : List D} {σt : L2.St} {f' : List Addr} : ∀ (vs : List Nat) (ρ : List D) (σ0 : L2.St) (fe : List Addr), vs.Nodup → SR L ρ σ0 H fe f' G → σt.length = σ0.length → (∀ j, j ∉ vs → σ0[j]? = σt[j]?) →
    (∀ i ∈ vs, ∃ o, σt[i]? = some o ∧ ∀ T : AP, (∀ a, T a → Rv fe f' G a) → SlotR L H T (old.getD i .und) o []) → ∃ fe', SR L (backD old ρ vs) σt H fe' f' G ∧ ∀ a ∈ fe', a ∈ fe
  | [], ρ, σ0, fe, _, s, hl, ho, _ => by
    have e : σ0 = σt := List.ext_getElem? fun j => ho j (fun z => nomatch z)
    subst e
    exact ⟨fe, s, fun _ m => m⟩
  | i :: is, ρ, σ0, fe, nd, s, hl, ho, hs => by
    obtain ⟨n1, n2⟩ := List.nodup_cons.mp nd
    obtain ⟨o, eo, so⟩ := hs i List.mem_cons_self
    -- all but i
    have hi : i < σt.length := by
      rcases Nat.lt_or_ge i σt.length with h | h
      · exact h
      · rw [List.getElem?_eq_none h] at eo; cases eo
    obtain ⟨w, ew⟩ : ∃ w, σ0[i]? = some w := ⟨_, List.getElem?_eq_getElem (by rw [← hl]; exact hi)⟩
    obtain ⟨fe1, s1, m1⟩ := SR.restored (σt := σt.set i w) is ρ σ0 fe n2 s (by rw [List.length_set]; exact hl) (fun j hj => by
      by_cases z : i = j
      · subst z; rw [List.getElem?_set_self hi, ew]
      · rw [List.getElem?_set_ne z]
        exact ho j (fun m => (List.mem_cons.mp m).elim (fun m => z m.symm) hj)) (fun j m => by
      have z : i ≠ j := fun z => n1 (by rw [z]; exact m)
      obtain ⟨o', e', q'⟩ := hs j (List.mem_cons_of_mem _ m)
      exact ⟨o', by rw [List.getElem?_set_ne z]; exact e', q'⟩)
    have hb : ∃ d₀, (backD old ρ is)[i]? = some d₀ := ⟨_, List.getElem?_eq_getElem (by rw [backD_len, ← s.len, ← hl]; exact hi)⟩
    obtain ⟨d₀, hb⟩ := hb
    obtain ⟨fe2, s2, m2⟩ := s1.put (o := o) hb (so _ fun a q => q.elim (fun q => .inl (m1 a q)) .inr)
    refine ⟨fe2, ?_, fun a m => m1 a (m2 a m)⟩
    unfold backD
    rw [List.set_set] at s2
    have e : σt.set i o = σt := List.ext_getElem? fun j => by
      by_cases z : i = j
      · subst z; rw [List.getElem?_set_self hi, eo]
      · rw [List.getElem?_set_ne z]
    rw [e] at s2
    exact s2
end
end TL

namespace TL
open PySem PySem.Spec PyProof.Rows L2

/-- an iterator that gives these -/
structure ItOk (L : LC) (J : It) (xs : List D) (P : Hp → AP → Prop) : Prop where
  go : ∀ {i : Nat} {H : Hp} {T : AP}, P H T → i < xs.length → J.go i H
  yld : ∀ {i : Nat} {H : Hp} {T : AP} {x : V} {H' : Hp}, P H T → i < xs.length → J.yld i H x H' → H' = H ∧ ∃ d, xs[i]? = some d ∧ Fz L H T d x
  stop : ∀ {H : Hp} {T : AP}, P H T → J.stop xs.length H
  step : ∀ {H H' : Hp} {T T' : AP}, P H T → Frz H T H' T' → P H' T'
section
variable {L : LC} {K : PySem.W.Frag}
theorem rangeD_len {lo : Int} {n : Nat} : (rangeD lo n).length = n := by unfold rangeD; simp
theorem rangeD_get {lo : Int} {n i : Nat} (h : i < n) : (rangeD lo n)[i]? = some (.int (lo + (i : Int))) := by unfold rangeD; simp [h]
theorem it_range {lo : Int} {n : Nat} : ItOk L (Itr lo n) (rangeD lo n) fun _ _ => True where
  go := fun _ h => by rw [rangeD_len] at h; exact h
  yld := fun _ h q => by
    rw [rangeD_len] at h
    exact ⟨q.1, _, rangeD_get h, by rw [q.2]; exact fz_int⟩
  stop := fun _ => by rw [rangeD_len]; exact Nat.le_refl _
  step := fun _ _ => trivial
theorem it_list {a : Addr} {w : TL.W} {xs : List D} : ItOk L (Itl L.K a) xs fun H T => Fz L H T (.lst w xs) (.ref a) where
  go := fun h hi => by
    unfold Fz at h
    obtain ⟨_, b, vs, eb, _, _, e, q⟩ := h
    cases eb
    obtain ⟨d, hd⟩ : ∃ d, xs[_]? = some d := ⟨_, List.getElem?_eq_getElem hi⟩
    obtain ⟨v, e1, _⟩ := q.get hd
    exact ⟨vs, v, e, e1⟩
  yld := fun h hi y => by
    unfold Fz at h
    obtain ⟨_, b, vs, eb, _, _, e, q⟩ := h
    cases eb
    obtain ⟨d, hd⟩ : ∃ d, xs[_]? = some d := ⟨_, List.getElem?_eq_getElem hi⟩
    obtain ⟨v, e1, z⟩ := q.get hd
    have := y.2 vs e
    rw [e1] at this
    cases this
    exact ⟨y.1, d, hd, z⟩
  stop := fun h => by
    unfold Fz at h
    obtain ⟨_, b, vs, eb, _, _, e, q⟩ := h
    cases eb
    exact ⟨vs, e, by rw [q.len]; exact Nat.le_refl _⟩
  step := fun h s => Fz.step s _ _ h
theorem it_tup {a : Addr} {xs : List D} : ItOk L (Itt K a) xs fun H T => Fz L H T (.tup xs) (.ref a) where
  go := fun h hi => by
    unfold Fz at h
    obtain ⟨b, vs, eb, _, e, q⟩ := h
    cases eb
    obtain ⟨d, hd⟩ : ∃ d, xs[_]? = some d := ⟨_, List.getElem?_eq_getElem hi⟩
    obtain ⟨v, e1, _⟩ := q.get hd
    exact ⟨vs, v, .inl (.inl e), e1⟩
  yld := fun h hi y => by
    unfold Fz at h
    obtain ⟨b, vs, eb, _, e, q⟩ := h
    cases eb
    obtain ⟨d, hd⟩ : ∃ d, xs[_]? = some d := ⟨_, List.getElem?_eq_getElem hi⟩
    obtain ⟨v, e1, z⟩ := q.get hd
    have := y.2 vs (.inl (.inl e))
    rw [e1] at this
    cases this
    exact ⟨y.1, d, hd, z⟩
  stop := fun h => by
    unfold Fz at h
    obtain ⟨b, vs, eb, _, e, q⟩ := h
    cases eb
    exact ⟨vs, .inl (.inl e), by rw [q.len]; exact Nat.le_refl _⟩
  step := fun h s => Fz.step s _ _ h
end

/-- nothing may be raised -/
def WF : WX := fun _ _ _ _ => False
section
variable {e : Pm} {X : Cx} {W : WX} {σ : L2.St} {H : Hp} {fe : List Addr} {G : AP} {ρ : List D}
/-- a comprehension's tests -/
def ttOf (e : Pm) (X : Cx) : List IE → TT
  | [] => tYes
  | c :: _ => tT e X WF c
theorem tests_run {ifs : List IE} (hl : ifs.length ≤ 1) {ρ ρb : List D} {b : Bool} {Q : Bool → Hp → Prop} (s : SR (e.L X.K) ρ σ H fe [] G) (hc : evC e.T ifs ρ = .ok ρb (.bl b))
    (k : ∀ H' fe', SR (e.L X.K) ρb σ H' fe' [] G → Stp H fe [] G H' fe' [] → Q b H') : ttOf e X ifs σ H Q := by
  match ifs, hl with
  | [], _ =>
    unfold evC at hc
    cases hc
    exact k H fe s Stp.refl
  | [c], _ =>
    unfold evC at hc
    refine ⟨ρ, fe, G, s, ?_⟩
    cases q : evE e.T c ρ with
    | stuck => rw [q] at hc; cases hc
    | exn x ρ1 => rw [q] at hc; cases hc
    | ok ρ1 d =>
      rw [q] at hc
      intro v H1 fe1 f1 s1 r1 t1
      cases d with
      | bl t =>
        have e1 := r1.bl
        have e2 : f1 = [] := r1.1
        subst e1 e2
        cases t with
        | true =>
          dsimp only at hc
          unfold evC at hc
          cases hc
          exact ⟨true, rfl, k H1 fe1 s1 t1⟩
        | false =>
          cases hc
          exact ⟨false, rfl, k H1 fe1 s1 t1⟩
      | _ => cases hc
theorem wipe_wipe : ∀ (vs us : List Nat) (σ : L2.St), (∀ i ∈ vs, i ∈ us) → wipe (wipe σ vs) us = wipe σ us
  | [], _, _, _ => rfl
  | v :: vs, us, σ, h => by
    show wipe ((wipe σ vs).set v none) us = wipe σ us
    rw [wipe_set us _ (h v List.mem_cons_self), wipe_wipe vs us σ fun i m => h i (List.mem_cons_of_mem _ m)]
theorem Rv_one (D : Addr) : Rv fe [] (fun a => a ∈ [D] ∨ G a) = Rv fe [D] G := by
  have := Rv_hide fe [D] [] G
  rw [List.append_nil] at this
  exact this
theorem SR.upd1 {L : LC} {D : Addr} {o : HO} (s : SR L ρ σ H fe [D] G) : SR L ρ σ (upd H D o) fe [D] G ∧ Stp H fe [D] G (upd H D o) fe [D] := by
  have inT : Rv fe [D] G D := .inr (.inl (List.mem_singleton.mpr rfl))
  have fr : Frz H (Rv fe [D] G) (upd H D o) (Rv fe [D] G) := fun a w n q => ⟨by rw [upd_ne (fun z => n (by rw [z]; exact inT))]; exact q, n⟩
  have nfe : ∀ a ∈ fe, a ≠ D := fun a m z => (List.nodup_append.mp s.nd).2.2 a m D (List.mem_singleton.mpr rfl) z
  refine ⟨⟨s.env.step fr fun a w m q => by rw [upd_ne (nfe a m)]; exact q, s.nd, s.dj, fun a m => ?_⟩, fr, fun a w g q => ?_⟩
  · by_cases z : a = D
    · rw [z, upd_same]; exact fun z => nomatch z
    · rw [upd_ne z]; exact s.dm a m
  · rw [upd_ne (fun z => s.dj D (.inr (List.mem_singleton.mpr rfl)) (by rw [← z]; exact g))]; exact q
theorem lc_it {J : It} {n : Nat} {g : TG} {tt : TT} {te : TE} {vs : List Nat} {σ : L2.St} {H1 : Hp} {D : Addr} {Qd : Hp → Prop} (Pv : Nat → Hp → Prop) (h0 : Pv 0 (upd H1 D (.lst []))) (hgo : ∀ i H, i < n → Pv i H → J.go i H)
    (hs : ∀ i x H H', i < n → Pv i H → J.yld i H x H' → g x (wipe σ vs) H' fun σ2 H2 => wipe σ2 vs = wipe σ vs ∧ tt σ2 H2 fun b H3 =>
      if b = true then te σ2 H3 fun y H4 => ∃ acc, H4 D = some (.lst acc) ∧ acc.length < sizeLine ∧ Pv (i + 1) (upd H4 D (.lst (acc ++ [y]))) else Pv (i + 1) H3) (hd : ∀ H, Pv n H → J.stop n H ∧ Qd H) :
    ∃ W : Nat → Nat → Hp → Prop, (∃ m, W 0 m (upd H1 D (.lst []))) ∧ ∀ i m H, W i m H →
      (J.stop i H ∧ Qd H) ∨ (J.go i H ∧ ∃ Nx : Hp → Prop, (∀ H', Nx H' → ∃ m', m' < m ∧ W (i + 1) m' H') ∧ ∀ x H', J.yld i H x H' → g x (wipe σ vs) H' fun σ2 H2 => wipe σ2 vs = wipe σ vs ∧ tt σ2 H2 fun b H3 =>
        if b = true then te σ2 H3 fun y H4 => ∃ acc, H4 D = some (.lst acc) ∧ acc.length < sizeLine ∧ Nx (upd H4 D (.lst (acc ++ [y]))) else Nx H3) := by
  refine ⟨fun i m H => m = n - i ∧ i ≤ n ∧ Pv i H, ⟨n, by simp, Nat.zero_le _, h0⟩, ?_⟩
  rintro i m H ⟨rfl, hi, p⟩
  by_cases hlt : i < n
  · exact .inr ⟨hgo i H hlt p, Pv (i + 1), fun H' p' => ⟨n - (i + 1), by omega, rfl, hlt, p'⟩, fun x H' y => hs i x H H' hlt p y⟩
  · have e : i = n := by omega
    subst e
    exact .inl (hd H p)

/-- the block by the interpreter -/
theorem comp_run {g : Tg} {elt : IE} {ifs : List IE} {xs : List D} {J : It} {P : Hp → AP → Prop} {H1 : Hp} {fe1 : List Addr} {ρ1 : List D} {Q : VK} (hl : ifs.length ≤ 1) (nd : (slotsOf g).Nodup) (hn : lenOk xs.length = true) (hp : plainSlots (slotsOf g) ρ1 = true)
    (it : ItOk (e.L X.K) J xs P) (s1 : SR (e.L X.K) ρ1 σ H1 fe1 [] G) (t1 : Stp H fe [] G H1 fe1 []) (hP : P H1 (Rv fe1 [] G))
    (h : EndE e X W σ H fe G (match compL g (fun ρ => evC e.T ifs ρ) (fun ρ => evE e.T elt ρ) xs ρ1 [] with
        | .ok ρ2 ds => .ok (backD ρ1 (wipeD ρ2 (slotsOf g)) (slotsOf g)) (.lst .own ds)
        | _ => .stuck) Q) : ∀ D, H1 D = none → ∃ W : Nat → Nat → Hp → Prop, (∃ m, W 0 m (upd H1 D (.lst []))) ∧ ∀ i m H, W i m H →
      (J.stop i H ∧ Q (.ref D) H) ∨ (J.go i H ∧ ∃ Nx : Hp → Prop, (∀ H', Nx H' → ∃ m', m' < m ∧ W (i + 1) m' H') ∧ ∀ x H', J.yld i H x H' → gOf X.K g x (wipe σ (slotsOf g)) H' fun σ2 H2 => wipe σ2 (slotsOf g) = wipe σ (slotsOf g) ∧ ttOf e X ifs σ2 H2 fun b H3 =>
        if b = true then tE e X WF elt σ2 H3 fun y H4 => ∃ acc, H4 D = some (.lst acc) ∧ acc.length < sizeLine ∧ Nx (upd H4 D (.lst (acc ++ [y]))) else Nx H3) := by
  intro D hD
  generalize hvs : slotsOf g = vs at *
  generalize hR : compL g (fun ρ => evC e.T ifs ρ) (fun ρ => evE e.T elt ρ) xs ρ1 [] = R at h
  obtain ⟨ρ2, ds, hok⟩ : ∃ ρ2 ds, R = .ok ρ2 ds := by
    cases R with
    | ok a b => exact ⟨a, b, rfl⟩
    | exn _ _ => exact h.elim
    | stuck => exact h.elim
  subst hok
  refine lc_it (fun i H => ∃ ρi fei acc av, SR (e.L X.K) (wipeD ρi vs) (wipe σ vs) H fei [D] G ∧ Stp H1 fe1 [] G H fei [D] ∧ H D = some (.lst av) ∧ Fzs (e.L X.K) H (Rv fei [D] G) acc av ∧ acc.length ≤ i ∧ i ≤ xs.length ∧
    compL g (fun ρ => evC e.T ifs ρ) (fun ρ => evE e.T elt ρ) (xs.drop i) ρi acc = .ok ρ2 ds) ?_ ?_ ?_ ?_ (n := xs.length)
  · obtain ⟨sD, tD⟩ := s1.alloc (o := .lst []) hD
    obtain ⟨fe2, s2, m2⟩ := sD.wiped vs
    refine ⟨ρ1, fe2, [], [], s2, tD.trans (Stp.less m2), upd_same, Fzs.nil, Nat.zero_le _, Nat.zero_le _, by rw [List.drop_zero]; exact hR⟩
  · rintro i H2 hi ⟨ρi, fei, acc, av, s2, t2, e2, z2, l2, l3, r2⟩
    exact it.go (it.step hP t2.fr) hi
  · rintro i x H2 H2' hi ⟨ρi, fei, acc, av, s2, t2, e2, z2, l2, l3, r2⟩ y
    obtain ⟨rfl, d, hd, zd⟩ := it.yld (it.step hP t2.fr) hi y
    have hdr : xs.drop i = d :: xs.drop (i + 1) := by
      rw [List.drop_eq_getElem_cons hi]
      rw [List.getElem?_eq_getElem hi] at hd
      cases hd
      rfl
    rw [hdr] at r2
    unfold compL at r2
    rw [hvs] at r2
    have sh := s2.hide
    rw [← Rv_one] at zd
    cases hst : store1 g d (wipeD ρi vs) with
    | none => rw [hst] at r2; cases r2
    | some ρa =>
      rw [hst] at r2
      dsimp only at r2
      obtain ⟨σ', fe', sa, ma, wa, ga⟩ := store1_ok sh zd hst
      refine ga _ _ ⟨?_, ?_⟩
      · rw [wa vs (by rw [hvs]; exact fun _ m => m), wipe_wipe vs vs σ fun _ m => m]
      have ww : wipe σ' vs = wipe σ vs := by rw [wa vs (by rw [hvs]; exact fun _ m => m), wipe_wipe vs vs σ fun _ m => m]
      have ta : Stp H2' fei [] (fun a => a ∈ [D] ∨ G a) H2' fe' [] := Stp.less ma
      cases hc : evC e.T ifs ρa with
      | stuck => rw [hc] at r2; cases r2
      | exn _ _ => rw [hc] at r2; cases r2
      | ok ρb db =>
        rw [hc] at r2
        have hb : ∃ b, db = .bl b := by cases db <;> first | exact ⟨_, rfl⟩ | cases r2
        obtain ⟨b, rfl⟩ := hb
        refine tests_run hl sa hc fun H3 fe3 s3 t3 => ?_
        cases b with
        | false =>
          simp only [Bool.false_eq_true, if_false]
          dsimp only at r2
          obtain ⟨fe4, s4, m4⟩ := s3.wiped vs
          rw [ww] at s4
          have s5 := s4.unhide (List.nodup_cons.mpr ⟨by simp, List.nodup_nil⟩) (fun a m => by rw [List.mem_singleton.mp m]; exact fun q => s2.dj D (.inr (List.mem_singleton.mpr rfl)) q)
          have t5 := Stp.hide ((ta.trans t3).trans (Stp.less m4))
          rw [List.append_nil] at s5 t5
          exact ⟨ρb, fe4, acc, av, s5, t2.trans t5, ((ta.trans t3).kg D _ (.inl (List.mem_singleton.mpr rfl)) e2), Fzs.step t5.fr _ _ z2, Nat.le_succ_of_le l2, hi, r2⟩
        | true =>
          simp only [if_true]
          dsimp only at r2
          refine ⟨ρb, fe3, _, s3, ?_⟩
          cases he : evE e.T elt ρb with
          | stuck => rw [he] at r2; cases r2
          | exn _ _ => rw [he] at r2; cases r2
          | ok ρc dy =>
            rw [he] at r2
            dsimp only at r2
            split at r2
            · cases r2
            intro y H4 fe4 f4 s4 r4 t4
            obtain ⟨s4', t4', z4⟩ := s4.shed r4
            obtain ⟨fe5, s5, m5⟩ := s4'.wiped vs
            rw [ww] at s5
            have s6 := s5.unhide (List.nodup_cons.mpr ⟨by simp, List.nodup_nil⟩) (fun a m => by rw [List.mem_singleton.mp m]; exact fun q => s2.dj D (.inr (List.mem_singleton.mpr rfl)) q)
            have tt := (ta.trans t3).trans ((t4.trans t4').trans (Stp.less m5))
            have t6 := Stp.hide tt
            rw [List.append_nil] at s6 t6
            have eD := tt.kg D _ (.inl (List.mem_singleton.mpr rfl)) e2
            obtain ⟨s7, t7⟩ := s6.upd1 (o := .lst (av ++ [y]))
            have lav : av.length < sizeLine := by
              rw [z2.len]
              have := big_line hn
              omega
            refine ⟨av, eD, lav, ρc, fe5, acc ++ [frz dy], av ++ [y], s7, (t2.trans t6).trans t7, upd_same, ?_, by rw [List.length_append]; exact Nat.succ_le_succ l2, hi, r2⟩
            refine Fzs.step t7.fr _ _ (Fzs.append (Fzs.step t6.fr _ _ z2) (Fzs.one ?_))
            refine z4.step (Frz.sub fun a q => ?_)
            rcases q with q | q | q
            · exact .inl (m5 a q)
            · exact .inr (.inr (.inl q))
            · exact .inr (.inr (.inr q))
  · rintro H2 ⟨ρi, fei, acc, av, s2, t2, e2, z2, l2, l3, r2⟩
    refine ⟨it.stop (it.step hP t2.fr), ?_⟩
    rw [List.drop_length] at r2
    unfold compL at r2
    cases r2
    obtain ⟨fe3, s3, m3⟩ := SR.restored (old := ρ1) (σt := σ) vs (wipeD ρ2 vs) (wipe σ vs) fei nd s2 (by rw [wipe_length]) (fun j hj => wipe_out hj) (fun i m => by
      obtain ⟨d, hd, pd⟩ := plain_get hp m
      obtain ⟨o, l, f1, r, e1, _, q, _⟩ := s1.env.focus hd
      refine ⟨o, e1, fun T hT => ?_⟩
      have ef : f1 = [] := by
        cases d with
        | und => exact q
        | _ => obtain ⟨v, _, q⟩ := q; exact (q.fz_of pd).1
      subst ef
      have hg : ρ1.getD i .und = d := by rw [List.getD_eq_getElem?_getD, hd]; rfl
      rw [hg]
      exact q.step (t2.fr.trans (Frz.sub hT)) fun _ _ m _ => nomatch m)
    refine h (.ref D) H2 fe3 [D] s3 ⟨D, av, rfl, rfl, e2, ?_⟩ ((t1.trans t2).trans (Stp.less m3))
    exact Fzs.step (Frz.sub fun a q => q.elim (fun q => .inl (m3 a q)) .inr) _ _ z2
end
end TL

namespace TL
open PySem PySem.Spec PyProof.Rows L2

/-! ### what else is walked -/
section
variable {L : LC} {K : PySem.W.Frag}
theorem keyD_fz {H : Hp} {T : AP} : ∀ k : Key, Fz L H T (keyD k) (kV k)
  | .inl i => fz_int
  | .inr x => fz_str
theorem it_keys {d : Addr} {o : Obj} {kws : List (Key × V)} {kvs : List (Key × TL.D)} (hk : kws.map (·.1) = kvs.map (·.1)) : ItOk L (Itk d o kws) (kvs.map fun p => keyD p.1) fun H T => H d = some (.frz o (.dK kws)) ∧ ¬ T d where
  go := fun h hi => by
    rw [List.length_map] at hi
    have := congrArg List.length hk
    rw [List.length_map, List.length_map] at this
    exact ⟨h.1, by omega⟩
  yld := fun {i H T x H'} h hi y => by
    obtain ⟨e0, k, v, e1, e2⟩ := y
    refine ⟨e0, keyD k, ?_, by rw [e2]; exact keyD_fz k⟩
    have e3 : (kws.map (·.1))[i]? = some k := by rw [List.getElem?_map, e1]; rfl
    rw [hk, List.getElem?_map] at e3
    rw [List.getElem?_map]
    cases q : kvs[i]? with
    | none => rw [q] at e3; cases e3
    | some p =>
      rw [q] at e3
      have e4 : p.1 = k := Option.some.inj e3
      rw [← e4]
      rfl
  stop := fun h => by
    have := congrArg List.length hk
    rw [List.length_map, List.length_map] at this
    exact ⟨h.1, by rw [List.length_map]; omega⟩
  step := fun h s => s d _ h.2 h.1
theorem it_str {z : Str} : ItOk L (Its z) (z.cps.toList.map fun c => D.str ⟨#[c]⟩) fun _ _ => True where
  go := fun _ hi => by
    rw [List.length_map] at hi
    show _ < z.cps.size
    simpa using hi
  yld := fun {i H T x H'} _ hi y => by
    obtain ⟨e0, c, e1, e2⟩ := y
    refine ⟨e0, .str ⟨#[c]⟩, ?_, by rw [e2]; exact fz_str⟩
    rw [List.getElem?_map, Array.getElem?_toList, e1]
    rfl
  stop := fun _ => by
    rw [List.length_map]
    show z.cps.size ≤ z.cps.toList.length
    simp
  step := fun _ _ => trivial
theorem it_rev {a : Addr} {w : TL.W} {xs : List D} : ItOk L (Itv L.K a xs.length) xs.reverse fun H T => Fz L H T (.lst w xs) (.ref a) where
  go := fun {i H T} h hi => by
    rw [List.length_reverse] at hi
    unfold Fz at h
    obtain ⟨_, b, vs, eb, _, _, e, q⟩ := h
    cases eb
    obtain ⟨d, hd⟩ : ∃ d, xs[xs.length - 1 - i]? = some d := ⟨_, List.getElem?_eq_getElem (by omega)⟩
    obtain ⟨v, e1, _⟩ := q.get hd
    exact ⟨hi, vs, v, e, e1⟩
  yld := fun {i H T x H'} h hi y => by
    rw [List.length_reverse] at hi
    unfold Fz at h
    obtain ⟨_, b, vs, eb, _, _, e, q⟩ := h
    cases eb
    obtain ⟨d, hd⟩ : ∃ d, xs[xs.length - 1 - i]? = some d := ⟨_, List.getElem?_eq_getElem (by omega)⟩
    obtain ⟨v, e1, z⟩ := q.get hd
    have := y.2 vs e
    rw [e1] at this
    cases this
    exact ⟨y.1, d, by rw [List.getElem?_reverse hi]; exact hd, z⟩
  stop := fun h => by rw [List.length_reverse]; exact Nat.le_refl _
  step := fun h s => Fz.step s _ _ h
end

/-! ### what has a name -/
structure PathR (e : Pm) (X : Cx) (ie : IE) (t : TE) : Prop where
  rd : ∀ {σ : L2.St} {H : Hp} {fe : List Addr} {G : AP} {ρ ρ1 : List TL.D} {d : TL.D} {kvs : List (Key × TL.D)}, SR (e.L X.K) ρ σ H fe [] G → evE e.T ie ρ = .ok ρ1 d → frz d = .dct .fz kvs →
    ∃ p fe1, SR (e.L X.K) ρ1 σ H fe1 [] G ∧ Stp H fe [] G H fe1 [] ∧ Fz (e.L X.K) H (Rv fe1 [] G) (.dct .fz kvs) (.ref p) ∧ ∀ (H' : Hp) (Q : VK), Lks H H' → Q (.ref p) H' → t σ H' Q
section
variable {e : Pm} {X : Cx} {W : WX} {c : CK} {lv : Nat} {σ : L2.St} {H : Hp} {fe : List Addr} {G : AP} {ρ : List D} {it tg : Expr} {ie : IE}
theorem path_var {i : Nat} : PathR e X (.var i) (tVar i) := ⟨fun {σ H fe G ρ ρ1 d kvs} s h hd => by
  unfold evE at h
  cases q : ρ[i]? with
  | none => rw [q] at h; cases h
  | some d0 =>
    rw [q] at h
    dsimp only at h
    split at h
    · cases h
    rename_i nl
    have nl : isLck d0 = false := by simpa using nl
    obtain ⟨v, fe1, e1, s1, t1, z1, m1⟩ := s.give q nl
    have key : ρ1 = ρ.set i (frz d0) ∧ d = frz d0 ∨ (ρ1 = ρ ∧ d = d0 ∧ isOwn d0 = false) := by
      split at h
      · cases h; exact .inl ⟨rfl, rfl⟩
      · rename_i no; cases h; exact .inr ⟨rfl, rfl, by simpa using no⟩
    have hz : frz d0 = .dct .fz kvs := by
      rcases key with ⟨_, rfl⟩ | ⟨_, rfl, _⟩
      · rw [frz_frz] at hd; exact hd
      · exact hd
    rw [hz] at z1
    obtain ⟨p, rfl⟩ : ∃ p, v = .ref p := by
      unfold Fz at z1
      obtain ⟨_, p, _, ev, _⟩ := z1
      exact ⟨p, ev⟩
    rcases key with ⟨rfl, _⟩ | ⟨rfl, rfl, no⟩
    · exact ⟨p, fe1, s1, t1, z1, fun H' Q _ q => ⟨_, e1, q⟩⟩
    · obtain ⟨v2, f2, e2, r2, _⟩ := s.get q nl
      rw [e1] at e2
      cases e2
      have z2 := (r2.fz_of no).2
      have e3 : frz d = d := frz_fz _ _ z2
      rw [← e3, hz] at z2
      exact ⟨p, fe, s, Stp.refl, z2, fun H' Q _ q => ⟨_, e1, q⟩⟩⟩
theorem path_fld {c f i : Nat} (hi : ∀ m n, e.nm.fd m = e.nm.fd n → m = n) (hc : Cls X.K (e.ca c)) (hn : NoAttr X.K (e.ca c) (e.nm.fd f)) : PathR e X (.fld c (.var i) f) (tFld X.K (tVar i) (e.nm.fd f)) := ⟨fun {σ H fe G ρ ρ1 d kvs} s h hd => by
  unfold evE at h
  split at h
  · rename_i w c' fs hd0
    split at h
    · rename_i hcc
      subst hcc
      split at h
      · rename_i d' hl
        split at h
        · cases h
        cases h
        rename_i ho
        obtain ⟨v, f1, e1, r1, _⟩ := s.get hd0 rfl
        obtain ⟨p, dx, ws, rfl, e2, q⟩ := r1.objAt
        obtain ⟨v, e3, z⟩ := fzF_get hi q hl
        have e4 : frz d = d := frz_fz _ _ z
        rw [← e4, hd] at z
        obtain ⟨p2, rfl⟩ : ∃ p, v = .ref p := by
          have z' := z
          unfold Fz at z'
          obtain ⟨_, p, _, ev, _⟩ := z'
          exact ⟨p, ev⟩
        exact ⟨p2, fe, s, Stp.refl, z, fun H' Q l q => ⟨_, e1, p, _, dx, ws, _, rfl, l.ins e2, hc, hn, e3, q⟩⟩
      · cases h
    · cases h
  · cases h⟩

/-- a list or a tuple for a loop -/
def iSeq (K : PySem.W.Frag) (tl : TE) : TI := fun σ H R => tl σ H fun x H1 => ∃ a, x = .ref a ∧ (((∃ xs, SqL K H1 a xs) ∧ R (Itl K a) H1) ∨ ((∃ xs, SqT K H1 a xs) ∧ R (Itt K a) H1))
theorem pi_seq {tg l : Expr} {tl : TE} (hl : PE X l tl) : PI X tg l (iSeq X.K tl) := by
  refine ⟨fun pins s σ H R I h => ?_⟩
  refine thn (hl.run pins s σ H _ I h) fun v s1 ⟨x, H1, I1, r1, a, ex, q1⟩ => ?_
  subst ex
  obtain rfl : v = Value.ref a := r1
  rcases q1 with ⟨⟨xs, hq⟩, q⟩ | ⟨⟨xs, hq⟩, q⟩
  · obtain ⟨its, rv, p, hz⟩ := I1.list hq
    refine wpAny_pyIter_list p.isList ?_
    refine ⟨s1.heap.objs.size, [s1.heap.objs.size], _, _, H1, rfl, I1.kept (t' := s1.toks) fun b o e => Heap.get?_push_of_some _ e, turn_list a _, ⟨_, Heap.get?_push_size _ rfl, rfl, rfl⟩, fun b hb => ?_, q⟩
    obtain rfl : b = s1.heap.objs.size := by simpa using hb
    exact I1.fpOk (Nat.le_refl _) (I1.hok.fresh (Nat.le_refl _))
  · obtain ⟨its, rv, p, hz⟩ := I1.tuple hq
    refine wpAny_pyIter_tuple (show s1.heap.IsTuple a its.toArray from p) ?_
    refine ⟨s1.heap.objs.size, [s1.heap.objs.size], _, _, H1, rfl, I1.kept (t' := s1.toks) fun b o e => Heap.get?_push_of_some _ e, turn_tuple a _, ⟨_, Heap.get?_push_size _ rfl, rfl, rfl⟩, fun b hb => ?_, q⟩
    obtain rfl : b = s1.heap.objs.size := by simpa using hb
    exact I1.fpOk (Nat.le_refl _) (I1.hok.fresh (Nat.le_refl _))
/-! ### a walk at a state -/
/-- without a lock -/
def WkN (e : Pm) (X : Cx) (tg it : Expr) (σ : L2.St) (H : Hp) (fe : List Addr) (G : AP) (ρ1 : List D) (xs : List D) : Prop :=
  ∃ w, PI X tg it w ∧ ∀ R : It → Hp → Prop, (∀ J P H1 fe1, ItOk (e.L X.K) J xs P → SR (e.L X.K) ρ1 σ H1 fe1 [] G → P H1 (Rv fe1 [] G) → Stp H fe [] G H1 fe1 [] → R J H1) → w σ H R
/-- under a lock -/
def WkL (e : Pm) (X : Cx) (tg it : Expr) (σ : L2.St) (H : Hp) (fe : List Addr) (G : AP) (ρ1 : List D) (xs : List D) : Prop :=
  ∃ p u fe1, H p = some u ∧ isDO u ∧ ¬ Rv fe1 [] G p ∧ SR (e.L X.K) ρ1 σ H fe1 [] G ∧ Stp H fe [] G H fe1 [] ∧ ∃ w, PI X tg it w ∧ ∀ od, ∃ J P, ItOk (e.L X.K) J xs P ∧ P (upd H p (.frz od u)) (Rv fe1 [] G) ∧
    ∀ R : It → Hp → Prop, R J (upd H p (.frz od u)) → w σ (upd H p (.frz od u)) R
theorem walk_at {d : D} {xs ρ1 : List D} (hv : PE X it (tE e X W ie)) (hp : isPath ie = true → ∃ t, PE X it t ∧ PathR e X ie t) (s : SR (e.L X.K) ρ σ H fe [] G) (hE : evE e.T ie ρ = .ok ρ1 d) (hx : items2 ie (frz d) = some xs) :
    WkN e X tg it σ H fe G ρ1 xs ∨ WkL e X tg it σ H fe G ρ1 xs := by
  cases hf : frz d with
  | dct w kvs =>
    rw [hf] at hx
    cases w with
    | fz =>
      unfold items2 at hx
      dsimp only at hx
      split at hx
      · rename_i hpa
        cases hx
        obtain ⟨t, ht, P⟩ := hp hpa
        obtain ⟨p, fe1, s1, t1, z1, k⟩ := P.rd s hE hf
        have z2 := z1
        unfold Fz at z2
        obtain ⟨_, p', kws, ep, np, rd, zk⟩ := z2
        cases ep
        rcases rd with rd | ⟨od, rd⟩
        · refine .inr ⟨p, .dK kws, fe1, rd, trivial, np, s1, t1, _, pi_keys ht, fun od => ⟨Itk p od kws, _, it_keys zk.keys, ⟨upd_same, np⟩, fun R r => ?_⟩⟩
          exact k _ _ (lks_lock rd trivial) ⟨p, od, rfl, .inl ⟨kws, upd_same, r⟩⟩
        · refine .inl ⟨_, pi_keys ht, fun R r => ?_⟩
          exact k _ _ (fun a o q => .inl q) ⟨p, od, rfl, .inl ⟨kws, rd, r _ _ H fe1 (it_keys zk.keys) s1 ⟨rd, np⟩ t1⟩⟩
      · cases hx
    | own => cases hx
    | scr => cases hx
  | str z =>
    rw [hf] at hx
    have hx : some (z.cps.toList.map fun c => D.str ⟨#[c]⟩) = some xs := hx
    cases hx
    refine .inl ⟨_, pi_str hv, fun R r => ?_⟩
    refine ⟨ρ, fe, G, s, ?_⟩
    rw [hE]
    intro v H1 fe1 f1 s1 r1 t1
    obtain ⟨s1', t1', z1⟩ := s1.shed r1
    rw [hf] at z1
    unfold Fz at z1
    exact ⟨z, z1, r _ _ H1 fe1 it_str s1' trivial (t1.trans t1')⟩
  | lst w ys =>
    rw [hf] at hx
    have hxy : ys = xs := by cases w <;> first | exact Option.some.inj hx | cases hx
    subst hxy
    refine .inl ⟨_, pi_seq hv, fun R r => ?_⟩
    refine ⟨ρ, fe, G, s, ?_⟩
    rw [hE]
    intro v H1 fe1 f1 s1 r1 t1
    obtain ⟨s1', t1', z1⟩ := s1.shed r1
    rw [hf] at z1
    have hz := z1
    unfold Fz at hz
    obtain ⟨_, p, vs, rfl, _, _, e2, _⟩ := hz
    exact ⟨p, rfl, .inl ⟨⟨vs, e2⟩, r _ _ H1 fe1 it_list s1' z1 (t1.trans t1')⟩⟩
  | tup ys =>
    rw [hf] at hx
    have hxy : ys = xs := Option.some.inj hx
    subst hxy
    refine .inl ⟨_, pi_seq hv, fun R r => ?_⟩
    refine ⟨ρ, fe, G, s, ?_⟩
    rw [hE]
    intro v H1 fe1 f1 s1 r1 t1
    obtain ⟨s1', t1', z1⟩ := s1.shed r1
    rw [hf] at z1
    have hz := z1
    unfold Fz at hz
    obtain ⟨p, vs, rfl, _, e2, _⟩ := hz
    exact ⟨p, rfl, .inr ⟨⟨vs, .inl (.inl e2)⟩, r _ _ H1 fe1 it_tup s1' z1 (t1.trans t1')⟩⟩
  | und => rw [hf] at hx; cases hx
  | non => rw [hf] at hx; cases hx
  | bl _ => rw [hf] at hx; cases hx
  | int _ => rw [hf] at hx; cases hx
  | dtt _ _ => rw [hf] at hx; cases hx
  | obj _ _ _ => rw [hf] at hx; cases hx
  | dls _ => rw [hf] at hx; cases hx
  | obn _ _ => rw [hf] at hx; cases hx
/-- reversed(..) of a list -/
theorem walk_rev {d : D} {xs ρ1 : List D} {p pos : Pos} (hv : PE X it (tE e X W ie)) (hg : Gl X "reversed") (hm : X.mg "reversed" = none) (ns : noStar it = true) (s : SR (e.L X.K) ρ σ H fe [] G) (hE : evE e.T ie ρ = .ok ρ1 d) (hx : itemsR (frz d) = some xs) :
    WkN e X tg (.Call (.Name "reversed" p) [it] [] pos) σ H fe G ρ1 xs := by
  refine ⟨_, RT.pi_revA hg hm hv (starEach_of ns), fun R r => ?_⟩
  refine ⟨ρ, fe, G, s, ?_⟩
  rw [hE]
  intro v H1 fe1 f1 s1 r1 t1
  obtain ⟨s1', t1', z1⟩ := s1.shed r1
  cases hf : frz d with
  | lst w ys =>
    rw [hf] at hx z1
    have hxy : ys.reverse = xs := by cases w <;> first | exact Option.some.inj hx | cases hx
    subst hxy
    have hz := z1
    unfold Fz at hz
    obtain ⟨_, p, vs, rfl, _, _, e2, zz⟩ := hz
    refine ⟨p, vs, rfl, .inl ⟨e2, ?_⟩⟩
    rw [zz.len]
    exact r _ _ H1 fe1 it_rev s1' z1 (t1.trans t1')
  | _ => rw [hf] at hx; cases hx
end
section
variable {e : Pm} {X : Cx} {W W' : WX} {σ : L2.St} {H : Hp} {fe fe1 : List Addr} {G : AP} {ρ : List D}
theorem Rep.unlock {L : LC} {H' : Hp} {fe' f' : List Addr} {d : Addr} {u : HO} {od : Obj} {dd : TL.D} {v : V} (r : Rep L H' (Rv fe' f' G) dd v f') (e1 : H' d = some (.frz od u)) (du : isDO u) (n : ¬ Rv fe' f' G d) : Rep L (upd H' d u) (Rv fe' f' G) dd v f' :=
  Rep.lks (lks_unlock e1 du) (fun a o q z => by
    rw [upd_ne]
    · exact z
    · rintro rfl
      exact n q) (fun a m => .inr (.inl m)) r
theorem EndE.lock {d : Addr} {u : HO} {od : Obj} {ρ' : List D} {dd : TL.D} {Q : VK} (n : ¬ Rv fe1 [] G d) (hd : H d = some u) (du : isDO u) (t0 : Stp H fe [] G H fe1 []) (h : EndE e X W σ H fe G (.ok ρ' dd) Q) :
    EndE e X W' σ (upd H d (.frz od u)) fe1 G (.ok ρ' dd) (fun v H' => H' d = some (.frz od u) ∧ Q v (upd H' d u)) := by
  intro v H' fe' f' s' r' t'
  obtain ⟨e1, n1⟩ := t'.locked n
  exact ⟨e1, h v (upd H' d u) fe' f' (s'.relock (lks_unlock e1 du) n1) (r'.unlock e1 du n1) (t0.trans (t'.unlock hd n))⟩
theorem mut_of {u : HO} (du : isDO u) : Mut (some u) := by
  cases u <;> first | exact du.elim | trivial
end
/-! ### a lock that an error opens -/
def lockD (D : Ends) (d : Addr) (od : Obj) (u : HO) : Ends := ⟨fun σ' H' => H' d = some (.frz od u) ∧ D.nx σ' (upd H' d u), fun v H' => H' d = some (.frz od u) ∧ D.rt v (upd H' d u), fun σ' H' => H' d = some (.frz od u) ∧ D.bk σ' (upd H' d u), fun σ' H' => H' d = some (.frz od u) ∧ D.ct σ' (upd H' d u)⟩
def lockW (X : Cx) (W : WX) (d : Addr) (od : Obj) (u : HO) : WX := fun c dd σ' H' => (∀ o' u', X.H_0 d ≠ some (.frz o' u')) ∧ H' d = some (.frz od u) ∧ W c dd σ' (upd H' d u)
theorem takes_lock {X : Cx} {W : WX} {d : Addr} {od : Obj} {u : HO} (tk : Takes X W) : Takes X (lockW X W d od u) := fun u' s' ⟨a, B, sI, pins, σ, H, cls, dd, e, I, nb, up, sky, na, os, ag, w⟩ =>
  tk u' s' ⟨a, B, sI, pins, σ, upd H d u, cls, dd, e, I.unlock w.2.1 w.1, nb, up, sky, by
    rw [upd_ne (fun z => by rw [z, w.2.1] at na; cases na)]
    exact na, os, ag, w.2.2⟩
theorem ps_lockX {X : Cx} {W : WX} {st : Stmt} {tb : WX → TS} (tk : Takes X W) (h : ∀ W', Takes X W' → PS X st (tb W')) :
    PS X st (fun D σ H => ∃ d u, H d = some u ∧ Mut (some u) ∧ ∀ od, (∀ o' u', X.H_0 d ≠ some (.frz o' u')) → tb (lockW X W d od u) (lockD D d od u) σ (upd H d (.frz od u))) := by
  refine ⟨fun pins s σ H D I hw => ?_⟩
  obtain ⟨d, u, hd, mu, hw⟩ := hw
  obtain ⟨od, I1⟩ := I.lock hd mu
  have nf := I.nofrz hd mu
  refine thn ((h _ (takes_lock tk)).run pins s σ _ _ I1 (hw od nf)) fun f s1 q => ?_
  cases f with
  | next => obtain ⟨σ', H', I2, e, q⟩ := q; exact ⟨σ', _, I2.unlock e nf, q⟩
  | brk => obtain ⟨σ', H', I2, e, q⟩ := q; exact ⟨σ', _, I2.unlock e nf, q⟩
  | cont => obtain ⟨σ', H', I2, e, q⟩ := q; exact ⟨σ', _, I2.unlock e nf, q⟩
  | ret v => obtain ⟨x, σ', H', I2, r, e, q⟩ := q; exact ⟨x, σ', _, I2.unlock e nf, r, q⟩
end TL

namespace TL
open PySem PySem.Spec PyProof.Rows L2

section
variable {e : Pm} {X : Cx} {W : WX} {c : CK} {lv : Nat} {σ : L2.St} {H : Hp} {fe : List Addr} {G : AP} {ρ : List D} {ea eb : Expr} {es : List IE} {a b elt : IE} {ifs : List IE}

theorem rng_int : ∀ {ds : List D} {lo : Int} {n : Nat}, rng ds = some (lo, n) → (∃ j, ds = [.int j] ∧ -(2 ^ 62) ≤ j ∧ j < 2 ^ 62 ∧ lo = 0 ∧ n = j.toNat) ∨ (∃ i j, ds = [.int i, .int j] ∧ (-(2 ^ 62) ≤ i ∧ i < 2 ^ 62 ∧ -(2 ^ 62) ≤ j ∧ j < 2 ^ 62) ∧ lo = i ∧ n = (j - i).toNat) := by
  intro ds lo n h
  unfold rng at h
  split at h
  · rename_i j
    split at h
    · rename_i q
      cases h
      exact .inl ⟨j, rfl, q.1, q.2, rfl, rfl⟩
    · cases h
  · rename_i i j
    split at h
    · rename_i q
      cases h
      exact .inr ⟨_, _, rfl, q, rfl, rfl⟩
    · cases h
  · cases h
/-- a range's operands, of one or two -/
theorem rng_args {H' : Hp} {fe' f' : List Addr} {ρ' : List D} {ds : List D} {vs : List V} {lo : Int} {n : Nat} (s : SR (e.L X.K) ρ' σ H' fe' f' G) (r : ArgR (e.L X.K) H' (Rv fe' f' G) σ es ds vs f') (h : rng (lentB es ds ρ') = some (lo, n)) :
    (es.length = 1 ∧ ∃ j, vs = [.int j] ∧ -(2 ^ 62) ≤ j ∧ j < 2 ^ 62 ∧ lo = 0 ∧ n = j.toNat) ∨ (es.length = 2 ∧ ∃ i j, vs = [.int i, .int j] ∧ (-(2 ^ 62) ≤ i ∧ i < 2 ^ 62 ∧ -(2 ^ 62) ≤ j ∧ j < 2 ^ 62) ∧ lo = i ∧ n = (j - i).toNat) := by
  have hl := lentB_len (ρ := ρ') r
  rcases rng_int h with ⟨j, e1, q⟩ | ⟨i, j, e1, q⟩
  · have rd := rdL_of s r (by rw [e1]; rfl)
    rw [e1] at rd hl
    obtain ⟨x, f, rfl, rx⟩ := rd1 rd
    rw [rx.int]
    exact .inl ⟨hl.symm, j, rfl, q⟩
  · have rd := rdL_of s r (by rw [e1]; rfl)
    rw [e1] at rd hl
    obtain ⟨x, y, f, g, rfl, rx, ry⟩ := rd2 rd
    rw [rx.int, ry.int]
    exact .inr ⟨hl.symm, i, j, rfl, q⟩
/-- a range for a loop -/
def iRngL (t : TA) : TI := fun σ H R => t σ H fun vs H1 => ∃ (lo : Int) (n : Nat), ((∃ j : Int, vs = [.int j] ∧ -(2 ^ 62) ≤ j ∧ j < 2 ^ 62 ∧ lo = 0 ∧ n = j.toNat) ∨ (∃ i j : Int, vs = [.int i, .int j] ∧ (-(2 ^ 62) ≤ i ∧ i < 2 ^ 62 ∧ -(2 ^ 62) ≤ j ∧ j < 2 ^ 62) ∧ lo = i ∧ n = (j - i).toNat)) ∧ R (Itr lo n) H1
theorem cRng_says {i : Nat} {Q : VK} (hl : ifs.length ≤ 1) (h : tE e X W (.cRng elt i es ifs) σ H Q) : tLc (iRngL (tAs e X W es)) (gOf X.K (.one i)) (ttOf e X ifs) (tE e X WF elt) [i] σ H Q := by
  obtain ⟨ρ, fe, G, s, h⟩ := h
  unfold evE at h
  refine evB_ok es ρ H fe G _ s ?_
  cases q : evB e.T es ρ with
  | stuck => rw [q] at h; exact h
  | exn x ρ1 => rw [q] at h; exact h
  | ok ρ1 ds =>
    rw [q] at h
    intro vs H1 fe1 f1 s1 r1 t1
    dsimp only at h
    cases hr : rng (lentB es ds ρ1) with
    | none => rw [hr] at h; exact h.elim
    | some p =>
      obtain ⟨lo, n⟩ := p
      rw [hr] at h
      dsimp only at h
      split at h
      · rename_i hc
        rw [Bool.and_eq_true] at hc
        refine ⟨lo, n, (rng_args s1 r1 hr).elim (fun z => .inl z.2) (fun z => .inr z.2), ?_⟩
        have s1' := s1.drop (f' := []) (fun _ m => nomatch m) List.nodup_nil
        have t1' := t1.trans (Stp.drop (f' := []) (fun _ m => nomatch m))
        exact comp_run (g := .one i) (P := fun _ _ => True) hl (List.nodup_cons.mpr ⟨by simp, List.nodup_nil⟩) (by rw [rangeD_len]; exact hc.1) hc.2 it_range s1' t1' trivial h
      · exact h.elim
theorem pi_rngL1 {tg : Expr} {p pos : Pos} (hg : Gl X "range") (hm : X.mg "range" = none) (ha : PA X [ea] (tAs e X W [a])) (ns : noStar ea = true) : PI X tg (.Call (.Name "range" p) [ea] [] pos) (iRngL (tAs e X W [a])) := by
  refine ⟨fun pins s σ H R I h => (pi_range1 hg hm ha (starEach_of ns)).run pins s σ H R I ?_⟩
  refine tO_mono h fun x H1 q => ?_
  obtain ⟨lo, n, q, r⟩ := q
  rcases q with ⟨j, ej, q1, q2, rfl, rfl⟩ | ⟨i, j, ej, _⟩
  · exact ⟨j, ej, q1, q2, r⟩
  · cases ej
theorem pi_rngL2 {tg : Expr} {p pos : Pos} (hg : Gl X "range") (hm : X.mg "range" = none) (ha : PA X [ea, eb] (tAs e X W [a, b])) (ns : noStar ea = true) (ns2 : noStar eb = true) : PI X tg (.Call (.Name "range" p) [ea, eb] [] pos) (iRngL (tAs e X W [a, b])) := by
  refine ⟨fun pins s σ H R I h => (pi_range2 hg hm ha (by rw [starEach_of ns, starEach_of ns2]; rfl) (starEach_of ns2)).run pins s σ H R I ?_⟩
  refine tO_mono h fun x H1 q => tO_mono q fun y H2 q => ?_
  obtain ⟨lo, n, q, r⟩ := q
  rcases q with ⟨j, ej, _⟩ | ⟨i, j, ej, q1, rfl, rfl⟩
  · cases ej
  · exact ⟨lo, j, ej, q1, r⟩
/-- a comprehension at a state -/
theorem comp_at {g : Tg} {tg it : Expr} {xs ρ1 : List D} {Q : VK} (hl : ifs.length ≤ 1) (nd : (slotsOf g).Nodup) (wk : WkN e X tg it σ H fe G ρ1 xs ∨ WkL e X tg it σ H fe G ρ1 xs) (hc1 : lenOk xs.length = true) (hc2 : plainSlots (slotsOf g) ρ1 = true)
    (h : EndE e X W σ H fe G (match compL g (fun ρ => evC e.T ifs ρ) (fun ρ => evE e.T elt ρ) xs ρ1 [] with
        | .ok ρ2 ds => .ok (backD ρ1 (wipeD ρ2 (slotsOf g)) (slotsOf g)) (.lst .own ds)
        | _ => .stuck) Q) : ∃ w, PI X tg it w ∧ (tLc w (gOf X.K g) (ttOf e X ifs) (tE e X WF elt) (slotsOf g) σ H Q ∨ tLockE (tLc w (gOf X.K g) (ttOf e X ifs) (tE e X WF elt) (slotsOf g)) σ H Q) := by
  rcases wk with ⟨w, pi, k⟩ | ⟨p, u, fe1, hp, du, np, s1, t1, w, pi, k⟩
  · refine ⟨w, pi, .inl (k _ fun J P H1 fe1 itk s1 hP t1 => ?_)⟩
    exact comp_run hl nd hc1 hc2 itk s1 t1 hP h
  · refine ⟨w, pi, .inr ⟨p, u, hp, mut_of du, fun od => ?_⟩⟩
    obtain ⟨J, P, itk, hP, r⟩ := k od
    refine r _ ?_
    have s2 := s1.relock (lks_lock (od := od) hp du) np
    refine comp_run (W := W) (elt := elt) (Q := fun v H2 => H2 p = some (.frz od u) ∧ Q v (upd H2 p u)) hl nd hc1 hc2 itk s2 Stp.refl hP ?_
    cases q : compL g (fun ρ => evC e.T ifs ρ) (fun ρ => evE e.T elt ρ) xs ρ1 [] with
    | ok ρ2 ds =>
      rw [q] at h
      exact EndE.lock np hp du t1 h
    | exn _ _ => rw [q] at h; exact h
    | stuck => rw [q] at h; exact h
theorem cSeq_at {g : Tg} {tg it : Expr} {Q : VK} (hl : ifs.length ≤ 1) (nd : (slotsOf g).Nodup) (hv : PE X it (tE e X W a)) (hp : isPath a = true → ∃ t, PE X it t ∧ PathR e X a t) (h : tE e X W (.cSeq elt g a ifs) σ H Q) :
    ∃ w, PI X tg it w ∧ (tLc w (gOf X.K g) (ttOf e X ifs) (tE e X WF elt) (slotsOf g) σ H Q ∨ tLockE (tLc w (gOf X.K g) (ttOf e X ifs) (tE e X WF elt) (slotsOf g)) σ H Q) := by
  obtain ⟨ρ, fe, G, s, h⟩ := h
  unfold evE at h
  cases q : evE e.T a ρ with
  | stuck => rw [q] at h; exact h.elim
  | exn x ρ1 =>
    rw [q] at h
    exact ⟨_, pi_seq hv, .inl ⟨ρ, fe, G, s, by rw [q]; exact h⟩⟩
  | ok ρ1 d =>
    rw [q] at h
    dsimp only at h
    split at h
    · exact h.elim
    cases hi : items2 a (frz d) with
    | none => rw [hi] at h; exact h.elim
    | some xs =>
      rw [hi] at h
      dsimp only at h
      split at h
      · rename_i hc
        rw [Bool.and_eq_true] at hc
        exact comp_at hl nd (walk_at hv hp s q hi) hc.1 hc.2 h
      · exact h.elim
theorem cRev_at {g : Tg} {tg it : Expr} {p pos : Pos} {Q : VK} (hl : ifs.length ≤ 1) (nd : (slotsOf g).Nodup) (hv : PE X it (tE e X W a)) (hg : Gl X "reversed") (hm : X.mg "reversed" = none) (ns : noStar it = true) (h : tE e X W (.cRev elt g a ifs) σ H Q) :
    ∃ w, PI X tg (.Call (.Name "reversed" p) [it] [] pos) w ∧ (tLc w (gOf X.K g) (ttOf e X ifs) (tE e X WF elt) (slotsOf g) σ H Q ∨ tLockE (tLc w (gOf X.K g) (ttOf e X ifs) (tE e X WF elt) (slotsOf g)) σ H Q) := by
  obtain ⟨ρ, fe, G, s, h⟩ := h
  unfold evE at h
  cases q : evE e.T a ρ with
  | stuck => rw [q] at h; exact h.elim
  | exn x ρ1 =>
    rw [q] at h
    exact ⟨_, RT.pi_revA hg hm hv (starEach_of ns), .inl ⟨ρ, fe, G, s, by rw [q]; exact h⟩⟩
  | ok ρ1 d =>
    rw [q] at h
    dsimp only at h
    split at h
    · exact h.elim
    cases hi : itemsR (frz d) with
    | none => rw [hi] at h; exact h.elim
    | some xs =>
      rw [hi] at h
      dsimp only at h
      split at h
      · rename_i hc
        rw [Bool.and_eq_true] at hc
        exact comp_at hl nd (.inl (walk_rev hv hg hm ns s q hi)) hc.1 hc.2 h
      · exact h.elim

/-- the block's own context -/
def ckB (c : CK) (scope : Scope) : CK := ⟨c.N, relS scope c.sc, false⟩
theorem GX.blk {s : Shared} {H : Hp} {scope : Scope} {C : Addr} {cl : List (Str × Addr)} {fp : List Addr} (g : GX X W c lv) : GX (X.blk s H scope (compEnvC scope cl C X.env) fp) WF (ckB c scope) lv :=
  { hN := g.hN
    sc := by show relS scope X.env.scope = relS scope c.sc; rw [g.sc]
    nd := g.nd
    calm := g.calm
    fnn := fun z => nomatch z
    room := g.room
    pass := fun σ pins H s e s' I q => by
      obtain ⟨_, _, _, _, _, _, _, _, _, _, _, _, h⟩ := q
      exact h.elim }
/-- what a block needs -/
structure BlkE (e : Pm) (X : Cx) (g : Tg) (elt : IE) (ifs : List IE) (scope : Scope) (tg elt' : Expr) (ifs' : List Expr) : Prop where
  ok : BlkOk X.N X.env.scope scope ((slotsOf g).map fun i => (X.N.getD i "", i))
  hg : ∀ (s : Shared) (H : Hp) (C : Addr) (cl : List (Str × Addr)) (fp : List Addr), PG (X.blk s H scope (compEnvC scope cl C X.env) fp) tg (gOf X.K g)
  ht : ∀ (s : Shared) (H : Hp) (C : Addr) (cl : List (Str × Addr)) (fp : List Addr), PTs (X.blk s H scope (compEnvC scope cl C X.env) fp) ifs' (ttOf e X ifs)
  he : ∀ (s : Shared) (H : Hp) (C : Addr) (cl : List (Str × Addr)) (fp : List Addr), PE (X.blk s H scope (compEnvC scope cl C X.env) fp) elt' (tE e X WF elt)
theorem own_map {N : List Str} {is : List Nat} : (is.map fun i => (N.getD i "", i)).map (·.2) = is := by
  rw [List.map_map]
  exact List.map_id' is
def foldless (it : Expr) : Bool := match it with | .Set _ _ _ => false | _ => true
theorem noFold {it : Expr} {env : Env} (h : foldless it = true) : ∀ x, foldedSetIterable it env x = pure x := by
  intro x
  cases it <;> first | rfl | cases h
theorem gd_cRng {i : Nat} {tg it elt' : Expr} {ifs' : List Expr} {scope : Scope} {pos : Pos} (g : GX X W c lv) (hl : ifs.length ≤ 1) (B : BlkE e X (.one i) elt ifs scope tg elt' ifs') (hi : PI X tg it (iRngL (tAs e X W es))) (hf : foldless it = true) :
    GdE e X W (.cRng elt i es ifs) (.ListComp elt' [⟨tg, it, ifs', 0⟩] scope pos) := by
  refine GdE.mk1 (fun ⟨_, z⟩ => nomatch z) (PE.mk' fun σ H Q q => ⟨_, pe_lc g.calm (by rw [g.hN]; exact g.nd) hi B.ok B.hg B.ht B.he (noFold hf), ?_⟩) rfl
  rw [own_map]
  exact cRng_says hl q
theorem gd_cSeq {gt : Tg} {tg it elt' : Expr} {ifs' : List Expr} {scope : Scope} {pos : Pos} (g : GX X W c lv) (hl : ifs.length ≤ 1) (nd : (slotsOf gt).Nodup) (B : BlkE e X gt elt ifs scope tg elt' ifs') (hi : GdE e X W a it) (hp : isPath a = true → ∃ t, PE X it t ∧ PathR e X a t) (hf : foldless it = true) :
    GdE e X W (.cSeq elt gt a ifs) (.ListComp elt' [⟨tg, it, ifs', 0⟩] scope pos) := by
  refine GdE.mk1 (fun ⟨_, z⟩ => nomatch z) (PE.mk' fun σ H Q q => ?_) rfl
  obtain ⟨w, pi, h⟩ := cSeq_at (tg := tg) hl nd hi.v hp q
  have r := pe_lc (pos := pos) g.calm (by rw [g.hN]; exact g.nd) pi B.ok B.hg B.ht B.he (noFold hf)
  rw [own_map] at r
  rcases h with h | h
  · exact ⟨_, r, h⟩
  · exact ⟨_, pe_lock r, h⟩
theorem gd_cRev {gt : Tg} {tg it elt' : Expr} {ifs' : List Expr} {scope : Scope} {p pos pos' : Pos} (g : GX X W c lv) (hl : ifs.length ≤ 1) (nd : (slotsOf gt).Nodup) (B : BlkE e X gt elt ifs scope tg elt' ifs') (hi : GdE e X W a it) (hg : Gl X "reversed") (hm : X.mg "reversed" = none) (ns : noStar it = true) :
    GdE e X W (.cRev elt gt a ifs) (.ListComp elt' [⟨tg, .Call (.Name "reversed" p) [it] [] pos', ifs', 0⟩] scope pos) := by
  refine GdE.mk1 (fun ⟨_, z⟩ => nomatch z) (PE.mk' fun σ H Q q => ?_) rfl
  obtain ⟨w, pi, h⟩ := cRev_at (tg := tg) hl nd hi.v hg hm ns q
  have r := pe_lc (pos := pos) g.calm (by rw [g.hN]; exact g.nd) pi B.ok B.hg B.ht B.he (noFold rfl)
  rw [own_map] at r
  rcases h with h | h
  · exact ⟨_, r, h⟩
  · exact ⟨_, pe_lock r, h⟩
end
end TL

namespace TL
open PySem PySem.Spec PyProof.Rows L2

section
variable {e : Pm} {X : Cx} {W : WX} {c : CK} {lv : Nat} {ea eb ec : Expr} {a b c' : IE} {p p2 pos : Pos} {es : List IE} {args : List Expr}
theorem Fi.scL {σ : L2.St} {H : Hp} {fe : List Addr} {G : AP} {ρ' : List D} {d : D} {Q : VK} {H' : Hp} {fe' f' : List Addr} {p : Addr} {o : HO} {v : V} (F : Fi e X σ H fe G ρ' d Q H' fe' f') (n : H' p = none) (z : Fz (e.L X.K) (upd H' p o) (Rv fe' f' G) d v) : Q v (upd H' p o) := by
  obtain ⟨s1, t1⟩ := F.s.lay (o := o) n
  have dr : Frz (upd H' p o) (Rv fe' f' G) (upd H' p o) (Rv fe' [] G) := Frz.sub fun _ => Rv_sub
  exact F.dn _ _ fe' [] (s1.drop (fun _ m => nomatch m) List.nodup_nil) (Rep.of_fz (z.step dr)) (F.t.trans ⟨t1.fr.trans dr, t1.kg⟩)
theorem pO_dict (hg : Gl X "dict") (hm : X.mg "dict" = none) (ns : noStar ea = true) (ns2 : args.all noStar = true) (ha : PA X (ea :: args) (tAs e X W es)) : PE X (.Call (.Name "dict" p) (ea :: args) [] pos) (tE e X W (.op .dict es)) := by
  refine pO_callT call_dictD (fun σ H fe G ρ' d Q H' fe' f' ds vs F rd hl h0 => ?_) hg hm (by decide +kernel) (by decide) (by decide) ns ns2 ha
  have h : ap_dict ds = some d := h0
  unfold ap_dict at h
  split at h
  · split at h
    · cases h
      obtain ⟨x, f, rfl, r⟩ := rd1 rd
      obtain ⟨l, kws, rfl, rdd, z⟩ := r.dct
      exact ⟨l, kws, rfl, rdd, fun p hn => F.newD z hn⟩
    · cases h
  · cases h
theorem pO_slA (ha : PE X ea (tO e X W a)) : PE X (.Subscript ea (.Slice none none none p2) pos) (tE e X W (.op .slA [a])) := by
  refine op1 (r := fun x H Q => rSlL X.K x none none H Q) (fun σ H fe G ρ' d Q H' fe' f' d1 x F r1 h0 => ?_)
    (PE.mk' fun σ H Q h => ⟨_, pe_slice sl_list ha po_none po_none, h⟩)
  obtain ⟨f1, r1⟩ := r1
  have h : ap_slA [d1] = some d := h0
  unfold ap_slA at h
  split at h
  · rename_i w xs he
    cases he; cases h
    obtain ⟨l, vs, rfl, e1, z1⟩ := r1.lst
    refine ⟨l, vs, rfl, e1, fun p hn => ?_⟩
    have hc : cutV vs none none = vs := by
      unfold cutV HT.sIx
      simp
    rw [hc]
    exact F.new z1 hn
  · cases h
theorem pO_getL {apos lp : Pos} (hu : X.A.units + 1 < cLine) (ns : noSup ea = true) (n1 : noStar eb = true) (hl : (apos.endLine == pos.line) = true) (ha : PE X ea (tO e X W a)) (hb : PE X eb (tO e X W b)) :
    PE X (.Call (.Attribute ea "get" apos) [eb, .List [] lp] [] pos) (tE e X W (.op .getL [a, b])) := by
  have m : M2 X ea "get" apos eb (.List [] lp) pos := ⟨base_of ns, by rw [two_trees n1 rfl]; rfl, hl, two_trees n1 rfl⟩
  refine opM (P := fun x H => ∃ q, x = .ref q ∧ IsD H q) (r := fun vs H Q => ∃ q y kws k, vs = [.ref q, y] ∧ Rd H q (.dK kws) ∧ y = kV k ∧ ∀ l, H l = none → Q ((valV kws k).getD (.ref l)) (upd H l (.lst [])))
    (fun ρ d v H1 T f pre hf rep => ?_) (fun σ H fe G ρ' d Q H' fe' f' ds vs F rd hlen h0 => ?_) (PE.mk' fun σ H Q h => ⟨_, pe_dget2 hu ha hb (pe_lst pa_nil) m, ?_⟩)
  · cases a with
    | var i =>
      have hd : ρ[i]? = some d := hf
      have pre : isDct (ρ.getD i .und) = true := pre
      rw [List.getD_eq_getElem?_getD, hd] at pre
      cases d with
      | dct w kvs =>
        obtain ⟨q, kws, rfl, rd, _⟩ := rep.dct
        exact ⟨q, rfl, .inl ⟨kws, rd⟩⟩
      | _ => cases pre
    | _ => cases pre
  · have h : ap_getL ds = some d := h0
    unfold ap_getL at h
    split at h
    · rename_i w kvs x'
      obtain ⟨x, y, f1, f2, rfl, r1, r2⟩ := rd2 rd
      cases hk : keyOf x' with
      | none => rw [hk] at h; cases h
      | some k =>
        rw [hk] at h
        cases h
        obtain ⟨l, kws, rfl, rd, zz⟩ := r1.dct
        refine ⟨l, y, kws, k, rfl, rd, keyOf_v r2 hk, fun q hn => ?_⟩
        have nq : ¬ Rv fe' f' G q := fun z => F.s.dm q z hn
        rcases zz.get k with ⟨h1, h2⟩ | ⟨d', u, h1, h2, h3⟩
        · rw [h2]
          rw [h1] at F
          refine F.scL hn ?_
          show Fz _ _ _ (.lst .fz []) _
          unfold Fz
          exact ⟨(fun z => nomatch z), q, [], rfl, .inl ⟨nq, .inl upd_same⟩, fun _ => ⟨nq, upd_same⟩, .inl (.inl upd_same), by unfold Fzs; rfl⟩
        · rw [h2]
          rw [h1] at F
          exact F.scL hn (h3.step (F.s.lay (o := .lst []) hn).2.fr)
    · cases h
  · refine tO_mono h fun x H1 q => ?_
    obtain ⟨⟨q1, ex, id⟩, q⟩ := q
    have q2 : tO e X W b σ H1 fun y H2 => ∃ q y' kws k, [x, y] = [.ref q, y'] ∧ Rd H2 q (.dK kws) ∧ y' = kV k ∧ ∀ l, H2 l = none → Q ((valV kws k).getD (.ref l)) (upd H2 l (.lst [])) := q
    refine ⟨q1, ex, id, tO_mono q2 fun y H2 q3 => ?_⟩
    obtain ⟨q', y', kws, k, ev, g, ey, qq⟩ := q3
    cases ev
    cases ex
    refine ⟨Nat.zero_le _, fun l hl => ⟨valV kws k, .inl ⟨kws, k, ?_, ey, rfl⟩, qq l hl⟩⟩
    rcases g with g | ⟨o, g⟩
    · exact .inl (by rw [upd_ne (ne_of_none g hl)]; exact g)
    · exact .inr ⟨o, by rw [upd_ne (ne_of_none g hl)]; exact g⟩
theorem Fzs.strs {L : LC} {H : Hp} {T : AP} : ∀ {ds : List D} {vs : List V} {ns : List Str}, Fzs L H T ds vs → strsD ds = some ns → vs = ns.map V.str
  | [], _, _, h, e => by
    unfold Fzs at h
    unfold strsD at e
    cases e
    rw [h]; rfl
  | d :: ds, _, ns, h, e => by
    unfold Fzs at h
    obtain ⟨v, r, rfl, h1, h2⟩ := h
    cases d with
    | str x =>
      unfold strsD at e
      cases q : strsD ds with
      | none => rw [q] at e; cases e
      | some ms =>
        rw [q] at e
        cases e
        unfold Fz at h1
        rw [h1, h2.strs q]
        rfl
    | _ => unfold strsD at e; cases e
theorem pO_join {apos : Pos} (ns : noSup ea = true) (n1 : noStar eb = true) (hl : (apos.endLine == pos.line) = true) (ha : PE X ea (tO e X W a)) (hb : PE X eb (tO e X W b)) : PE X (.Call (.Attribute ea "join" apos) [eb] [] pos) (tE e X W (.op .join [a, b])) := by
  refine opM (P := fun x H => ∃ z, x = .str z) (r := fun vs H Q => ∃ z p, ∃ ys : List Str, vs = [.str z, .ref p] ∧ (SqL X.K H p (ys.map V.str) ∨ SqT X.K H p (ys.map V.str)) ∧ (ys.map (·.length)).sum + ys.length * z.length ≤ 16777216 ∧ Q (.str (Txt.join z ys)) H)
    (fun ρ d v H1 T f pre hf rep => ?_) (fun σ H fe G ρ' d Q H' fe' f' ds vs F rd hlen h0 => ?_) (PE.mk' fun σ H Q h => ⟨_, pe_join ha hb (by rw [starEach_of n1]; rfl) (base_of ns) hl, ?_⟩)
  · cases a with
    | var i =>
      have hd : ρ[i]? = some d := hf
      have pre : isStrD (ρ.getD i .und) = true := pre
      rw [List.getD_eq_getElem?_getD, hd] at pre
      cases d with
      | str z => exact ⟨z, rep.str⟩
      | _ => cases pre
    | lit d' =>
      have hd : some d' = some d := hf
      cases hd
      cases d with
      | str z => exact ⟨z, rep.str⟩
      | _ => cases pre
    | _ => cases pre
  · have h : ap_join ds = some d := h0
    unfold ap_join at h
    split at h
    · rename_i z w xs
      obtain ⟨x, y, f1, f2, rfl, r1, r2⟩ := rd2 rd
      cases hk : strsD xs with
      | none => rw [hk] at h; cases h
      | some zs =>
        rw [hk] at h
        dsimp only at h
        split at h
        · rename_i hd
          cases h
          have hd := of_decide_eq_true hd
          obtain ⟨l, us, rfl, e1, z1⟩ := r2.lst
          have hu := z1.strs hk
          subst hu
          refine ⟨z, l, zs, by rw [r1.str], .inl e1, ?_, F.sc fz_str⟩
          rw [Nat.mul_comm]
          omega
        · cases h
    · cases h
  · refine tO_mono h fun x H1 q => ?_
    obtain ⟨⟨z, ez⟩, q⟩ := q
    have q2 : tO e X W b σ H1 fun y H2 => ∃ z' p, ∃ ys : List Str, [x, y] = [.str z', .ref p] ∧ (SqL X.K H2 p (ys.map V.str) ∨ SqT X.K H2 p (ys.map V.str)) ∧ (ys.map (·.length)).sum + ys.length * z'.length ≤ 16777216 ∧ Q (.str (Txt.join z' ys)) H2 := q
    refine ⟨⟨z, ez⟩, tO_mono q2 fun y H2 q3 => ?_⟩
    obtain ⟨z', p, ys, ev, hp, hz, qq⟩ := q3
    cases ev
    exact ⟨z', p, ys, rfl, rfl, hp, hz, qq⟩
end
end TL

namespace TL
open PySem PySem.Spec PyProof.Rows L2

/-! ### an operator's operands in the code -/
def testy (ex : Expr) : Bool := testable ex || isBoolOp ex || isCmp ex
def isGl (sc : Scope) (x : Str) : Bool := match sc.names.lookup x with | some .globalImplicit => true | _ => false
def isBt (o : Oks) (sc : Scope) (x : Str) : Bool := isGl sc x && o.bl x
def isVis (sc : Scope) (x : Str) : Bool := match sc.names.lookup x with | some .local => true | some .cell => true | some .free => true | _ => false
def plainIxB : Expr → Bool
  | .Name _ _ | .Constant _ _ _ | .BinOp _ _ _ _ | .UnaryOp _ _ _ | .Subscript _ _ _ | .Call _ _ _ _ | .Attribute _ _ _ | .Tuple _ _ _ | .Compare _ _ _ _ => true
  | _ => false
def shBin (op : Operator) : Expr → Option (List Expr)
  | .BinOp a q b _ => if q = op then some [a, b] else none
  | _ => none
def shCmp (op : CmpOp) : Expr → Option (List Expr)
  | .Compare a [q] [b] _ => if q = op && !behindInMarks op b then some [a, b] else none
  | _ => none
def shIs (op : CmpOp) : Expr → Option (List Expr)
  | .Compare a [q] [.Constant .none _ _] _ => if q = op then some [a] else none
  | _ => none
def shNeg : Expr → Option (List Expr)
  | .UnaryOp .USub a _ => some [a]
  | _ => none
def shNot : Expr → Option (List Expr)
  | .UnaryOp .Not a _ => if testy a then some [a] else none
  | _ => none
def shCall (o : Oks) (sc : Scope) (f : Str) : Expr → Option (List Expr)
  | .Call (.Name x _) (a :: r) [] _ => if decide (x = f) && isBt o sc f && (a :: r).all noStar then some (a :: r) else none
  | _ => none
def shIsi (o : Oks) (sc : Scope) (f : Str) : Expr → Option (List Expr)
  | .Call (.Name x _) [a, .Name y _] [] _ => if decide (x = "isinstance") && isBt o sc "isinstance" && decide (y = f) && isBt o sc f && noStar a then some [a] else none
  | _ => none
def shIdx : Expr → Option (List Expr)
  | .Subscript a b _ => if plainIxB b then some [a, b] else none
  | _ => none
def shSl : Expr → Option (List Expr)
  | .Subscript a (.Slice (some b) (some c) none _) _ => some [a, b, c]
  | _ => none
def shSl0 : Expr → Option (List Expr)
  | .Subscript a (.Slice none (some b) none _) _ => some [a, b]
  | _ => none
def shSlE : Expr → Option (List Expr)
  | .Subscript a (.Slice (some b) none none _) _ => some [a, b]
  | _ => none
def shGet : Expr → Option (List Expr)
  | .Call (.Attribute a m apos) [b, c] [] pos => if decide (m = "get") && noSup a && noStar b && noStar c && (apos.endLine == pos.line) then some [a, b, c] else none
  | _ => none
def shRg1 (o : Oks) (sc : Scope) : Expr → Option (List Expr)
  | .Call (.Name x _) [.Call (.Name y _) [a] [] _] [] _ => if decide (x = "list") && isBt o sc "list" && decide (y = "range") && isBt o sc "range" && noStar a then some [a] else none
  | _ => none
def shSlA : Expr → Option (List Expr)
  | .Subscript a (.Slice none none none _) _ => some [a]
  | _ => none
def shGetL : Expr → Option (List Expr)
  | .Call (.Attribute a m apos) [b, .List [] _] [] pos => if decide (m = "get") && noSup a && noStar b && (apos.endLine == pos.line) then some [a, b] else none
  | _ => none
def shJoin : Expr → Option (List Expr)
  | .Call (.Attribute a m apos) [b] [] pos => if decide (m = "join") && noSup a && noStar b && (apos.endLine == pos.line) then some [a, b] else none
  | _ => none
def opShape (o : Oks) (sc : Scope) : Op → Expr → Option (List Expr)
  | .add => shBin .Add | .sub => shBin .Sub | .mul => shBin .Mult | .fdiv => shBin .FloorDiv | .mod => shBin .Mod | .pow => shBin .Pow
  | .neg => shNeg
  | .eq => shCmp .Eq | .ne => shCmp .NotEq | .lt => shCmp .Lt | .le => shCmp .LtE | .gt => shCmp .Gt | .ge => shCmp .GtE | .inn => shCmp .In | .nin => shCmp .NotIn
  | .isN => shIs .Is | .notN => shIs .IsNot
  | .not => shNot
  | .len => shCall o sc "len" | .list => shCall o sc "list" | .tuple => shCall o sc "tuple" | .sorted => shCall o sc "sorted" | .sum => shCall o sc "sum"
  | .max1 => shCall o sc "max" | .min1 => shCall o sc "min" | .max2 => shCall o sc "max" | .min2 => shCall o sc "min" | .abs => shCall o sc "abs" | .intb => shCall o sc "int"
  | .isI => shIsi o sc "int" | .isB => shIsi o sc "bool" | .isL => shIsi o sc "list" | .isT => shIsi o sc "tuple" | .isD => shIsi o sc "dict" | .isS => shIsi o sc "str"
  | .dict => shCall o sc "dict" | .slA => shSlA | .getL => shGetL | .join => shJoin
  | .idx => shIdx | .sl => shSl | .sl0 => shSl0 | .slE => shSlE | .get => shGet | .rangeL => shRg1 o sc
  | _ => fun _ => none

section
variable {e : Pm} {X : Cx} {W : WX} {c : CK} {lv : Nat} {ex ea eb ec : Expr} {args : List Expr} {es : List IE} {a b c' : IE} {o : Oks}

def GdEs (e : Pm) (X : Cx) (W : WX) : List IE → List Expr → Prop
  | [], [] => True
  | ie :: es, ex :: xs => GdE e X W ie ex ∧ GdEs e X W es xs
  | _, _ => False
theorem GdEs.pa : ∀ {es : List IE} {xs : List Expr}, GdEs e X W es xs → xs.all noStar = true → PA X xs (tAs e X W es)
  | [], [], _, _ => pa_nil
  | ie :: es, ex :: xs, h, n => by
    rw [List.all_cons, Bool.and_eq_true] at n
    exact pa_cons h.1.o (GdEs.pa h.2 n.2) (starEach_of n.1)
  | [], _ :: _, h, _ => h.elim
  | _ :: _, [], h, _ => h.elim
theorem GdEs.pi : ∀ {es : List IE} {xs : List Expr}, GdEs e X W es xs → xs.all noStar = true → PA X xs (tIs e X W es)
  | [], [], _, _ => pa_nil
  | ie :: es, ex :: xs, h, n => by
    rw [List.all_cons, Bool.and_eq_true] at n
    exact pa_cons h.1.v (GdEs.pi h.2 n.2) (starEach_of n.1)
  | [], _ :: _, h, _ => h.elim
  | _ :: _, [], h, _ => h.elim
theorem GdEs.one (h : GdEs e X W es [ea]) : ∃ a, es = [a] ∧ GdE e X W a ea := by
  match es, h with
  | [a], h => exact ⟨a, rfl, h.1⟩
theorem GdEs.two (h : GdEs e X W es [ea, eb]) : ∃ a b, es = [a, b] ∧ GdE e X W a ea ∧ GdE e X W b eb := by
  match es, h with
  | [a, b], h => exact ⟨a, b, rfl, h.1, h.2.1⟩
theorem GdEs.three (h : GdEs e X W es [ea, eb, ec]) : ∃ a b c, es = [a, b, c] ∧ GdE e X W a ea ∧ GdE e X W b eb ∧ GdE e X W c ec := by
  match es, h with
  | [a, b, c], h => exact ⟨a, b, c, rfl, h.1, h.2.1, h.2.2.1⟩
theorem isGl_of {x : Str} (g : GX X W c lv) (h : isGl c.sc x = true) : Gl X x := by
  unfold isGl at h
  split at h
  · rename_i q
    show X.env.scope.names.lookup x = _
    rw [g.sc]; exact q
  · cases h
theorem isBt_of {x : Str} (g : GX X W c lv) (lk : Lnk X.prog X.w X.K X.mg X.base e o lv) (h : isBt o c.sc x = true) : Gl X x ∧ X.mg x = none := by
  unfold isBt at h
  rw [Bool.and_eq_true] at h
  exact ⟨isGl_of g h.1, lk.bl x h.2⟩
theorem isVis_of {x : Str} (g : GX X W c lv) (h : isVis c.sc x = true) : Vis X.env.scope x := by
  unfold isVis at h
  unfold Vis
  rw [g.sc]
  split at h
  · rename_i q; exact .inl q
  · rename_i q; exact .inr (.inl q)
  · rename_i q; exact .inr (.inr q)
  · cases h
theorem plainIx_of (h : plainIxB ex = true) : PlainIx ex := by
  intro o i
  cases ex <;> first | rfl | cases h
theorem shBin_of {op : Operator} (h : shBin op ex = some args) : ∃ a b pos, ex = .BinOp a op b pos ∧ args = [a, b] := by
  unfold shBin at h
  split at h
  · split at h
    · rename_i q; subst q; cases h; exact ⟨_, _, _, rfl, rfl⟩
    · cases h
  · cases h
theorem shCmp_of {op : CmpOp} (h : shCmp op ex = some args) : ∃ a b pos, ex = .Compare a [op] [b] pos ∧ args = [a, b] ∧ behindInMarks op b = false := by
  unfold shCmp at h
  split at h
  · split at h
    · rename_i q
      rw [Bool.and_eq_true] at q
      have q1 := of_decide_eq_true q.1
      subst q1
      cases h
      exact ⟨_, _, _, rfl, rfl, by simpa using q.2⟩
    · cases h
  · cases h
theorem shIs_of {op : CmpOp} (h : shIs op ex = some args) : ∃ a j p pos, ex = .Compare a [op] [.Constant .none j p] pos ∧ args = [a] := by
  unfold shIs at h
  split at h
  · split at h
    · rename_i q; subst q; cases h; exact ⟨_, _, _, _, rfl, rfl⟩
    · cases h
  · cases h
theorem shNeg_of (h : shNeg ex = some args) : ∃ a pos, ex = .UnaryOp .USub a pos ∧ args = [a] := by
  unfold shNeg at h
  split at h
  · cases h; exact ⟨_, _, rfl, rfl⟩
  · cases h
theorem shNot_of (h : shNot ex = some args) : ∃ a pos, ex = .UnaryOp .Not a pos ∧ args = [a] ∧ testy a = true := by
  unfold shNot at h
  split at h
  · split at h
    · rename_i q; cases h; exact ⟨_, _, rfl, rfl, q⟩
    · cases h
  · cases h
theorem shCall_of {sc : Scope} {f : Str} (h : shCall o sc f ex = some args) : ∃ p a r pos, ex = .Call (.Name f p) (a :: r) [] pos ∧ args = a :: r ∧ isBt o sc f = true ∧ noStar a = true ∧ r.all noStar = true := by
  unfold shCall at h
  split at h
  · split at h
    · rename_i q
      rw [Bool.and_eq_true, Bool.and_eq_true, List.all_cons, Bool.and_eq_true] at q
      have q1 := of_decide_eq_true q.1.1
      subst q1
      cases h
      exact ⟨_, _, _, _, rfl, rfl, q.1.2, q.2.1, q.2.2⟩
    · cases h
  · cases h
theorem shIsi_of {sc : Scope} {f : Str} (h : shIsi o sc f ex = some args) : ∃ p a p2 pos, ex = .Call (.Name "isinstance" p) [a, .Name f p2] [] pos ∧ args = [a] ∧ isBt o sc "isinstance" = true ∧ isBt o sc f = true ∧ noStar a = true := by
  unfold shIsi at h
  split at h
  · split at h
    · rename_i q
      rw [Bool.and_eq_true, Bool.and_eq_true, Bool.and_eq_true, Bool.and_eq_true] at q
      have q1 := of_decide_eq_true q.1.1.1.1
      have q2 := of_decide_eq_true q.1.1.2
      subst q1 q2
      cases h
      exact ⟨_, _, _, _, rfl, rfl, q.1.1.1.2, q.1.2, q.2⟩
    · cases h
  · cases h
theorem shIdx_of (h : shIdx ex = some args) : ∃ a b pos, ex = .Subscript a b pos ∧ args = [a, b] ∧ plainIxB b = true := by
  unfold shIdx at h
  split at h
  · split at h
    · rename_i q; cases h; exact ⟨_, _, _, rfl, rfl, q⟩
    · cases h
  · cases h
theorem shSl_of (h : shSl ex = some args) : ∃ a b c p pos, ex = .Subscript a (.Slice (some b) (some c) none p) pos ∧ args = [a, b, c] := by
  unfold shSl at h
  split at h
  · cases h; exact ⟨_, _, _, _, _, rfl, rfl⟩
  · cases h
theorem shSl0_of (h : shSl0 ex = some args) : ∃ a b p pos, ex = .Subscript a (.Slice none (some b) none p) pos ∧ args = [a, b] := by
  unfold shSl0 at h
  split at h
  · cases h; exact ⟨_, _, _, _, rfl, rfl⟩
  · cases h
theorem shSlE_of (h : shSlE ex = some args) : ∃ a b p pos, ex = .Subscript a (.Slice (some b) none none p) pos ∧ args = [a, b] := by
  unfold shSlE at h
  split at h
  · cases h; exact ⟨_, _, _, _, rfl, rfl⟩
  · cases h
theorem shSlA_of (h : shSlA ex = some args) : ∃ a p pos, ex = .Subscript a (.Slice none none none p) pos ∧ args = [a] := by
  unfold shSlA at h
  split at h
  · cases h; exact ⟨_, _, _, rfl, rfl⟩
  · cases h
theorem shGetL_of (h : shGetL ex = some args) : ∃ a apos b lp pos, ex = .Call (.Attribute a "get" apos) [b, .List [] lp] [] pos ∧ args = [a, b] ∧ noSup a = true ∧ noStar b = true ∧ (apos.endLine == pos.line) = true := by
  unfold shGetL at h
  split at h
  · split at h
    · rename_i q
      rw [Bool.and_eq_true, Bool.and_eq_true, Bool.and_eq_true] at q
      have q1 := of_decide_eq_true q.1.1.1
      subst q1
      cases h
      exact ⟨_, _, _, _, _, rfl, rfl, q.1.1.2, q.1.2, q.2⟩
    · cases h
  · cases h
theorem shJoin_of (h : shJoin ex = some args) : ∃ a apos b pos, ex = .Call (.Attribute a "join" apos) [b] [] pos ∧ args = [a, b] ∧ noSup a = true ∧ noStar b = true ∧ (apos.endLine == pos.line) = true := by
  unfold shJoin at h
  split at h
  · split at h
    · rename_i q
      rw [Bool.and_eq_true, Bool.and_eq_true, Bool.and_eq_true] at q
      have q1 := of_decide_eq_true q.1.1.1
      subst q1
      cases h
      exact ⟨_, _, _, _, rfl, rfl, q.1.1.2, q.1.2, q.2⟩
    · cases h
  · cases h
theorem shGet_of (h : shGet ex = some args) : ∃ a apos b c pos, ex = .Call (.Attribute a "get" apos) [b, c] [] pos ∧ args = [a, b, c] ∧ noSup a = true ∧ noStar b = true ∧ noStar c = true ∧ (apos.endLine == pos.line) = true := by
  unfold shGet at h
  split at h
  · split at h
    · rename_i q
      rw [Bool.and_eq_true, Bool.and_eq_true, Bool.and_eq_true, Bool.and_eq_true] at q
      have q1 := of_decide_eq_true q.1.1.1.1
      subst q1
      cases h
      exact ⟨_, _, _, _, _, rfl, rfl, q.1.1.1.2, q.1.1.2, q.1.2, q.2⟩
    · cases h
  · cases h
theorem shRg1_of {sc : Scope} (h : shRg1 o sc ex = some args) : ∃ p p2 a p3 pos, ex = .Call (.Name "list" p) [.Call (.Name "range" p2) [a] [] p3] [] pos ∧ args = [a] ∧ isBt o sc "list" = true ∧ isBt o sc "range" = true ∧ noStar a = true := by
  unfold shRg1 at h
  split at h
  · split at h
    · rename_i q
      rw [Bool.and_eq_true, Bool.and_eq_true, Bool.and_eq_true, Bool.and_eq_true] at q
      have q1 := of_decide_eq_true q.1.1.1.1
      have q2 := of_decide_eq_true q.1.1.2
      subst q1 q2
      cases h
      exact ⟨_, _, _, _, _, rfl, rfl, q.1.1.1.2, q.1.2, q.2⟩
    · cases h
  · cases h
end
end TL

namespace TL
open PySem PySem.Spec PyProof.Rows L2

section
variable {e : Pm} {X : Cx} {W : WX} {c : CK} {lv : Nat} {σ : L2.St} {H : Hp} {fe : List Addr} {G : AP} {ρ : List D} {x : Str} {o ea eb ec ex : Expr} {xs : List Expr} {apos pos p : Pos} {es : List IE} {a b ie t : IE} {o' : Oks}
/-! ### displays of dicts -/
def prs (e : Pm) (X : Cx) (W : WX) : List IE → List (TE × TE)
  | k :: v :: r => (tE e X W k, tE e X W v) :: prs e X W r
  | _ => []
def flatP : List (V × V) → List V
  | [] => []
  | (a, b) :: r => a :: b :: flatP r
def alt : List (Option Expr) → List Expr → Option (List Expr)
  | [], [] => some []
  | some k :: ks, v :: vs => match alt ks vs with | some r => some (k :: v :: r) | none => none
  | _, _ => none
theorem alt_len : ∀ {ks : List (Option Expr)} {vs xs : List Expr}, alt ks vs = some xs → ks.length = vs.length ∧ ks.all (·.isSome) = true ∧ xs.length = 2 * ks.length
  | [], [], xs, h => by cases h; exact ⟨rfl, rfl, rfl⟩
  | some k :: ks, v :: vs, xs, h => by
    unfold alt at h
    cases q : alt ks vs with
    | none => rw [q] at h; cases h
    | some r =>
      rw [q] at h
      cases h
      obtain ⟨h1, h2, h3⟩ := alt_len q
      exact ⟨by simp [h1], by simpa using h2, by simp [h3]; omega⟩
  | [], _ :: _, _, h => by cases h
  | none :: _, _, _, h => by cases h
  | some _ :: _, [], _, h => by cases h
theorem tPairs_of : ∀ (es : List IE) (n : Nat) (σ : L2.St) (H : Hp) (Q : List (V × V) → Hp → Prop) (Q' : List V → Hp → Prop), es.length = 2 * n → (∀ ps H', Q' (flatP ps) H' → Q ps H') → tIs e X W es σ H Q' → tPairs (prs e X W es) σ H Q
  | [], _, σ, H, Q, Q', _, k, h => k [] H h
  | [_], n, _, _, _, _, hl, _, _ => by exfalso; simp only [List.length_cons, List.length_nil] at hl; omega
  | a :: b :: r, n, σ, H, Q, Q', hl, k, h => by
    have hl' : r.length = 2 * (n - 1) := by simp only [List.length_cons] at hl; omega
    exact tE_mono h fun x H1 q => tE_mono q fun y H2 q => tPairs_of r (n - 1) σ H2 _ (fun xs H3 => Q' (x :: y :: xs) H3) hl' (fun ps H' z => k ((x, y) :: ps) H' z) q
theorem pairs_fz {L : LC} {T : AP} : ∀ {ds : List D} {kvs : List (Key × D)} {ps : List (V × V)}, pairsOf ds = some kvs → Fzs L H T ds (flatP ps) → ∃ kws : List (Key × V), ps = kws.map (fun kv => (kV kv.1, kv.2)) ∧ FzK L H T kvs kws
  | [], kvs, ps, h, z => by
    unfold pairsOf at h
    cases h
    unfold Fzs at z
    cases ps with
    | nil => exact ⟨[], rfl, by unfold FzK; rfl⟩
    | cons p r => cases z
  | [_], _, _, h, _ => by cases h
  | k :: v :: r, kvs, ps, h, z => by
    unfold pairsOf at h
    cases q1 : keyOf k with
    | none => rw [q1] at h; cases h
    | some y =>
      cases q2 : pairsOf r with
      | none => rw [q1, q2] at h; cases h
      | some kvs' =>
        rw [q1, q2] at h
        cases h
        unfold Fzs at z
        obtain ⟨a, r1, e1, z1, z2⟩ := z
        unfold Fzs at z2
        obtain ⟨b, r2, e2, z3, z4⟩ := z2
        cases ps with
        | nil => cases e1
        | cons p ps' =>
          obtain ⟨pa, pb⟩ := p
          cases e1
          cases e2
          obtain ⟨kws, e3, z5⟩ := pairs_fz q2 z4
          refine ⟨(y, b) :: kws, ?_, ?_⟩
          · rw [e3, List.map_cons, keyOf_v (Rep.of_fz z1) q1]
          · unfold FzK
            exact ⟨b, kws, rfl, z3, z5⟩
theorem merge_fz {L : LC} {T : AP} : ∀ {kvs : List (Key × D)} {kws : List (Key × V)} {a : List (Key × D)} {aw : List (Key × V)}, FzK L H T kvs kws → FzK L H T a aw → FzK L H T (kvs.foldl (fun a p => dput a p.1 p.2) a) (mergeK aw kws)
  | [], kws, a, aw, h, z => by
    unfold FzK at h
    subst h
    exact z
  | (k, d) :: r, kws, a, aw, h, z => by
    unfold FzK at h
    obtain ⟨v, r', rfl, h1, h2⟩ := h
    have q := merge_fz (kvs := r) (kws := r') (a := dput a k d) (aw := putK aw k v) h2 (z.put k h1)
    exact q
theorem flatP_len : ∀ kws : List (Key × V), (flatP (kws.map (fun kv => (kV kv.1, kv.2)))).length = 2 * kws.length
  | [] => rfl
  | a :: r => by
    have := flatP_len r
    simp only [List.map_cons, flatP, List.length_cons] at this ⊢
    omega
theorem disp_says {i : IE} {n : Nat} {Q : VK} (hn : (i :: es).length = 2 * n) (h15 : n ≤ 15) (h : tE e X W (.dct (i :: es)) σ H Q) : tDisp (prs e X W (i :: es)) σ H Q := by
  intro p np
  obtain ⟨ρ, fe, G, s, q⟩ := h
  unfold evE at q
  obtain ⟨sD, tD⟩ := s.alloc (o := .dK []) np
  have nd1 : [p].Nodup := List.nodup_cons.mpr ⟨by simp, List.nodup_nil⟩
  have dj1 : ∀ a ∈ [p], ¬ G a := fun a m => sD.dj a (.inr m)
  refine tPairs_of (i :: es) n σ _ _ (fun vs H2 => ∀ ps, vs = flatP ps → H2 p = some (.dK []) ∧ ∃ kvs : List (Key × V), ps = kvs.map (fun kv => (kV kv.1, kv.2)) ∧ kvs.length ≤ 15 ∧ Q (.ref p) (upd H2 p (.dK (mergeK [] kvs)))) hn (fun ps H' z => z ps rfl) ?_
  refine evEs_ok (i :: es) ρ _ fe _ sD.hide ?_
  cases z : evEs e.T (i :: es) ρ with
  | stuck => rw [z] at q; exact q.elim
  | exn x ρ1 =>
    rw [z] at q
    intro H1 fe1 s1 t1
    have s1' := s1.unhide nd1 dj1
    have t1' := Stp.hide t1
    rw [List.append_nil] at s1' t1'
    exact q H1 fe1 (s1'.drop (fun _ m => nomatch m) List.nodup_nil) ((tD.trans t1').trans (Stp.drop (fun _ m => nomatch m)))
  | ok ρ1 ds =>
    rw [z] at q
    rintro vs H1 fe1 s1 r1 t1 ps rfl
    dsimp only at q
    cases hp : pairsOf ds with
    | none => rw [hp] at q; exact q.elim
    | some kvs =>
      rw [hp] at q
      obtain ⟨kws, e1, z1⟩ := pairs_fz hp r1
      have s1' := s1.unhide nd1 dj1
      have t1' := Stp.hide t1
      rw [List.append_nil] at s1' t1'
      obtain ⟨s2, t2⟩ := s1'.upd1 (o := .dK (mergeK [] kws))
      have ep : H1 p = some (.dK []) := t1.kg p _ (.inl (List.mem_singleton.mpr rfl)) upd_same
      refine ⟨ep, kws, e1, ?_, ?_⟩
      · have hl := evEs_len z
        have h2 : ds.length = 2 * kws.length := by
          have := r1.len
          rw [← this, e1]
          exact flatP_len kws
        omega
      · refine q (.ref p) _ fe1 [p] s2 ⟨p, _, rfl, rfl, upd_same, ?_⟩ ((tD.trans t1').trans t2)
        have z2 : FzK (e.L X.K) H1 (Rv fe1 [] (fun a => a ∈ [p] ∨ G a)) (kvs.foldl (fun a p => dput a p.1 p.2) []) (mergeK [] kws) := merge_fz z1 (by unfold FzK; rfl)
        rw [Rv_one] at z2
        exact FzK.step t2.fr _ _ z2
theorem gdEs_pps : ∀ {es : List IE} {ks : List (Option Expr)} {vs xs : List Expr}, alt ks vs = some xs → GdEs e X W es xs → PPs X pos ks vs (prs e X W es)
  | es, [], [], xs, h, g => by
    cases h
    match es, g with
    | [], _ => exact pps_nil
  | es, some k :: ks, v :: vs, xs, h, g => by
    unfold alt at h
    cases q : alt ks vs with
    | none => rw [q] at h; cases h
    | some r =>
      rw [q] at h
      cases h
      match es, g with
      | a :: b :: r', g => exact pps_cons g.1.v g.2.1.v (gdEs_pps q g.2.2)
      | [_], g => exact g.2.elim
  | _, [], _ :: _, _, h, _ => by cases h
  | _, none :: _, _, _, h, _ => by cases h
  | _, some _ :: _, [], _, h, _ => by cases h
theorem gd_dctN {i : IE} {ks : List (Option Expr)} {vs : List Expr} (ha : alt ks vs = some xs) (hg : GdEs e X W (i :: es) xs) (hl : (i :: es).length ≤ 30) (hlen : (i :: es).length = xs.length) : GdE e X W (.dct (i :: es)) (.Dict ks vs pos) := by
  obtain ⟨h1, h2, h3⟩ := alt_len ha
  refine GdE.mk1 (fun ⟨_, z⟩ => nomatch z) (PE.mk' fun σ H Q q => ⟨_, pe_disp (gdEs_pps ha hg) h2 h1 ?_ ?_, disp_says (n := ks.length) (by omega) (by omega) q⟩) rfl
  · rintro rfl
    rw [List.length_nil] at h3
    rw [h3] at hlen
    cases hlen
  · omega
end
end TL

namespace TL
open PySem PySem.Spec PyProof.Rows L2

section
variable {e : Pm} {X : Cx} {W : WX} {c : CK} {lv : Nat} {ex ea eb ec : Expr} {args : List Expr} {es : List IE} {o' : Oks} {op : Op}

theorem nv {op : Op} {es : List IE} : ¬ ∃ i, IE.op op es = .var i := fun ⟨_, z⟩ => nomatch z
theorem isi_kind {op : Op} {ct : String} {d1 d : D} (hk : ∀ d1 d, ap op [d1] = some d → ∃ t, kindOf d1 = some t ∧ kitB t ct = (match d with | .bl b => some b | _ => none) ∧ ∃ b, d = .bl b) :
    ∀ d1 d, ap op [d1] = some d → ∃ t b, kindOf d1 = some t ∧ d = .bl b ∧ ∀ K : PySem.W.Frag, PySem.W.kitOne K (.type t) (.type ct) = some b := fun d1 d h => by
  obtain ⟨t, h1, h2, b, rfl⟩ := hk d1 d h
  exact ⟨t, b, h1, rfl, fun K => kit_ty h2⟩
theorem kI : ∀ d1 d, ap .isI [d1] = some d → ∃ t, kindOf d1 = some t ∧ kitB t "int" = (match d with | .bl b => some b | _ => none) ∧ ∃ b, d = .bl b := fun d1 d h => by
  have h : ap_isI [d1] = some d := h
  cases d1 <;> first | (cases h; exact ⟨_, rfl, by decide +kernel, _, rfl⟩) | cases h
theorem kB : ∀ d1 d, ap .isB [d1] = some d → ∃ t, kindOf d1 = some t ∧ kitB t "bool" = (match d with | .bl b => some b | _ => none) ∧ ∃ b, d = .bl b := fun d1 d h => by
  have h : ap_isB [d1] = some d := h
  cases d1 <;> first | (cases h; exact ⟨_, rfl, by decide +kernel, _, rfl⟩) | cases h
theorem kL : ∀ d1 d, ap .isL [d1] = some d → ∃ t, kindOf d1 = some t ∧ kitB t "list" = (match d with | .bl b => some b | _ => none) ∧ ∃ b, d = .bl b := fun d1 d h => by
  have h : ap_isL [d1] = some d := h
  cases d1 <;> first | (cases h; exact ⟨_, rfl, by decide +kernel, _, rfl⟩) | cases h
theorem kT : ∀ d1 d, ap .isT [d1] = some d → ∃ t, kindOf d1 = some t ∧ kitB t "tuple" = (match d with | .bl b => some b | _ => none) ∧ ∃ b, d = .bl b := fun d1 d h => by
  have h : ap_isT [d1] = some d := h
  cases d1 <;> first | (cases h; exact ⟨_, rfl, by decide +kernel, _, rfl⟩) | cases h
theorem kD : ∀ d1 d, ap .isD [d1] = some d → ∃ t, kindOf d1 = some t ∧ kitB t "dict" = (match d with | .bl b => some b | _ => none) ∧ ∃ b, d = .bl b := fun d1 d h => by
  have h : ap_isD [d1] = some d := h
  cases d1 <;> first | (cases h; exact ⟨_, rfl, by decide +kernel, _, rfl⟩) | cases h
theorem kS : ∀ d1 d, ap .isS [d1] = some d → ∃ t, kindOf d1 = some t ∧ kitB t "str" = (match d with | .bl b => some b | _ => none) ∧ ∃ b, d = .bl b := fun d1 d h => by
  have h : ap_isS [d1] = some d := h
  cases d1 <;> first | (cases h; exact ⟨_, rfl, by decide +kernel, _, rfl⟩) | cases h
theorem isi_ok {f : Str} {ct : String} (hk : ∀ d1 d, ap op [d1] = some d → ∃ t, kindOf d1 = some t ∧ kitB t ct = (match d with | .bl b => some b | _ => none) ∧ ∃ b, d = .bl b)
    (hv2 : bootBuiltins f = some (.type ct)) (hn2 : f ≠ "__name__") (hd2 : (f == ("__debug__" : Str)) = false)
    (g : GX X W c lv) (lk : Lnk X.prog X.w X.K X.mg X.base e o' lv) (h : shIsi o' c.sc f ex = some args) (hs : GdEs e X W es args) : GdE e X W (.op op es) ex := by
  obtain ⟨p, a, p2, pos, rfl, rfl, b1, b2, n1⟩ := shIsi_of h
  obtain ⟨ia, rfl, ha⟩ := hs.one
  obtain ⟨g1, m1⟩ := isBt_of g lk b1
  obtain ⟨g2, m2⟩ := isBt_of g lk b2
  exact GdE.mk1 nv (pO_isi (fun d1 d q => isi_kind (d1 := d1) (d := d) hk d1 d q) g1 m1 g2 m2 hv2 hn2 hd2 n1 ha.o) rfl
def slOk (op : Op) (es : List IE) : Bool := match op with | .sl => es.all fun i => (isVar i).isSome | _ => true
theorem isVar_of {ie : IE} (h : (isVar ie).isSome = true) : ∃ i, ie = .var i := by
  cases ie <;> first | exact ⟨_, rfl⟩ | cases h
/-- the operators, all -/
theorem op_ok (g : GX X W c lv) (lk : Lnk X.prog X.w X.K X.mg X.base e o' lv) (h : opShape o' c.sc op ex = some args) (sl : slOk op es = true) (hs : GdEs e X W es args) : GdE e X W (.op op es) ex := by
  have hu : X.A.units + 1 < cLine := by have := g.room.units; omega
  have bin : ∀ {q : Operator}, shBin q ex = some args → ∃ a b ia ib pos, ex = .BinOp a q b pos ∧ es = [ia, ib] ∧ PE X a (tO e X W ia) ∧ PE X b (tO e X W ib) := fun h => by
    obtain ⟨a, b, pos, rfl, rfl⟩ := shBin_of h
    obtain ⟨ia, ib, rfl, ha, hb⟩ := hs.two
    exact ⟨a, b, ia, ib, pos, rfl, rfl, ha.o, hb.o⟩
  have cmp : ∀ {q : CmpOp}, shCmp q ex = some args → ∃ a b ia ib pos, ex = .Compare a [q] [b] pos ∧ es = [ia, ib] ∧ PE X a (tO e X W ia) ∧ PE X b (tO e X W ib) ∧ behindInMarks q b = false := fun h => by
    obtain ⟨a, b, pos, rfl, rfl, k⟩ := shCmp_of h
    obtain ⟨ia, ib, rfl, ha, hb⟩ := hs.two
    exact ⟨a, b, ia, ib, pos, rfl, rfl, ha.o, hb.o, k⟩
  have call : ∀ {f : Str}, shCall o' c.sc f ex = some args → ∃ p a r pos, ex = .Call (.Name f p) (a :: r) [] pos ∧ Gl X f ∧ X.mg f = none ∧ noStar a = true ∧ r.all noStar = true ∧ PA X (a :: r) (tAs e X W es) := fun h => by
    obtain ⟨p, a, r, pos, rfl, rfl, b, n1, n2⟩ := shCall_of h
    obtain ⟨g1, m1⟩ := isBt_of g lk b
    exact ⟨p, a, r, pos, rfl, g1, m1, n1, n2, hs.pa (by rw [List.all_cons, n1, n2]; rfl)⟩
  cases op with
  | add => obtain ⟨a, b, ia, ib, pos, rfl, rfl, ha, hb⟩ := bin h; exact GdE.mk1 nv (pO_add ha hb) rfl
  | sub => obtain ⟨a, b, ia, ib, pos, rfl, rfl, ha, hb⟩ := bin h; exact GdE.mk1 nv (pO_sub ha hb) rfl
  | mul => obtain ⟨a, b, ia, ib, pos, rfl, rfl, ha, hb⟩ := bin h; exact GdE.mk1 nv (pO_mul ha hb) rfl
  | fdiv => obtain ⟨a, b, ia, ib, pos, rfl, rfl, ha, hb⟩ := bin h; exact GdE.mk1 nv (pO_fdiv ha hb) rfl
  | mod => obtain ⟨a, b, ia, ib, pos, rfl, rfl, ha, hb⟩ := bin h; exact GdE.mk1 nv (pO_mod ha hb) rfl
  | pow => obtain ⟨a, b, ia, ib, pos, rfl, rfl, ha, hb⟩ := bin h; exact GdE.mk1 nv (pO_pow ha hb) rfl
  | neg => obtain ⟨a, pos, rfl, rfl⟩ := shNeg_of h; obtain ⟨ia, rfl, ha⟩ := hs.one; exact GdE.mk1 nv (pO_neg ha.o) rfl
  | eq => obtain ⟨a, b, ia, ib, pos, rfl, rfl, ha, hb, _⟩ := cmp h; exact GdE.mk2 nv (pO_eq g.room.units ha hb) rfl
  | ne => obtain ⟨a, b, ia, ib, pos, rfl, rfl, ha, hb, _⟩ := cmp h; exact GdE.mk2 nv (pO_ne g.room.units ha hb) rfl
  | lt => obtain ⟨a, b, ia, ib, pos, rfl, rfl, ha, hb, _⟩ := cmp h; exact GdE.mk2 nv (pO_lt (by omega) ha hb) rfl
  | le => obtain ⟨a, b, ia, ib, pos, rfl, rfl, ha, hb, _⟩ := cmp h; exact GdE.mk2 nv (pO_le ha hb) rfl
  | gt => obtain ⟨a, b, ia, ib, pos, rfl, rfl, ha, hb, _⟩ := cmp h; exact GdE.mk2 nv (pO_gt ha hb) rfl
  | ge => obtain ⟨a, b, ia, ib, pos, rfl, rfl, ha, hb, _⟩ := cmp h; exact GdE.mk2 nv (pO_ge ha hb) rfl
  | inn => obtain ⟨a, b, ia, ib, pos, rfl, rfl, ha, hb, k⟩ := cmp h; exact GdE.mk2 nv (pO_inn hu k ha hb) rfl
  | nin => obtain ⟨a, b, ia, ib, pos, rfl, rfl, ha, hb, k⟩ := cmp h; exact GdE.mk2 nv (pO_nin hu k ha hb) rfl
  | isN => obtain ⟨a, j, p, pos, rfl, rfl⟩ := shIs_of h; obtain ⟨ia, rfl, ha⟩ := hs.one; exact GdE.mk2 nv (pO_isN ha.o) rfl
  | notN => obtain ⟨a, j, p, pos, rfl, rfl⟩ := shIs_of h; obtain ⟨ia, rfl, ha⟩ := hs.one; exact GdE.mk2 nv (pO_notN ha.o) rfl
  | not => obtain ⟨a, pos, rfl, rfl, k⟩ := shNot_of h; obtain ⟨ia, rfl, ha⟩ := hs.one; exact gd_not ha k
  | len => obtain ⟨p, a, r, pos, rfl, g1, m1, n1, n2, pa⟩ := call h; exact GdE.mk1 nv (pO_len g1 m1 n1 n2 pa) rfl
  | list => obtain ⟨p, a, r, pos, rfl, g1, m1, n1, n2, pa⟩ := call h; exact GdE.mk1 nv (pO_list g1 m1 n1 n2 pa) rfl
  | tuple => obtain ⟨p, a, r, pos, rfl, g1, m1, n1, n2, pa⟩ := call h; exact GdE.mk1 nv (pO_tuple g1 m1 n1 n2 pa) rfl
  | sorted => obtain ⟨p, a, r, pos, rfl, g1, m1, n1, n2, pa⟩ := call h; exact GdE.mk1 nv (pO_sorted g.calm g.room.units g1 m1 n1 n2 pa) rfl
  | sum => obtain ⟨p, a, r, pos, rfl, g1, m1, n1, n2, pa⟩ := call h; exact GdE.mk1 nv (pO_sum g.calm g1 m1 n1 n2 pa) rfl
  | max1 => obtain ⟨p, a, r, pos, rfl, g1, m1, n1, n2, pa⟩ := call h; exact GdE.mk1 nv (pO_max1 g.calm g1 m1 n1 n2 pa) rfl
  | min1 => obtain ⟨p, a, r, pos, rfl, g1, m1, n1, n2, pa⟩ := call h; exact GdE.mk1 nv (pO_min1 g.calm g.room.units g1 m1 n1 n2 pa) rfl
  | max2 => obtain ⟨p, a, r, pos, rfl, g1, m1, n1, n2, pa⟩ := call h; exact GdE.mk1 nv (pO_max2 g.calm g1 m1 n1 n2 pa) rfl
  | min2 => obtain ⟨p, a, r, pos, rfl, g1, m1, n1, n2, pa⟩ := call h; exact GdE.mk1 nv (pO_min2 g.calm g1 m1 n1 n2 pa) rfl
  | abs => obtain ⟨p, a, r, pos, rfl, g1, m1, n1, n2, pa⟩ := call h; exact GdE.mk1 nv (pO_abs g1 m1 n1 n2 pa) rfl
  | intb => obtain ⟨p, a, r, pos, rfl, g1, m1, n1, n2, pa⟩ := call h; exact GdE.mk1 nv (pO_intb g1 m1 n1 n2 pa) rfl
  | isI => exact isi_ok kI (by decide +kernel) (by decide) (by decide) g lk h hs
  | isB => exact isi_ok kB (by decide +kernel) (by decide) (by decide) g lk h hs
  | isL => exact isi_ok kL (by decide +kernel) (by decide) (by decide) g lk h hs
  | isT => exact isi_ok kT (by decide +kernel) (by decide) (by decide) g lk h hs
  | isD => exact isi_ok kD (by decide +kernel) (by decide) (by decide) g lk h hs
  | isS => exact isi_ok kS (by decide +kernel) (by decide) (by decide) g lk h hs
  | idx =>
    obtain ⟨a, b, pos, rfl, rfl, k⟩ := shIdx_of h
    obtain ⟨ia, ib, rfl, ha, hb⟩ := hs.two
    exact GdE.mk1 nv (pO_idx hu (plainIx_of k) ha.o hb.o) rfl
  | get =>
    obtain ⟨a, ap, b, d, pos, rfl, rfl, k1, k2, k3, k4⟩ := shGet_of h
    obtain ⟨ia, ib, id, rfl, ha, hb, hd⟩ := hs.three
    exact GdE.mk1 nv (pO_get hu k1 k2 k3 k4 ha.o hb.o hd.o) rfl
  | sl =>
    obtain ⟨a, b, d, p, pos, rfl, rfl⟩ := shSl_of h
    obtain ⟨ia, ib, id, rfl, ha, hb, hd⟩ := hs.three
    have sl : ((isVar ia).isSome && ((isVar ib).isSome && ((isVar id).isSome && true))) = true := sl
    rw [Bool.and_eq_true, Bool.and_eq_true, Bool.and_eq_true] at sl
    obtain ⟨i, rfl⟩ := isVar_of sl.1
    obtain ⟨j, rfl⟩ := isVar_of sl.2.1
    obtain ⟨k, rfl⟩ := isVar_of sl.2.2.1
    exact GdE.mk1 nv (pO_sl ha.o hb.o hd.o) rfl
  | dict => obtain ⟨p, a, r, pos, rfl, g1, m1, n1, n2, pa⟩ := call h; exact GdE.mk1 nv (pO_dict g1 m1 n1 n2 pa) rfl
  | slA =>
    obtain ⟨a, p, pos, rfl, rfl⟩ := shSlA_of h
    obtain ⟨ia, rfl, ha⟩ := hs.one
    exact GdE.mk1 nv (pO_slA ha.o) rfl
  | getL =>
    obtain ⟨a, ap, b, lp, pos, rfl, rfl, k1, k2, k4⟩ := shGetL_of h
    obtain ⟨ia, ib, rfl, ha, hb⟩ := hs.two
    exact GdE.mk1 nv (pO_getL hu k1 k2 k4 ha.o hb.o) rfl
  | join =>
    obtain ⟨a, ap, b, pos, rfl, rfl, k1, k2, k4⟩ := shJoin_of h
    obtain ⟨ia, ib, rfl, ha, hb⟩ := hs.two
    exact GdE.mk1 nv (pO_join k1 k2 k4 ha.o hb.o) rfl
  | sl0 =>
    obtain ⟨a, b, p, pos, rfl, rfl⟩ := shSl0_of h
    obtain ⟨ia, ib, rfl, ha, hb⟩ := hs.two
    exact GdE.mk1 nv (pO_sl0 ha.o hb.o) rfl
  | slE =>
    obtain ⟨a, b, p, pos, rfl, rfl⟩ := shSlE_of h
    obtain ⟨ia, ib, rfl, ha, hb⟩ := hs.two
    exact GdE.mk1 nv (pO_slE ha.o hb.o) rfl
  | rangeL =>
    obtain ⟨p, p2, a, p3, pos, rfl, rfl, b1, b2, n1⟩ := shRg1_of h
    obtain ⟨ia, rfl, ha⟩ := hs.one
    obtain ⟨g1, m1⟩ := isBt_of g lk b1
    obtain ⟨g2, m2⟩ := isBt_of g lk b2
    exact GdE.mk1 nv (pO_range1 g.calm g1 m1 g2 m2 n1 ha.o) rfl
  | _ => cases h
end
end TL

namespace TL
open PySem PySem.Spec PyProof.Rows L2

/-! ### the code of an expression, node by node -/
def chkV (c : CK) (i : Nat) : Expr → Bool
  | .Name x _ => decide (c.N[i]? = some x) && isVis c.sc x && decide (x ≠ "__debug__") && decide (x ≠ "__classdict__")
  | _ => false
def shLit (d : D) : Expr → Bool
  | .Constant k _ _ => litOk d k
  | _ => false
def shCon (nm : Nm) (o : Oks) (c : CK) (n : Nat) : Expr → Bool
  | .Name x _ => decide (x = nm.cn n) && o.cn n && isGl c.sc x
  | _ => false
def shBool (op : BoolOp) : Expr → Option (Expr × Expr × List Expr × Pos)
  | .BoolOp q (x :: y :: r) p => if q = op && testy x then some (x, y, r, p) else none
  | _ => none
def shIf : Expr → Option (Expr × Expr × Expr)
  | .IfExp t a b _ => if testy t then some (t, a, b) else none
  | _ => none
def shTup : Expr → Option (List Expr)
  | .Tuple xs _ _ => if xs.all noStar then some xs else none
  | _ => none
def shLst : Expr → Option (List Expr)
  | .List xs _ => if xs.all noStar then some xs else none
  | _ => none
def shDct : Expr → Bool
  | .Dict [] [] _ => true
  | _ => false
def shDisp : Expr → Option (List Expr × Unit)
  | .Dict ks vs _ => match alt ks vs with | some xs => some (xs, ()) | none => none
  | _ => none
def shRevL (o : Oks) (sc : Scope) : Expr → Option Expr
  | .Call (.Name x _) [a] [] _ => if decide (x = "reversed") && isBt o sc "reversed" && noStar a then some a else none
  | _ => none
def shFld (nm : Nm) (o : Oks) (c f : Nat) : Expr → Option Expr
  | .Attribute ob m _ => if decide (m = nm.fd f) && o.fl c f && noSup ob then some ob else none
  | _ => none
def shFn (nm : Nm) (o : Oks) (c : CK) (f : Nat) : Expr → Option (List Expr)
  | .Call (.Name x _) (a :: r) [] _ => if decide (x = nm.fn f) && o.fn f && isGl c.sc x && (a :: r).all noStar then some (a :: r) else none
  | _ => none
def shMk (nm : Nm) (o : Oks) (c : CK) (cl f : Nat) : Expr → Option (List Expr)
  | .Call (.Name x _) (a :: r) [] _ => if decide (x = nm.cl cl) && o.mak cl f && isGl c.sc x && (a :: r).all noStar then some (a :: r) else none
  | _ => none
def shMe (nm : Nm) (o : Oks) (f : Nat) : Expr → Option (Expr × List Expr)
  | .Call (.Attribute ob m apos) args [] pos => if decide (m = (nm.me f).2) && o.me f && noSup ob && args.all noStar && decide (args.length < 29) && (apos.endLine == pos.line) then some (ob, args) else none
  | _ => none
def shPop : Expr → Option (Expr × List Expr)
  | .Call (.Attribute ob m apos) args [] pos => if decide (m = "pop") && noSup ob && args.all noStar && (apos.endLine == pos.line) then some (ob, args) else none
  | _ => none
def shComp : Expr → Option (Expr × Expr × Expr × List Expr × Scope)
  | .ListComp elt [⟨tg, it, ifs, ia⟩] scope _ => if ia = 0 && foldless it then some (elt, tg, it, ifs, scope) else none
  | _ => none
def shRng (o : Oks) (sc : Scope) : Expr → Option (List Expr)
  | .Call (.Name x _) [a] [] _ => if decide (x = "range") && isBt o sc "range" && noStar a then some [a] else none
  | .Call (.Name x _) [a, b] [] _ => if decide (x = "range") && isBt o sc "range" && noStar a && noStar b then some [a, b] else none
  | _ => none
def isLoc (c : CK) (x : Str) : Bool := match c.sc.names.lookup x with | some .local => true | some .cell => c.fnn | _ => false
def chkT1 (c : CK) (i : Nat) : Expr → Bool
  | .Name x _ => decide (c.N[i]? = some x) && isLoc c x
  | _ => false
def chkTN (c : CK) : List Nat → List Expr → Bool
  | [], [] => true
  | i :: is, x :: xs => chkT1 c i x && chkTN c is xs
  | _, _ => false
def chkTg (c : CK) : Tg → Expr → Bool
  | .one i, x => chkT1 c i x
  | .tup is, .Tuple xs _ _ => chkTN c is xs
  | _, _ => false
def blkB (c : CK) (g : Tg) (scope : Scope) : Bool := blkC c.N c.sc scope ((slotsOf g).map fun i => (c.N.getD i "", i)) && decide ((slotsOf g).Nodup)

mutual
def chkE (nm : Nm) (o : Oks) (ar : Nat → Nat) : CK → IE → Expr → Bool
  | c, .var i, ex => chkV c i ex
  | c, .lit d, ex => shLit d ex
  | c, .con n, ex => shCon nm o c n ex
  | c, .op q es, ex => match opShape o c.sc q ex with
    | some xs => slOk q es && chkEs nm o ar c es xs
    | none => false
  | c, .and a b, ex => match shBool .And ex with
    | some (x, y, r, p) => chkE nm o ar c a x && (match r with | [] => testy y && chkE nm o ar c b y | z :: r => chkE nm o ar c b (.BoolOp .And (y :: z :: r) p))
    | none => false
  | c, .or a b, ex => match shBool .Or ex with
    | some (x, y, r, p) => chkE nm o ar c a x && (match r with | [] => testy y && chkE nm o ar c b y | z :: r => chkE nm o ar c b (.BoolOp .Or (y :: z :: r) p))
    | none => false
  | c, .ite t a b, ex => match shIf ex with
    | some (x, y, z) => chkE nm o ar c t x && chkE nm o ar c a y && chkE nm o ar c b z
    | none => false
  | c, .tup es, ex => match shTup ex with
    | some xs => decide (es.length ≤ 1000) && chkEs nm o ar c es xs
    | none => false
  | c, .lst es, ex => match shLst ex with
    | some xs => decide (es.length ≤ 1000) && chkEs nm o ar c es xs
    | none => false
  | c, .dct [], ex => shDct ex
  | c, .dct (i :: es), ex => match shDisp ex with
    | some (xs, _) => decide ((i :: es).length ≤ 30) && decide ((i :: es).length = xs.length) && chkEs nm o ar c (i :: es) xs
    | none => false
  | c, .dcT, ex => shDct ex
  | c, .dcL, ex => shDct ex
  | c, .fld cl ie f, ex => match shFld nm o cl f ex with
    | some ob => chkE nm o ar c ie ob
    | none => false
  | c, .call f es, ex => match shFn nm o c f ex with
    | some xs => decide (es.length = ar f) && chkEs nm o ar c es xs
    | none => false
  | c, .meth f ie es, ex => match shMe nm o f ex with
    | some (ob, xs) => decide (es.length + 1 = ar f) && chkE nm o ar c ie ob && chkEs nm o ar c es xs
    | none => false
  | c, .make cl f es, ex => match shMk nm o c cl f ex with
    | some xs => decide (es.length + 1 = ar f) && chkEs nm o ar c es xs
    | none => false
  | c, .pop i [], ex => match shPop ex with
    | some (ob, []) => chkV c i ob
    | _ => false
  | c, .pop i [a], ex => match shPop ex with
    | some (ob, [x]) => chkV c i ob && chkE nm o ar c a x
    | _ => false
  | c, .pop _ _, ex => false
  | c, .cRng elt i es ifs, ex => match shComp ex with
    | some (elt', tg, it, ifs', scope) => blkB c (.one i) scope && chkTg (ckB c scope) (.one i) tg && decide (ifs.length ≤ 1) && (match shRng o c.sc it with
      | some xs => chkEs nm o ar c es xs
      | none => false) && ifs'.all testy && chkEs nm o ar (ckB c scope) ifs ifs' && chkE nm o ar (ckB c scope) elt elt'
    | none => false
  | c, .cSeq elt g ie ifs, ex => match shComp ex with
    | some (elt', tg, it, ifs', scope) => blkB c g scope && chkTg (ckB c scope) g tg && decide (ifs.length ≤ 1) && chkE nm o ar c ie it && ifs'.all testy && chkEs nm o ar (ckB c scope) ifs ifs' && chkE nm o ar (ckB c scope) elt elt'
    | none => false
  | c, .cRev elt g ie ifs, ex => match shComp ex with
    | some (elt', tg, it, ifs', scope) => blkB c g scope && chkTg (ckB c scope) g tg && decide (ifs.length ≤ 1) && (match shRevL o c.sc it with
      | some x => chkE nm o ar c ie x
      | none => false) && ifs'.all testy && chkEs nm o ar (ckB c scope) ifs ifs' && chkE nm o ar (ckB c scope) elt elt'
    | none => false
  | c, .callM f i es, ex => match shFn nm o c f ex with
    | some xs => decide (es.length + 1 = ar f) && chkEs nm o ar c es xs.dropLast && (match xs.getLast? with | some x => chkV c i x | none => false)
    | none => false
  | c, .fstr _, ex => false
def chkEs (nm : Nm) (o : Oks) (ar : Nat → Nat) : CK → List IE → List Expr → Bool
  | c, [], xs => xs.isEmpty
  | c, ie :: es, xs => match xs with
    | [] => false
    | x :: xs => chkE nm o ar c ie x && chkEs nm o ar c es xs
end
end TL

namespace TL
open PySem PySem.Spec PyProof.Rows L2

section
variable {L : LC} {σ : L2.St} {H : Hp} {fe f : List Addr} {G : AP} {ρ : List D}
theorem Rv_in (fe f : List Addr) (G : AP) : Rv fe [] (fun a => a ∈ f ∨ G a) = Rv fe f G := by
  have := Rv_hide fe f [] G
  rw [List.append_nil] at this
  exact this
/-- a slot's value is taken out -/
theorem SR.take {i : Nat} {d : D} (s : SR L ρ σ H fe [] G) (e : ρ[i]? = some d) (n : isLck d = false) :
    ∃ v f fe2, σ[i]? = some (some v) ∧ SR L (ρ.set i .und) σ H fe2 f G ∧ Rep L H (Rv fe2 f G) d v f ∧ Stp H fe [] G H fe2 f ∧ (∀ a, Rv fe2 f G a → Rv fe [] G a) := by
  obtain ⟨o, l, f, r, e1, rfl, q0, go⟩ := s.env.focus e
  obtain ⟨v, rfl, q⟩ := q0.rep n
  have hlen : i < σ.length := by
    rcases Nat.lt_or_ge i σ.length with h | h
    · exact h
    · rw [List.getElem?_eq_none h] at e1; cases e1
  obtain ⟨n1, n2, n3⟩ := List.nodup_append.mp s.nd
  obtain ⟨m1, m2, m3⟩ := List.nodup_append.mp n1
  obtain ⟨k1, k2, k3⟩ := List.nodup_append.mp m2
  have sub : ∀ a, Rv (l ++ r) f G a → Rv (l ++ (f ++ r)) [] G a := fun a q => by
    rcases q with q | q | q
    · rcases List.mem_append.mp q with q | q
      · exact .inl (List.mem_append_left _ q)
      · exact .inl (List.mem_append_right _ (List.mem_append_right _ q))
    · exact .inl (List.mem_append_right _ (List.mem_append_left _ q))
    · exact .inr (.inr q)
  have fr : Frz H (Rv (l ++ (f ++ r)) [] G) H (Rv (l ++ r) f G) := Frz.sub sub
  have g := go H (Rv (l ++ r) f G) .und (some v) [] fr (fun _ _ _ e => e) rfl
  have es : σ.set i (some v) = σ := by
    apply List.ext_getElem?
    intro j
    by_cases hj : i = j
    · subst hj
      rw [List.getElem?_set_self hlen, e1]
    · rw [List.getElem?_set_ne hj]
  rw [es, List.nil_append] at g
  refine ⟨v, f, l ++ r, e1, ⟨g, ?_, fun a m => ?_, fun a q => s.dm a (sub a q)⟩, q.step fr fun _ _ _ e => e, ⟨fr, fun _ _ _ e => e⟩, sub⟩
  · refine List.nodup_append.mpr ⟨List.nodup_append.mpr ⟨m1, k2, fun a q b q' e => m3 a q b (List.mem_append_right _ q') e⟩, k1, fun a q b q' e => ?_⟩
    rcases List.mem_append.mp q with q | q
    · exact m3 a q b (List.mem_append_left _ q') e
    · exact k3 b q' a q e.symm
  · refine s.dj a (.inl ?_)
    rcases m with m | m
    · rcases List.mem_append.mp m with m | m
      · exact List.mem_append_left _ m
      · exact List.mem_append_right _ (List.mem_append_right _ m)
    · exact List.mem_append_right _ (List.mem_append_left _ m)
theorem EnvR.snoc {T : AP} {d : D} {v : V} {f : List Addr} (r : Rep L H T d v f) : ∀ {ds : List D} {vs : List V}, Fzs L H T ds vs → EnvR L H T (ds ++ [d]) ((vs ++ [v]).map some) f
  | [], _, h => by
    unfold Fzs at h
    rw [h]
    exact ⟨some v, [], f, [], rfl, (List.append_nil f).symm, SlotR.mk r, rfl, rfl⟩
  | d' :: ds, _, h => by
    unfold Fzs at h
    obtain ⟨v', r', rfl, h1, h2⟩ := h
    exact ⟨some v', (r' ++ [v]).map some, [], f, rfl, rfl, SlotR.mk (Rep.of_fz h1), EnvR.snoc r h2⟩
theorem give_und {i : Nat} : ∀ (es : List IE) (ρ : List D), ρ[i]? = some .und → (give es ρ)[i]? = some .und
  | [], _, h => h
  | ie :: es, ρ, h => by
    by_cases hv : ∃ j, ie = .var j
    · obtain ⟨j, rfl⟩ := hv
      show (give es (match ρ[j]? with | some d => if isOwn d then ρ.set j (frz d) else ρ | none => ρ))[i]? = some .und
      refine give_und es _ ?_
      split
      · rename_i d hd
        split
        · rename_i ow
          by_cases z : j = i
          · subst z
            rw [h] at hd
            cases hd
            cases ow
          · rw [List.getElem?_set_ne z]; exact h
        · exact h
      · exact h
    · have : give (ie :: es) ρ = give es ρ := by
        cases ie <;> first | rfl | exact absurd ⟨_, rfl⟩ hv
      rw [this]
      exact give_und es ρ h
end
section
variable {e : Pm} {X : Cx} {W : WX} {c : CK} {lv : Nat} {σ : L2.St} {H : Hp} {fe : List Addr} {G : AP} {ρ : List D} {ea : Expr} {args : List Expr} {pos p : Pos} {es : List IE} {o' : Oks}
theorem tAs_snoc {i : Nat} : ∀ {es : List IE} {σ : L2.St} {H : Hp} {Q : List V → Hp → Prop}, tAs e X W es σ H (fun vs H1 => ∃ v, σ[i]? = some (some v) ∧ Q (vs ++ [v]) H1) → tAs e X W (es ++ [.var i]) σ H Q
  | [], σ, H, Q, h => by
    obtain ⟨v, e1, q⟩ := h
    exact ⟨v, e1, q⟩
  | ie :: es, σ, H, Q, h => tO_mono h fun x H1 q => tAs_snoc q
/-- what a call that changes its last argument leaves -/
theorem after_mut {L : LC} {H1 H' : Hp} {fe1 feg f fe' f' : List Addr} {ρg : List D} {i : Nat} {m : D} {v : V} (t1 : Stp H1 fe1 [] G H1 feg f) (sg : SR L ρg σ H1 feg f G) (hi : ρg[i]? = some .und) (ei : σ[i]? = some (some v))
    (s' : SR L [m] [some v] H' fe' f' (Rv feg [] G)) (t' : Stp H1 f [] (Rv feg [] G) H' fe' f') :
    ∃ fe2, SR L (ρg.set i m) σ H' fe2 f' G ∧ (∀ a, Rv fe2 f' G a ↔ Rv fe' f' (Rv feg [] G) a) ∧ Stp H1 fe1 [] G H' fe2 f' := by
  obtain ⟨o, l, f0, r, e1, ef, q0, go⟩ := sg.env.focus hi
  have e0 : f0 = [] := q0
  subst e0
  rw [List.nil_append] at ef
  subst ef
  have hlen : i < σ.length := by
    rcases Nat.lt_or_ge i σ.length with h | h
    · exact h
    · rw [List.getElem?_eq_none h] at ei; cases ei
  have es : σ.set i (some v) = σ := by
    apply List.ext_getElem?
    intro j
    by_cases hj : i = j
    · subst hj
      rw [List.getElem?_set_self hlen, ei]
    · rw [List.getElem?_set_ne hj]
  have eqT : ∀ a, Rv (l ++ (fe' ++ r)) f' G a ↔ Rv fe' f' (Rv (l ++ r) [] G) a := fun a => by
    unfold Rv
    simp only [List.mem_append, List.not_mem_nil, false_or]
    constructor
    · rintro ((h | h | h) | h | h)
      · exact .inr (.inr (.inl (.inl h)))
      · exact .inl h
      · exact .inr (.inr (.inl (.inr h)))
      · exact .inr (.inl h)
      · exact .inr (.inr (.inr h))
    · rintro (h | h | (h | h) | h)
      · exact .inl (.inr (.inl h))
      · exact .inr (.inl h)
      · exact .inl (.inl h)
      · exact .inl (.inr (.inr h))
      · exact .inr (.inr h)
  have eqS : ∀ a, Rv f [] (Rv (l ++ r) [] G) a ↔ Rv (l ++ r) f G a := fun a => by
    unfold Rv
    simp only [List.not_mem_nil, false_or]
    constructor
    · rintro (h | h | h)
      · exact .inr (.inl h)
      · exact .inl h
      · exact .inr (.inr h)
    · rintro (h | h | h)
      · exact .inr (.inl h)
      · exact .inl h
      · exact .inr (.inr h)
  have fr : Frz H1 (Rv (l ++ r) f G) H' (Rv (l ++ (fe' ++ r)) f' G) := fun a o n q => by
    obtain ⟨q1, q2⟩ := t'.fr a o (fun z => n ((eqS a).mp z)) q
    exact ⟨q1, fun z => q2 ((eqT a).mp z)⟩
  have kp : ∀ a u, a ∈ l ∨ a ∈ r → H1 a = some u → H' a = some u := fun a u m q => t'.kg a u (.inl (by
    rcases m with m | m
    · exact List.mem_append_left _ m
    · exact List.mem_append_right _ m)) q
  have sm : SlotR L H' (Rv (l ++ (fe' ++ r)) f' G) m (some v) fe' := by
    obtain ⟨o2, σ2, f2, fe2, e2, e3, q2, e4, e5⟩ := s'.env
    cases e2
    subst e5
    rw [List.append_nil] at e3
    subst e3
    exact q2.step (Frz.sub fun a z => (eqT a).mp z) fun _ _ _ z => z
  have g := go H' (Rv (l ++ (fe' ++ r)) f' G) m (some v) fe' fr kp sm
  rw [es] at g
  refine ⟨l ++ (fe' ++ r), ⟨g, ?_, fun a z => ?_, fun a z => s'.dm a ((eqT a).mp z)⟩, eqT, ?_⟩
  · obtain ⟨n1, n2, n3⟩ := List.nodup_append.mp s'.nd
    obtain ⟨m1, m2, m3⟩ := List.nodup_append.mp (List.nodup_append.mp sg.nd).1
    have nf : ∀ a, a ∈ fe' ∨ a ∈ f' → a ∉ l ∧ a ∉ r := fun a z => ⟨fun y => s'.dj a z (.inl (List.mem_append_left _ y)), fun y => s'.dj a z (.inl (List.mem_append_right _ y))⟩
    refine List.nodup_append.mpr ⟨List.nodup_append.mpr ⟨m1, List.nodup_append.mpr ⟨n1, m2, fun a x b y z => (nf a (.inl x)).2 (by rw [z]; exact y)⟩, fun a x b y z => ?_⟩, n2, fun a x b y z => ?_⟩
    · rcases List.mem_append.mp y with y | y
      · exact (nf b (.inl y)).1 (by rw [← z]; exact x)
      · exact m3 a x b y z
    · rcases List.mem_append.mp x with x | x
      · exact (nf b (.inr y)).1 (by rw [← z]; exact x)
      · rcases List.mem_append.mp x with x | x
        · exact n3 a x b y z
        · exact (nf b (.inr y)).2 (by rw [← z]; exact x)
  · rcases z with z | z
    · rcases List.mem_append.mp z with z | z
      · exact sg.dj a (.inl (List.mem_append_left _ z))
      · rcases List.mem_append.mp z with z | z
        · exact fun g => s'.dj a (.inl z) (.inr (.inr g))
        · exact sg.dj a (.inl (List.mem_append_right _ z))
    · exact fun g => s'.dj a (.inr z) (.inr (.inr g))
  · exact t1.trans ⟨fr, fun a o g q => t'.kg a o (.inr (.inr g)) q⟩
theorem argA_sub {L : LC} {T T' : AP} (st : Frz H T H T') : ∀ (es : List IE) (ds : List D) (vs : List V), ArgA L H T σ es ds vs → ArgA L H T' σ es ds vs
  | [], _, _, h => h
  | ie :: es, _, _, h => by
    unfold ArgA at h ⊢
    obtain ⟨d, r, v', vs2, q1, q2, q3, q4⟩ := h
    refine ⟨d, r, v', vs2, q1, q2, argA_sub st es r vs2 q3, ?_⟩
    split at q4
    · exact q4
    · exact q4.step st
theorem callM_meets {L : LC} (hL : L = e.L X.K) {H1 : Hp} {fe1 : List Addr} {ρ1 : List D} {ds : List D} {vs : List V} {f i : Nat} {Q : VK} {d0 : D} (n : Nat) (hn : vs.length + 1 = n)
    (s1 : SR L ρ1 σ H1 fe1 [] G) (t1 : Stp H fe [] G H1 fe1 []) (r1 : ArgA L H1 (Rv fe1 [] G) σ es ds vs) (hd : ρ1[i]? = some d0) (nl0 : isLck d0 = false)
    (h : EndE e X W σ H fe G (calledM e.T f i (lent es ds (ρ1.set i .und)) (ρ1.getD i .und) (give es (ρ1.set i .und))) Q) :
    ∃ v, σ[i]? = some (some v) ∧ spM L e.xa (e.T.muts f) n (e.T.F f) (vs ++ [v]) H1 Q (WE W σ) := by
  subst hL
  have hg : ρ1.getD i .und = d0 := by rw [List.getD_eq_getElem?_getD, hd]; rfl
  rw [hg] at h
  have hil : i < ρ1.length := by
    rcases Nat.lt_or_ge i ρ1.length with h | h
    · exact h
    · rw [List.getElem?_eq_none h] at hd; cases hd
  obtain ⟨v, f0, fe2, ei, s2, rp, t2, sub2⟩ := s1.take hd nl0
  obtain ⟨feg, sg, tg, subg, kk⟩ := give_ok es _ fe2 s2.hide
  have nd0 : f0.Nodup := (List.nodup_append.mp s2.nd).2.1
  have dj0 : ∀ a ∈ f0, ¬ G a := fun a m => s2.dj a (.inr m)
  have sg' := sg.unhide nd0 dj0
  rw [List.append_nil] at sg'
  have tg' := Stp.hide tg
  rw [List.append_nil] at tg'
  refine ⟨v, ei, ?_⟩
  unfold calledM at h
  split at h
  · exact h.elim
  rename_i hb
  simp only [Bool.or_eq_true, not_or, decide_eq_true_eq] at hb
  obtain ⟨⟨nl, _⟩, hm⟩ := hb
  have nl : (lent es ds (ρ1.set i .und)).any isLck = false := Bool.eq_false_iff.mpr nl
  have r2 : ArgA (e.L X.K) H1 (Rv fe2 [] (fun a => a ∈ f0 ∨ G a)) σ es ds vs := by
    rw [Rv_in]
    exact argA_sub (Frz.sub sub2) es ds vs r1
  have zz : Fzs (e.L X.K) H1 (Rv feg f0 G) (lent es ds (ρ1.set i .und)) vs := by
    have := lent_ok tg.fr r2 kk nl
    rw [Rv_in] at this
    exact this
  have hl : (lent es ds (ρ1.set i .und)).length = vs.length := zz.len.symm
  have hmut : e.T.muts f = [vs.length] := by
    have : e.T.muts f = [(lent es ds (ρ1.set i .und)).length] := Decidable.not_not.mp hm
    rw [this, hl]
  have eqS : ∀ a, Rv f0 [] (Rv feg [] G) a ↔ Rv feg f0 G a := fun a => by
    unfold Rv
    simp only [List.not_mem_nil, false_or]
    constructor
    · rintro (h | h | h)
      · exact .inr (.inl h)
      · exact .inl h
      · exact .inr (.inr h)
    · rintro (h | h | h)
      · exact .inr (.inl h)
      · exact .inl h
      · exact .inr (.inr h)
  have eqT : Rv f0 [] (Rv feg [] G) = Rv feg f0 G := funext fun a => propext (eqS a)
  refine ⟨by rw [List.length_append]; exact hn, lent es ds (ρ1.set i .und) ++ [d0], f0, Rv feg [] G, ⟨?_, ?_, fun a m => ?_, fun a m => sg'.dm a (by rw [← eqT]; exact m)⟩, ?_, ?_⟩
  · rw [eqT]
    exact EnvR.snoc (rp.step tg'.fr fun _ _ _ z => z) zz
  · rw [List.append_nil]; exact nd0
  · rcases m with m | m
    · rintro (q | q | q)
      · exact (List.nodup_append.mp sg'.nd).2.2 a q a m rfl
      · cases q
      · exact dj0 a m q
    · cases m
  · rw [List.all_append, fzs_lck zz, List.all_cons, nl0]
    rfl
  have pk : pickV (e.T.muts f) (vs ++ [v]) = [some v] := by
    rw [hmut]
    show [(vs ++ [v])[vs.length]?] = [some v]
    simp
  rw [pk]
  have hi2 : (give es (ρ1.set i .und))[i]? = some .und := give_und es _ (List.getElem?_set_self hil)
  have t12 := t1.trans (t2.trans tg')
  cases q : e.T.F f (lent es ds (ρ1.set i .und) ++ [d0]) with
  | stuck => rw [q] at h; exact h.elim
  | ok ms r =>
    rw [q] at h
    match ms, h with
    | [m], h =>
      intro v' H' fe' f' s' rp' t'
      obtain ⟨fe3, s3, eq3, t3⟩ := after_mut (t2.trans tg') sg' hi2 ei s' t'
      have eq4 : Rv fe3 f' G = Rv fe' f' (Rv feg [] G) := funext fun a => propext (eq3 a)
      exact h v' H' fe3 f' s3 (by rw [eq4]; exact rp') (t1.trans t3)
    | [], h => exact h.elim
    | _ :: _ :: _, h => exact h.elim
  | exn x ms =>
    rw [q] at h
    match ms, h with
    | [m], h =>
      intro H' fe' s' t'
      obtain ⟨fe3, s3, eq3, t3⟩ := after_mut (t2.trans tg') sg' hi2 ei s' t'
      exact h H' fe3 s3 (t1.trans t3)
    | [], h => exact h.elim
    | _ :: _ :: _, h => exact h.elim
theorem pE_callM {f i : Nat} (g : GX X W c lv) (lk : Lnk X.prog X.w X.K X.mg X.base e o' lv) (hf : o'.fn f = true) (hg : Gl X (e.nm.fn f)) (h2 : (ea :: args).all noStar = true) (hl : es.length + 1 = e.ar f) (ha : PA X (ea :: args) (tAs e X W (es ++ [.var i]))) :
    PE X (.Call (.Name (e.nm.fn f) p) (ea :: args) [] pos) (tE e X W (.callM f i es)) := by
  obtain ⟨nd, k, a, fd, ps, hm, F⟩ := lk.fn f hf
  rw [List.all_cons, Bool.and_eq_true] at h2
  refine PE.mk' fun σ H Q h => ⟨_, pe_callS F.ok (g.room.mono F.lv) hg hm F.kp F.bd g.pass ha (beq_eq_false_iff_ne.mpr nd) (starEach_of h2.1) (starEach_any h2.2), ?_⟩
  obtain ⟨ρ, fe, G, s, h⟩ := h
  refine tAs_snoc (evA_ok es ρ H fe _ s ?_)
  unfold evE at h
  split at h
  · exact h.elim
  cases q : evA e.T es ρ with
  | stuck => rw [q] at h; exact h
  | exn x ρ1 => rw [q] at h; exact h
  | ok ρ1 ds =>
    rw [q] at h
    intro vs H1 fe1 s1 r1 t1
    dsimp only at h
    have nl0 : isLck (ρ1.getD i .und) = false := by
      have h' := h
      unfold calledM at h'
      split at h'
      · exact h'.elim
      · rename_i hb
        simp only [Bool.or_eq_true, not_or] at hb
        exact Bool.eq_false_iff.mpr hb.1.2
    obtain ⟨d0, hd, hgd, nl⟩ := look_slot nl0
    obtain ⟨v, ei, sp⟩ := callM_meets (es := es) rfl ps.length (by rw [r1.len, hl, F.ar]) s1 t1 r1 hd nl h
    exact ⟨v, ei, sp⟩
end
end TL

namespace TL
open PySem PySem.Spec PyProof.Rows L2

section
variable {e : Pm} {X : Cx} {W : WX} {c : CK} {lv : Nat} {ex ea eb ec ob : Expr} {args xs : List Expr} {es : List IE} {ie : IE} {o : Oks} {nm : Nm} {i : Nat}

theorem chkV_ok (g : GX X W c lv) (h : chkV c i ex = true) : GdE e X W (.var i) ex := by
  unfold chkV at h
  split at h
  · rw [Bool.and_eq_true, Bool.and_eq_true, Bool.and_eq_true] at h
    obtain ⟨⟨⟨h1, h2⟩, h3⟩, h4⟩ := h
    exact gd_var (by rw [g.hN]; exact of_decide_eq_true h1) (isVis_of g h2) (beq_eq_false_iff_ne.mpr (of_decide_eq_true h3)) (beq_eq_false_iff_ne.mpr (of_decide_eq_true h4))
  · cases h
theorem shLit_ok {d : D} (h : shLit d ex = true) : GdE e X W (.lit d) ex := by
  unfold shLit at h
  split at h
  · exact gd_lit h
  · cases h
theorem shCon_ok {n : Nat} (g : GX X W c lv) (lk : Lnk X.prog X.w X.K X.mg X.base e o lv) (h : shCon e.nm o c n ex = true) : GdE e X W (.con n) ex := by
  unfold shCon at h
  split at h
  · rw [Bool.and_eq_true, Bool.and_eq_true] at h
    have h1 := of_decide_eq_true h.1.1
    subst h1
    exact gd_con lk h.1.2 (isGl_of g h.2)
  · cases h
theorem shBool_of {op : BoolOp} {x y : Expr} {r : List Expr} {p : Pos} (h : shBool op ex = some (x, y, r, p)) : ex = .BoolOp op (x :: y :: r) p ∧ testy x = true := by
  unfold shBool at h
  split at h
  · split at h
    · rename_i q
      rw [Bool.and_eq_true] at q
      have q1 := of_decide_eq_true q.1
      subst q1
      cases h
      exact ⟨rfl, q.2⟩
    · cases h
  · cases h
theorem shIf_of {x y z : Expr} (h : shIf ex = some (x, y, z)) : ∃ p, ex = .IfExp x y z p ∧ testy x = true := by
  unfold shIf at h
  split at h
  · split at h
    · rename_i q; cases h; exact ⟨_, rfl, q⟩
    · cases h
  · cases h
theorem shTup_of (h : shTup ex = some xs) : ∃ k p, ex = .Tuple xs k p ∧ xs.all noStar = true := by
  unfold shTup at h
  split at h
  · split at h
    · rename_i q; cases h; exact ⟨_, _, rfl, q⟩
    · cases h
  · cases h
theorem shLst_of (h : shLst ex = some xs) : ∃ p, ex = .List xs p ∧ xs.all noStar = true := by
  unfold shLst at h
  split at h
  · split at h
    · rename_i q; cases h; exact ⟨_, rfl, q⟩
    · cases h
  · cases h
theorem shDct_of (h : shDct ex = true) : ∃ p, ex = .Dict [] [] p := by
  unfold shDct at h
  split at h
  · exact ⟨_, rfl⟩
  · cases h
theorem shDisp_of {u : Unit} (h : shDisp ex = some (xs, u)) : ∃ ks vs p, ex = .Dict ks vs p ∧ alt ks vs = some xs := by
  unfold shDisp at h
  split at h
  · split at h
    · rename_i q
      cases h
      exact ⟨_, _, _, rfl, q⟩
    · cases h
  · cases h
theorem shRevL_of {sc : Scope} {a : Expr} (h : shRevL o sc ex = some a) : ∃ p pos, ex = .Call (.Name "reversed" p) [a] [] pos ∧ isBt o sc "reversed" = true ∧ noStar a = true := by
  unfold shRevL at h
  split at h
  · split at h
    · rename_i q
      rw [Bool.and_eq_true, Bool.and_eq_true] at q
      have q1 := of_decide_eq_true q.1.1
      subst q1
      cases h
      exact ⟨_, _, rfl, q.1.2, q.2⟩
    · cases h
  · cases h
theorem shFld_of {cl f : Nat} (h : shFld nm o cl f ex = some ob) : ∃ p, ex = .Attribute ob (nm.fd f) p ∧ o.fl cl f = true ∧ noSup ob = true := by
  unfold shFld at h
  split at h
  · split at h
    · rename_i q
      rw [Bool.and_eq_true, Bool.and_eq_true] at q
      have q1 := of_decide_eq_true q.1.1
      subst q1
      cases h
      exact ⟨_, rfl, q.1.2, q.2⟩
    · cases h
  · cases h
theorem shFn_of {f : Nat} (h : shFn nm o c f ex = some xs) : ∃ p a r pos, ex = .Call (.Name (nm.fn f) p) (a :: r) [] pos ∧ xs = a :: r ∧ o.fn f = true ∧ isGl c.sc (nm.fn f) = true ∧ (a :: r).all noStar = true := by
  unfold shFn at h
  split at h
  · split at h
    · rename_i q
      rw [Bool.and_eq_true, Bool.and_eq_true, Bool.and_eq_true] at q
      have q1 := of_decide_eq_true q.1.1.1
      subst q1
      cases h
      exact ⟨_, _, _, _, rfl, rfl, q.1.1.2, q.1.2, q.2⟩
    · cases h
  · cases h
theorem shMk_of {cl f : Nat} (h : shMk nm o c cl f ex = some xs) : ∃ p a r pos, ex = .Call (.Name (nm.cl cl) p) (a :: r) [] pos ∧ xs = a :: r ∧ o.mak cl f = true ∧ isGl c.sc (nm.cl cl) = true ∧ (a :: r).all noStar = true := by
  unfold shMk at h
  split at h
  · split at h
    · rename_i q
      rw [Bool.and_eq_true, Bool.and_eq_true, Bool.and_eq_true] at q
      have q1 := of_decide_eq_true q.1.1.1
      subst q1
      cases h
      exact ⟨_, _, _, _, rfl, rfl, q.1.1.2, q.1.2, q.2⟩
    · cases h
  · cases h
theorem shMe_of {f : Nat} (h : shMe nm o f ex = some (ob, xs)) : ∃ apos pos, ex = .Call (.Attribute ob (nm.me f).2 apos) xs [] pos ∧ o.me f = true ∧ noSup ob = true ∧ xs.all noStar = true ∧ xs.length < 29 ∧ (apos.endLine == pos.line) = true := by
  unfold shMe at h
  split at h
  · split at h
    · rename_i q
      rw [Bool.and_eq_true, Bool.and_eq_true, Bool.and_eq_true, Bool.and_eq_true, Bool.and_eq_true] at q
      have q1 := of_decide_eq_true q.1.1.1.1.1
      subst q1
      cases h
      exact ⟨_, _, rfl, q.1.1.1.1.2, q.1.1.1.2, q.1.1.2, of_decide_eq_true q.1.2, q.2⟩
    · cases h
  · cases h
theorem shPop_of (h : shPop ex = some (ob, xs)) : ∃ apos pos, ex = .Call (.Attribute ob "pop" apos) xs [] pos ∧ noSup ob = true ∧ xs.all noStar = true ∧ (apos.endLine == pos.line) = true := by
  unfold shPop at h
  split at h
  · split at h
    · rename_i q
      rw [Bool.and_eq_true, Bool.and_eq_true, Bool.and_eq_true] at q
      have q1 := of_decide_eq_true q.1.1.1
      subst q1
      cases h
      exact ⟨_, _, rfl, q.1.1.2, q.1.2, q.2⟩
    · cases h
  · cases h
theorem shComp_of {elt tg it : Expr} {ifs : List Expr} {scope : Scope} (h : shComp ex = some (elt, tg, it, ifs, scope)) : ∃ pos, ex = .ListComp elt [⟨tg, it, ifs, 0⟩] scope pos ∧ foldless it = true := by
  unfold shComp at h
  split at h
  · split at h
    · rename_i q
      rw [Bool.and_eq_true] at q
      have q1 := of_decide_eq_true q.1
      subst q1
      cases h
      exact ⟨_, rfl, q.2⟩
    · cases h
  · cases h
theorem path_ok (g : GX X W c lv) (lk : Lnk X.prog X.w X.K X.mg X.base e o lv) (h : chkE e.nm o e.ar c ie ex = true) (hp : isPath ie = true) : ∃ t, PE X ex t ∧ PathR e X ie t := by
  cases ie with
  | var i =>
    unfold chkE at h
    exact ⟨_, (chkV_ok (W := W) (e := e) g h).o, path_var⟩
  | fld cl ie f =>
    cases ie with
    | var i =>
      unfold chkE at h
      split at h
      · rename_i ob hs
        obtain ⟨p, rfl, h1, h2⟩ := shFld_of hs
        unfold chkE at h
        obtain ⟨hc, hn⟩ := lk.fl cl f h1
        exact ⟨_, pe_fld (chkV_ok (W := W) (e := e) g h).o (base_of h2), path_fld lk.inj hc hn⟩
      · cases h
    | _ => cases hp
  | _ => cases hp
/-- the loop's range -/
theorem shRng_ok {tg it : Expr} (g : GX X W c lv) (lk : Lnk X.prog X.w X.K X.mg X.base e o lv) (h : shRng o c.sc it = some xs) (hs : GdEs e X W es xs) : PI X tg it (iRngL (tAs e X W es)) := by
  unfold shRng at h
  split at h
  · split at h
    · rename_i q
      rw [Bool.and_eq_true, Bool.and_eq_true] at q
      have q1 := of_decide_eq_true q.1.1
      subst q1
      cases h
      obtain ⟨g1, m1⟩ := isBt_of g lk q.1.2
      obtain ⟨ia, rfl, ha⟩ := hs.one
      exact pi_rngL1 g1 m1 (hs.pa (by rw [List.all_cons, q.2]; rfl)) q.2
    · cases h
  · split at h
    · rename_i q
      rw [Bool.and_eq_true, Bool.and_eq_true, Bool.and_eq_true] at q
      have q1 := of_decide_eq_true q.1.1.1
      subst q1
      cases h
      obtain ⟨g1, m1⟩ := isBt_of g lk q.1.1.2
      obtain ⟨ia, ib, rfl, ha, hb⟩ := hs.two
      exact pi_rngL2 g1 m1 (hs.pa (by rw [List.all_cons, List.all_cons, q.1.2, q.2]; rfl)) q.1.2 q.2
    · cases h
  · cases h
/-! ### targets -/
theorem chkT1_ok (g : GX X W c lv) (h : chkT1 c i ex = true) : PG X ex (gName i) ∧ ∀ env, (assignEach (ex :: xs) env).map (·.2) = assign ex env :: (assignEach xs env).map (·.2) ∧ (assignEach (ex :: xs) env).findIdx? (·.1) = ((assignEach xs env).findIdx? (·.1)).map (· + 1) ∧ (assignEach (ex :: xs) env).length = (assignEach xs env).length + 1 := by
  unfold chkT1 at h
  split at h
  · rename_i x p
    rw [Bool.and_eq_true] at h
    have hl := h.2
    unfold isLoc at hl
    have hN : X.N[i]? = some x := by rw [g.hN]; exact of_decide_eq_true h.1
    have hL : (X.fn x = true ∨ X.env.scope.names.lookup x = some .local) ∧ L2.Loc X.env.scope x := by
      unfold L2.Loc
      rw [g.sc]
      split at hl
      · rename_i q; exact ⟨.inr q, .inl q⟩
      · rename_i q; exact ⟨.inl (g.fnn hl x), .inr q⟩
      · cases hl
    refine ⟨pg_name (by rw [g.hN]; exact g.nd) hN hL.2 hL.1, fun env => ⟨rfl, ?_, rfl⟩⟩
    show (((false, assign (.Name x p) env) :: assignEach xs env).findIdx? (·.1)) = _
    rw [List.findIdx?_cons]
    rfl
  · cases h
theorem chkTN_ok (g : GX X W c lv) : ∀ {is : List Nat} {xs : List Expr}, chkTN c is xs = true → PGs X xs (gNs is) ∧ (assignEach xs X.env).findIdx? (·.1) = none ∧ (assignEach xs X.env).length = is.length
  | [], [], _ => ⟨pgs_nil, rfl, rfl⟩
  | i :: is, x :: xs, h => by
    unfold chkTN at h
    rw [Bool.and_eq_true] at h
    obtain ⟨h1, h2⟩ := chkT1_ok (xs := xs) g h.1
    obtain ⟨k1, k2, k3⟩ := chkTN_ok g h.2
    obtain ⟨q1, q2, q3⟩ := h2 X.env
    refine ⟨pgs_cons h1 k1 q1, by rw [q2, k2]; rfl, by rw [q3, k3]; rfl⟩
  | [], _ :: _, h => by unfold chkTN at h; cases h
  | _ :: _, [], h => by unfold chkTN at h; cases h
theorem chkTg_ok {gt : Tg} (g : GX X W c lv) (h : chkTg c gt ex = true) : PG X ex (gOf X.K gt) := by
  unfold chkTg at h
  split at h
  · exact (chkT1_ok (xs := []) g h).1
  · obtain ⟨k1, k2, k3⟩ := chkTN_ok g h
    exact pg_tup g.calm k1 k3 k2
  · cases h
end
end TL

namespace TL
open PySem PySem.Spec PyProof.Rows L2

section
variable {e : Pm} {lv : Nat} {o : Oks}
theorem nvE {ie : IE} (h : ∀ i, ie ≠ .var i) : ¬ ∃ i, ie = .var i := fun ⟨i, q⟩ => h i q
theorem blk_of {X : Cx} {W : WX} {c : CK} {gt : Tg} {elt : IE} {ifs : List IE} {scope : Scope} {tg elt' : Expr} {ifs' : List Expr} (g : GX X W c lv)
    (hb : blkB c gt scope = true) (ht : chkTg (ckB c scope) gt tg = true) (hn : ifs'.all testy = true) (hl : ifs.length ≤ 1)
    (h1 : ∀ (X : Cx), GX X WF (ckB c scope) lv → X.prog = X.prog → GdEs e X WF ifs ifs' ∧ GdE e X WF elt elt' → True)
    (h2 : ∀ (s : Shared) (H : Hp) (C : Addr) (cl : List (Str × Addr)) (fp : List Addr), GdEs e (X.blk s H scope (compEnvC scope cl C X.env) fp) WF ifs ifs' ∧ GdE e (X.blk s H scope (compEnvC scope cl C X.env) fp) WF elt elt') : BlkE e X gt elt ifs scope tg elt' ifs' := by
  unfold blkB at hb
  rw [Bool.and_eq_true] at hb
  refine ⟨by rw [g.hN, g.sc]; exact blkOk_by hb.1, fun s H C cl fp => chkTg_ok g.blk ht, fun s H C cl fp => ?_, fun s H C cl fp => (h2 s H C cl fp).2.v⟩
  have q := (h2 s H C cl fp).1
  match ifs, ifs', q, hl, hn with
  | [], [], _, _, _ => exact pts_nil
  | [t], [x], q, _, hn =>
    rw [List.all_cons, Bool.and_eq_true] at hn
    exact pts_one (q.1.t hn.1)
  | [], _ :: _, q, _, _ => exact q.elim
  | _ :: _, [], q, _, _ => exact q.elim
theorem gdEs_snoc {X : Cx} {W : WX} {ie : IE} {x : Expr} : ∀ {es : List IE} {xs : List Expr}, GdEs e X W es xs → GdE e X W ie x → GdEs e X W (es ++ [ie]) (xs ++ [x])
  | [], [], _, h => ⟨h, trivial⟩
  | _ :: _, _ :: _, g, h => ⟨g.1, gdEs_snoc g.2 h⟩
  | [], _ :: _, g, _ => g.elim
  | _ :: _, [], g, _ => g.elim
mutual
/-- what the checker lets by is what the interpreter says -/
theorem chkE_ok : ∀ (ie : IE) (ex : Expr) (X : Cx) (W : WX) (c : CK), chkE e.nm o e.ar c ie ex = true → GX X W c lv → Lnk X.prog X.w X.K X.mg X.base e o lv → GdE e X W ie ex
  | .var i, ex, X, W, c, h, g, lk => chkV_ok g (by unfold chkE at h; exact h)
  | .lit d, ex, X, W, c, h, g, lk => shLit_ok (by unfold chkE at h; exact h)
  | .con n, ex, X, W, c, h, g, lk => shCon_ok g lk (by unfold chkE at h; exact h)
  | .op q es, ex, X, W, c, h, g, lk => by
    unfold chkE at h
    split at h
    · rename_i xs hs
      rw [Bool.and_eq_true] at h
      exact op_ok g lk hs h.1 (chkEs_ok es xs X W c h.2 g lk)
    · cases h
  | .and a b, ex, X, W, c, h, g, lk => by
    unfold chkE at h
    split at h
    · rename_i x y r p hs
      obtain ⟨rfl, hx⟩ := shBool_of hs
      rw [Bool.and_eq_true] at h
      obtain ⟨h1, h2⟩ := h
      have ga := chkE_ok a x X W c h1 g lk
      split at h2
      · rw [Bool.and_eq_true] at h2
        have gb := chkE_ok b y X W c h2.2 g lk
        exact gd_and ga hx (pe_one gb.v) (pw_last gb h2.1)
      · have gb := chkE_ok b _ X W c h2 g lk
        exact gd_and ga hx gb.v (gb.w rfl)
    · cases h
  | .or a b, ex, X, W, c, h, g, lk => by
    unfold chkE at h
    split at h
    · rename_i x y r p hs
      obtain ⟨rfl, hx⟩ := shBool_of hs
      rw [Bool.and_eq_true] at h
      obtain ⟨h1, h2⟩ := h
      have ga := chkE_ok a x X W c h1 g lk
      split at h2
      · rw [Bool.and_eq_true] at h2
        have gb := chkE_ok b y X W c h2.2 g lk
        exact gd_or ga hx (pe_one gb.v) (pw_last gb h2.1)
      · have gb := chkE_ok b _ X W c h2 g lk
        exact gd_or ga hx gb.v (gb.w rfl)
    · cases h
  | .ite t a b, ex, X, W, c, h, g, lk => by
    unfold chkE at h
    split at h
    · rename_i x y z hs
      obtain ⟨p, rfl, hx⟩ := shIf_of hs
      rw [Bool.and_eq_true, Bool.and_eq_true] at h
      exact gd_ite (chkE_ok t x X W c h.1.1 g lk) hx (chkE_ok a y X W c h.1.2 g lk) (chkE_ok b z X W c h.2 g lk)
    · cases h
  | .tup es, ex, X, W, c, h, g, lk => by
    unfold chkE at h
    split at h
    · rename_i xs hs
      obtain ⟨k, p, rfl, hn⟩ := shTup_of hs
      rw [Bool.and_eq_true] at h
      exact gd_tup (of_decide_eq_true h.1) ((chkEs_ok es xs X W c h.2 g lk).pi hn)
    · cases h
  | .lst es, ex, X, W, c, h, g, lk => by
    unfold chkE at h
    split at h
    · rename_i xs hs
      obtain ⟨p, rfl, hn⟩ := shLst_of hs
      rw [Bool.and_eq_true] at h
      exact gd_lst (of_decide_eq_true h.1) ((chkEs_ok es xs X W c h.2 g lk).pi hn)
    · cases h
  | .dct es, ex, X, W, c, h, g, lk => by
    cases es with
    | nil =>
      unfold chkE at h
      obtain ⟨p, rfl⟩ := shDct_of h
      exact gd_dct
    | cons i es =>
      unfold chkE at h
      split at h
      · rename_i xs u hs
        obtain ⟨ks, vs, p, rfl, ha⟩ := shDisp_of hs
        rw [Bool.and_eq_true, Bool.and_eq_true] at h
        exact gd_dctN ha (chkEs_ok (i :: es) xs X W c h.2 g lk) (of_decide_eq_true h.1.1) (of_decide_eq_true h.1.2)
      · cases h
  | .dcL, ex, X, W, c, h, g, lk => by
    unfold chkE at h
    obtain ⟨p, rfl⟩ := shDct_of h
    exact gd_dcL
  | .callM f i es, ex, X, W, c, h, g, lk => by
    unfold chkE at h
    split at h
    · rename_i xs hs
      obtain ⟨p, a, r, pos, rfl, rfl, h1, h2, h3⟩ := shFn_of hs
      rw [Bool.and_eq_true, Bool.and_eq_true] at h
      have k1 := chkEs_ok es _ X W c h.1.2 g lk
      have k2 : GdEs e X W (es ++ [.var i]) (a :: r) := by
        have h4 := h.2
        split at h4
        · rename_i x hx
          have e1 : a :: r = (a :: r).dropLast ++ [x] := by
            obtain ⟨ys, hy⟩ := List.getLast?_eq_some_iff.mp hx
            rw [hy, List.dropLast_concat]
          rw [e1]
          exact gdEs_snoc k1 (chkV_ok g h4)
        · cases h4
      exact GdE.mk1 (nvE fun _ z => nomatch z) (pE_callM g lk h1 (isGl_of g h2) h3 (of_decide_eq_true h.1.1) (k2.pa h3)) rfl
    · cases h
  | .cRev elt gt ie ifs, ex, X, W, c, h, g, lk => by
    unfold chkE at h
    split at h
    · rename_i elt' tg it ifs' scope hs
      obtain ⟨pos, rfl, hf⟩ := shComp_of hs
      rw [Bool.and_eq_true, Bool.and_eq_true, Bool.and_eq_true, Bool.and_eq_true, Bool.and_eq_true, Bool.and_eq_true] at h
      obtain ⟨⟨⟨⟨⟨⟨h1, h2⟩, h3⟩, h4⟩, h5⟩, h6⟩, h7⟩ := h
      split at h4
      · rename_i x hr
        obtain ⟨p, pos2, rfl, hb, ns⟩ := shRevL_of hr
        obtain ⟨g1, m1⟩ := isBt_of g lk hb
        have B := blk_of (e := e) g h1 h2 h5 (of_decide_eq_true h3) (fun _ _ _ _ => trivial) fun s H C cl fp => ⟨chkEs_ok ifs ifs' _ WF _ h6 g.blk lk, chkE_ok elt elt' _ WF _ h7 g.blk lk⟩
        have nd : (slotsOf gt).Nodup := by unfold blkB at h1; rw [Bool.and_eq_true] at h1; exact of_decide_eq_true h1.2
        exact gd_cRev g (of_decide_eq_true h3) nd B (chkE_ok ie x X W c h4 g lk) g1 m1 ns
      · cases h4
    · cases h
  | .dcT, ex, X, W, c, h, g, lk => by
    unfold chkE at h
    obtain ⟨p, rfl⟩ := shDct_of h
    exact gd_dcT
  | .fld cl ie f, ex, X, W, c, h, g, lk => by
    unfold chkE at h
    split at h
    · rename_i ob hs
      obtain ⟨p, rfl, h1, h2⟩ := shFld_of hs
      exact gd_fld lk h1 (chkE_ok ie ob X W c h g lk) h2
    · cases h
  | .call f es, ex, X, W, c, h, g, lk => by
    unfold chkE at h
    split at h
    · rename_i xs hs
      obtain ⟨p, a, r, pos, rfl, rfl, h1, h2, h3⟩ := shFn_of hs
      rw [Bool.and_eq_true] at h
      exact GdE.mk1 (nvE fun _ z => nomatch z) (pE_call g lk h1 (isGl_of g h2) h3 (of_decide_eq_true h.1) ((chkEs_ok es _ X W c h.2 g lk).pa h3)) rfl
    · cases h
  | .meth f ie es, ex, X, W, c, h, g, lk => by
    unfold chkE at h
    split at h
    · rename_i ob xs hs
      obtain ⟨apos, pos, rfl, h1, h2, h3, h4, h5⟩ := shMe_of hs
      rw [Bool.and_eq_true, Bool.and_eq_true] at h
      have go := chkE_ok ie ob X W c h.1.2 g lk
      have gs := chkEs_ok es xs X W c h.2 g lk
      cases xs with
      | nil =>
        have : es = [] := by cases es with | nil => rfl | cons _ _ => exact gs.elim
        subst this
        exact GdE.mk1 (nvE fun _ z => nomatch z) (pE_meth0 g lk h1 go.o h2 h5 (of_decide_eq_true h.1.1)) rfl
      | cons y ys => exact GdE.mk1 (nvE fun _ z => nomatch z) (pE_meth g lk h1 go.o (gs.pa h3) h2 h3 h4 h5 (of_decide_eq_true h.1.1)) rfl
    · cases h
  | .make cl f es, ex, X, W, c, h, g, lk => by
    unfold chkE at h
    split at h
    · rename_i xs hs
      obtain ⟨p, a, r, pos, rfl, rfl, h1, h2, h3⟩ := shMk_of hs
      rw [Bool.and_eq_true] at h
      exact GdE.mk1 (nvE fun _ z => nomatch z) (pE_make g lk h1 (isGl_of g h2) h3 (of_decide_eq_true h.1) ((chkEs_ok es _ X W c h.2 g lk).pa h3)) rfl
    · cases h
  | .pop i es, ex, X, W, c, h, g, lk => by
    match es with
    | [] =>
      unfold chkE at h
      split at h
      · rename_i ob hs
        obtain ⟨apos, pos, rfl, h1, h2, h3⟩ := shPop_of hs
        exact gd_pop0 (chkV_ok g h) h1 h3
      · cases h
    | [a] =>
      unfold chkE at h
      split at h
      · rename_i ob x hs
        obtain ⟨apos, pos, rfl, h1, h2, h3⟩ := shPop_of hs
        rw [Bool.and_eq_true] at h
        rw [List.all_cons, Bool.and_eq_true] at h2
        exact gd_pop1 (chkV_ok g h.1) (chkE_ok a x X W c h.2 g lk) h2.1 h1 h3
      · cases h
    | _ :: _ :: _ => unfold chkE at h; cases h
  | .cRng elt i es ifs, ex, X, W, c, h, g, lk => by
    unfold chkE at h
    split at h
    · rename_i elt' tg it ifs' scope hs
      obtain ⟨pos, rfl, hf⟩ := shComp_of hs
      rw [Bool.and_eq_true, Bool.and_eq_true, Bool.and_eq_true, Bool.and_eq_true, Bool.and_eq_true, Bool.and_eq_true] at h
      obtain ⟨⟨⟨⟨⟨⟨h1, h2⟩, h3⟩, h4⟩, h5⟩, h6⟩, h7⟩ := h
      split at h4
      · rename_i xs hr
        have B := blk_of (e := e) g h1 h2 h5 (of_decide_eq_true h3) (fun _ _ _ _ => trivial) fun s H C cl fp => ⟨chkEs_ok ifs ifs' _ WF _ h6 g.blk lk, chkE_ok elt elt' _ WF _ h7 g.blk lk⟩
        exact gd_cRng g (of_decide_eq_true h3) B (shRng_ok g lk hr (chkEs_ok es xs X W c h4 g lk)) hf
      · cases h4
    · cases h
  | .cSeq elt gt ie ifs, ex, X, W, c, h, g, lk => by
    unfold chkE at h
    split at h
    · rename_i elt' tg it ifs' scope hs
      obtain ⟨pos, rfl, hf⟩ := shComp_of hs
      rw [Bool.and_eq_true, Bool.and_eq_true, Bool.and_eq_true, Bool.and_eq_true, Bool.and_eq_true, Bool.and_eq_true] at h
      obtain ⟨⟨⟨⟨⟨⟨h1, h2⟩, h3⟩, h4⟩, h5⟩, h6⟩, h7⟩ := h
      have B := blk_of (e := e) g h1 h2 h5 (of_decide_eq_true h3) (fun _ _ _ _ => trivial) fun s H C cl fp => ⟨chkEs_ok ifs ifs' _ WF _ h6 g.blk lk, chkE_ok elt elt' _ WF _ h7 g.blk lk⟩
      have nd : (slotsOf gt).Nodup := by unfold blkB at h1; rw [Bool.and_eq_true] at h1; exact of_decide_eq_true h1.2
      exact gd_cSeq g (of_decide_eq_true h3) nd B (chkE_ok ie it X W c h4 g lk) (path_ok g lk h4) hf
    · cases h
  | .fstr _, ex, X, W, c, h, g, lk => by unfold chkE at h; cases h
theorem chkEs_ok : ∀ (es : List IE) (xs : List Expr) (X : Cx) (W : WX) (c : CK), chkEs e.nm o e.ar c es xs = true → GX X W c lv → Lnk X.prog X.w X.K X.mg X.base e o lv → GdEs e X W es xs
  | [], xs, X, W, c, h, g, lk => by
    unfold chkEs at h
    cases xs with
    | nil => exact trivial
    | cons _ _ => cases h
  | ie :: es, xs, X, W, c, h, g, lk => by
    unfold chkEs at h
    cases xs with
    | nil => cases h
    | cons x xs =>
      dsimp only at h
      rw [Bool.and_eq_true] at h
      exact ⟨chkE_ok ie x X W c h.1 g lk, chkEs_ok es xs X W c h.2 g lk⟩
end
end
end TL

namespace TL
open PySem PySem.Spec PyProof.Rows L2

/-- these slots hold what they held -/
def Same (C : List Nat) (σ σ' : L2.St) : Prop := ∀ i ∈ C, σ'[i]? = σ[i]?
theorem Same.refl {C : List Nat} {σ : L2.St} : Same C σ σ := fun _ _ => rfl
theorem Same.trans {C : List Nat} {σ σ1 σ2 : L2.St} (a : Same C σ σ1) (b : Same C σ1 σ2) : Same C σ σ2 := fun i m => (b i m).trans (a i m)
theorem Same.set {C : List Nat} {σ : L2.St} {i : Nat} {x : Option V} (h : C.contains i = false) : Same C σ (σ.set i x) := fun j m => by
  rw [List.getElem?_set_ne]
  rintro rfl
  have : C.contains i = true := List.contains_iff_mem.mpr m
  rw [h] at this
  cases this
section
variable (e : Pm) (X : Cx) (W : WX) (C : List Nat)
/-- what is wanted behind a statement -/
def EndO (D : Ends) (σ : L2.St) (H : Hp) (fe : List Addr) (G : AP) : Out → Prop
  | .nx ρ' => ∀ σ' H' fe', SR (e.L X.K) ρ' σ' H' fe' [] G → Stp H fe [] G H' fe' [] → Same C σ σ' → D.nx σ' H'
  | .rt ρ' d => ∀ v σ' H' fe' f', SR (e.L X.K) ρ' σ' H' fe' f' G → Rep (e.L X.K) H' (Rv fe' f' G) d v f' → Stp H fe [] G H' fe' f' → Same C σ σ' → D.rt v H'
  | .bk ρ' => ∀ σ' H' fe', SR (e.L X.K) ρ' σ' H' fe' [] G → Stp H fe [] G H' fe' [] → Same C σ σ' → D.bk σ' H'
  | .ct ρ' => ∀ σ' H' fe', SR (e.L X.K) ρ' σ' H' fe' [] G → Stp H fe [] G H' fe' [] → Same C σ σ' → D.ct σ' H'
  | .exn c ρ' => ∀ σ' H' fe', SR (e.L X.K) ρ' σ' H' fe' [] G → Stp H fe [] G H' fe' [] → Same C σ σ' → W (.ref (e.xa c)) none σ' H'
  | .stuck => False
def tS (is : IS) : TS := fun D σ H => ∃ ρ fe G, SR (e.L X.K) ρ σ H fe [] G ∧ EndO e X W C D σ H fe G (exec e.T C is ρ)
def tSs (is : List IS) : TS := fun D σ H => ∃ ρ fe G, SR (e.L X.K) ρ σ H fe [] G ∧ EndO e X W C D σ H fe G (execs e.T C is ρ)
end
section
variable {e : Pm} {X : Cx} {W : WX} {C : List Nat} {c : CK} {lv : Nat} {D : Ends} {σ σ1 : L2.St} {H H1 : Hp} {fe fe1 f : List Addr} {G : AP} {ρ : List TL.D} {o : Out} {ie t : IE} {ex : Expr} {pos : Pos} {o' : Oks}
theorem EndO.after (h : EndO e X W C D σ H fe G o) (t : Stp H fe [] G H1 fe1 []) (sm : Same C σ σ1) : EndO e X W C D σ1 H1 fe1 G o := by
  cases o with
  | nx ρ' => exact fun σ' H' fe' s t' m => h σ' H' fe' s (t.trans t') (sm.trans m)
  | rt ρ' d => exact fun v σ' H' fe' f' s r t' m => h v σ' H' fe' f' s r (t.trans t') (sm.trans m)
  | bk ρ' => exact fun σ' H' fe' s t' m => h σ' H' fe' s (t.trans t') (sm.trans m)
  | ct ρ' => exact fun σ' H' fe' s t' m => h σ' H' fe' s (t.trans t') (sm.trans m)
  | exn x ρ' => exact fun σ' H' fe' s t' m => h σ' H' fe' s (t.trans t') (sm.trans m)
  | stuck => exact h
theorem tS.fin (s : SR (e.L X.K) ρ σ H fe [] G) (h : EndO e X W C D σ H fe G (exec e.T C is ρ)) : tS e X W C is D σ H := ⟨ρ, fe, G, s, h⟩

/-! ### rows -/
theorem pss_nil_ok : PSs X [] (tSs e X W C []) := by
  refine ⟨fun pins s σ H D I h => pss_nil.run pins s σ H D I ?_⟩
  obtain ⟨ρ, fe, G, sr, h⟩ := h
  unfold execs at h
  exact h σ H fe sr Stp.refl Same.refl
theorem pss_cons_ok {st : Stmt} {rest : List Stmt} {i : IS} {is : List IS} (h1 : PS X st (tS e X W C i)) (h2 : PSs X rest (tSs e X W C is)) : PSs X (st :: rest) (tSs e X W C (i :: is)) := by
  refine ⟨fun pins s σ H D I h => (pss_cons h1 h2).run pins s σ H D I ?_⟩
  obtain ⟨ρ, fe, G, sr, h⟩ := h
  unfold execs at h
  refine ⟨ρ, fe, G, sr, ?_⟩
  cases q : exec e.T C i ρ with
  | nx ρ1 =>
    rw [q] at h
    exact fun σ1 H1 fe1 s1 t1 m1 => ⟨ρ1, fe1, G, s1, h.after t1 m1⟩
  | rt ρ1 d => rw [q] at h; exact h
  | bk ρ1 => rw [q] at h; exact h
  | ct ρ1 => rw [q] at h; exact h
  | exn x ρ1 => rw [q] at h; exact h
  | stuck => rw [q] at h; exact h

/-! ### the small ones -/
theorem pS_pass : PS X (.Pass pos) (tS e X W C .pass) := PS.mk' fun D σ H h => ⟨_, ps_pass, by
  obtain ⟨ρ, fe, G, s, h⟩ := h
  unfold exec at h
  exact h σ H fe s Stp.refl Same.refl⟩
theorem pS_brk : PS X (.Break pos) (tS e X W C .brk) := PS.mk' fun D σ H h => ⟨_, ps_break, by
  obtain ⟨ρ, fe, G, s, h⟩ := h
  unfold exec at h
  exact h σ H fe s Stp.refl Same.refl⟩
theorem pS_cnt : PS X (.Continue pos) (tS e X W C .cnt) := PS.mk' fun D σ H h => ⟨_, ps_continue, by
  obtain ⟨ρ, fe, G, s, h⟩ := h
  unfold exec at h
  exact h σ H fe s Stp.refl Same.refl⟩
theorem pS_doc {x : Str} {j : Nat} {p : Pos} : PS X (.Expr (.Constant (.str x) j p) pos) (tS e X W C .pass) := PS.mk' fun D σ H h => ⟨_, ps_doc, by
  obtain ⟨ρ, fe, G, s, h⟩ := h
  unfold exec at h
  exact h σ H fe s Stp.refl Same.refl⟩
theorem pS_retN : PS X (.Return none pos) (tS e X W C .retN) := PS.mk' fun D σ H h => ⟨_, ps_retN, by
  obtain ⟨ρ, fe, G, s, h⟩ := h
  unfold exec at h
  exact h .non σ H fe [] s (Rep.of_fz fz_non) Stp.refl Same.refl⟩
/-- what an expression in a statement gives -/
theorem by_expr {Q : VK} {k : List TL.D → TL.D → Out} (s : SR (e.L X.K) ρ σ H fe [] G) (h : EndO e X W C D σ H fe G (match evE e.T ie ρ with | .ok ρ1 d => k ρ1 d | .exn x ρ1 => .exn x ρ1 | .stuck => .stuck))
    (hk : ∀ ρ1 d v H1 fe1 f1, SR (e.L X.K) ρ1 σ H1 fe1 f1 G → Rep (e.L X.K) H1 (Rv fe1 f1 G) d v f1 → Stp H fe [] G H1 fe1 f1 → EndO e X W C D σ H fe G (k ρ1 d) → Q v H1) : tE e X W ie σ H Q := by
  refine ⟨ρ, fe, G, s, ?_⟩
  cases q : evE e.T ie ρ with
  | stuck => rw [q] at h; exact h
  | exn x ρ1 => rw [q] at h; exact fun H1 fe1 s1 t1 => h σ H1 fe1 s1 t1 Same.refl
  | ok ρ1 d => rw [q] at h; exact fun v H1 fe1 f1 s1 r1 t1 => hk ρ1 d v H1 fe1 f1 s1 r1 t1 h
theorem SR.keep {L : LC} {i : Nat} {d : TL.D} {v : V} (s : SR L ρ σ H fe f G) (q : Rep L H (Rv fe f G) d v f) : ∃ fe', SR L (ρ.set i d) (σ.set i (some v)) H fe' [] G ∧ Stp H fe f G H fe' [] := by
  cases z : ρ[i]? with
  | some d₀ => exact s.store z q
  | none =>
    rw [set_far z, set_far (s.far z)]
    exact ⟨fe, s.drop (fun _ m => nomatch m) List.nodup_nil, Stp.drop fun _ m => nomatch m⟩
/-- a name's object goes out -/
theorem SR.move {L : LC} {i : Nat} {d : TL.D} (s : SR L ρ σ H fe [] G) (e : ρ[i]? = some d) (n : isLck d = false) :
    ∃ v f' fe', σ[i]? = some (some v) ∧ SR L (ρ.set i .und) σ H fe' f' G ∧ Rep L H (Rv fe' f' G) d v f' ∧ Stp H fe [] G H fe' f' := by
  obtain ⟨o, l, f1, r, e1, rfl, q0, go⟩ := s.env.focus e
  obtain ⟨v, rfl, q⟩ := q0.rep n
  obtain ⟨n1, _, _⟩ := List.nodup_append.mp s.nd
  obtain ⟨m1, m2, m3⟩ := List.nodup_append.mp n1
  obtain ⟨k1, k2, k3⟩ := List.nodup_append.mp m2
  have sub : ∀ a, Rv (l ++ r) f1 G a → Rv (l ++ (f1 ++ r)) [] G a := fun a q => by
    rcases q with q | q | q
    · refine .inl ?_
      rcases List.mem_append.mp q with q | q
      · exact List.mem_append_left _ q
      · exact List.mem_append_right _ (List.mem_append_right _ q)
    · exact .inl (List.mem_append_right _ (List.mem_append_left _ q))
    · exact .inr (.inr q)
  have fr : Frz H (Rv (l ++ (f1 ++ r)) [] G) H (Rv (l ++ r) f1 G) := Frz.sub sub
  have hlen : i < σ.length := by
    rcases Nat.lt_or_ge i σ.length with h | h
    · exact h
    · rw [List.getElem?_eq_none h] at e1; cases e1
  have es : σ.set i (some v) = σ := List.ext_getElem? fun j => by
    by_cases hj : i = j
    · subst hj; rw [List.getElem?_set_self hlen, e1]
    · rw [List.getElem?_set_ne hj]
  have g := go H (Rv (l ++ r) f1 G) .und (some v) [] fr (fun _ _ _ e => e) rfl
  rw [es, List.nil_append] at g
  refine ⟨v, f1, l ++ r, e1, ⟨g, ?_, fun a q => ?_, fun a q => s.dm a (sub a q)⟩, q.step fr fun _ _ _ e => e, fr, fun _ _ _ e => e⟩
  · refine List.nodup_append.mpr ⟨List.nodup_append.mpr ⟨m1, k2, fun a q b q' e => m3 a q b (List.mem_append_right _ q') e⟩, k1, fun a q b q' e => ?_⟩
    rcases List.mem_append.mp q with q | q
    · exact m3 a q b (List.mem_append_left _ q') e
    · exact k3 b q' a q e.symm
  · refine s.dj a (.inl ?_)
    rcases q with q | q
    · rcases List.mem_append.mp q with q | q
      · exact List.mem_append_left _ q
      · exact List.mem_append_right _ (List.mem_append_right _ q)
    · exact List.mem_append_right _ (List.mem_append_left _ q)
theorem set_says {i : Nat} (h : tS e X W C (.set i ie) D σ H) : tAsg (tE e X W ie) (gName i) D σ H := by
  obtain ⟨ρ, fe, G, s, h⟩ := h
  unfold exec at h
  split at h
  · exact h.elim
  rename_i hc
  refine by_expr s h fun ρ1 d v H1 fe1 f1 s1 r1 t1 h => ?_
  split at h
  · exact h.elim
  obtain ⟨fe2, s2, t2⟩ := s1.keep (i := i) r1
  exact h _ H1 fe2 s2 (t1.trans t2) (Same.set (Bool.eq_false_iff.mpr hc))
theorem noSwap {tg : Option Expr} {n : Nat} {env : Env} (h : (match ex with | .ListComp _ _ _ _ => false | .SetComp _ _ _ _ => false | .DictComp _ _ _ _ _ => false | _ => true) = true) : swapsWith ex tg n env = pure false := by
  cases ex <;> first | rfl | cases h
theorem pS_set {i : Nat} {x : Str} {p : Pos} (g : GX X W c lv) (hi : X.N[i]? = some x) (hl : X.env.scope.names.lookup x = some .local ∨ (X.env.scope.names.lookup x = some .cell ∧ X.fn x = true)) (he : GdE e X W ie ex)
    (hs : swapsWith ex (some (.Name x p)) pos.line X.env = pure false) : PS X (.Assign [.Name x p] ex pos) (tS e X W C (.set i ie)) := by
  have hN : X.N.Nodup := by rw [g.hN]; exact g.nd
  rcases hl with hl | ⟨hl, hf⟩
  · exact PS.mk' fun D σ H h => ⟨_, ps_set hN hi (.inl hl) he.v hs (.inr hl), set_says h⟩
  · exact PS.mk' fun D σ H h => ⟨_, ps_set hN hi (.inr hl) he.v hs (.inl hf), set_says h⟩
theorem pS_expr (he : GdE e X W ie ex) (hs : swapsWith ex none pos.line X.env = pure false) : PS X (.Expr ex pos) (tS e X W C (.expr ie)) := PS.mk' fun D σ H h => ⟨_, ps_expr he.v hs, by
  obtain ⟨ρ, fe, G, s, h⟩ := h
  unfold exec at h
  refine by_expr s h fun ρ1 d v H1 fe1 f1 s1 r1 t1 h => ?_
  obtain ⟨s2, t2, _⟩ := s1.shed r1
  exact h σ H1 fe1 s2 (t1.trans t2) Same.refl⟩
theorem pS_ret (he : GdE e X W ie ex) : PS X (.Return (some ex) pos) (tS e X W C (.ret ie)) := PS.mk' fun D σ H h => ⟨_, ps_ret he.v, by
  obtain ⟨ρ, fe, G, s, h⟩ := h
  unfold exec at h
  refine by_expr s h fun ρ1 d v H1 fe1 f1 s1 r1 t1 h => ?_
  split at h
  · exact h.elim
  exact h v σ H1 fe1 f1 s1 r1 t1 Same.refl⟩
theorem pS_retM {i : Nat} (he : PE X ex (tVar i)) : PS X (.Return (some ex) pos) (tS e X W C (.retM i)) := PS.mk' fun D σ H h => ⟨_, ps_ret he, by
  obtain ⟨ρ, fe, G, s, h⟩ := h
  unfold exec at h
  split at h
  · exact h.elim
  split at h
  · rename_i d hd
    split at h
    · exact h.elim
    rename_i nl
    obtain ⟨v, f', fe', e1, s1, r1, t1⟩ := s.move hd (Bool.eq_false_iff.mpr nl)
    exact ⟨v, e1, h v σ H fe' f' s1 r1 t1 Same.refl⟩
  · exact h.elim⟩
theorem setT_says {is : List Nat} (h : tS e X W C (.setT is ie) D σ H) : tAsg (tE e X W ie) (gOf X.K (.tup is)) D σ H ∨ tAsg (tE e X W ie) (gUnl X.K is.length (gNs is)) D σ H := by
  obtain ⟨ρ, fe, G, s, h⟩ := h
  unfold exec at h
  split at h
  · exact h.elim
  rename_i hc
  have same : ∀ {σ' : L2.St}, (∀ vs : List Nat, (∀ i ∈ is, i ∈ vs) → wipe σ' vs = wipe σ vs) → Same C σ σ' := fun {σ'} w' j hj => by
    have nj : j ∉ is := fun m => hc (List.any_eq_true.mpr ⟨j, m, List.contains_iff_mem.mpr hj⟩)
    have := w' is (fun _ m => m)
    have a := wipe_out (σ := σ') nj
    have b := wipe_out (σ := σ) nj
    rw [this] at a
    rw [← a, b]
  cases q : evE e.T ie ρ with
  | stuck => rw [q] at h; exact h.elim
  | exn x ρ1 =>
    rw [q] at h
    exact .inl ⟨ρ, fe, G, s, by rw [q]; exact fun H1 fe1 s1 t1 => h σ H1 fe1 s1 t1 Same.refl⟩
  | ok ρ1 d =>
    rw [q] at h
    dsimp only at h
    cases hf : frz d with
    | tup ds =>
      rw [hf] at h
      refine .inl ⟨ρ, fe, G, s, ?_⟩
      rw [q]
      intro v H1 fe1 f1 s1 r1 t1
      obtain ⟨s2, t2, z2⟩ := s1.shed r1
      rw [hf] at z2
      unfold Fz at z2
      obtain ⟨a, vs, rfl, n, e2, z3⟩ := z2
      cases hs : storeT is ds ρ1 with
      | none =>
        have : storeU is (.tup ds) ρ1 = none := hs
        rw [this] at h; exact h.elim
      | some ρ2 =>
        have : storeU is (.tup ds) ρ1 = some ρ2 := hs
        rw [this] at h
        obtain ⟨σ', fe', s', m', w', l', g'⟩ := storeT_ok is ds vs ρ1 ρ2 σ fe1 s2 z3 hs
        exact ⟨a, vs, rfl, .inl (.inl e2), l', g' D.nx (h σ' H1 fe' s' ((t1.trans t2).trans (Stp.less m')) (same w'))⟩
    | lst w ds =>
      rw [hf] at h
      cases w with
      | fz =>
        refine .inr ⟨ρ, fe, G, s, ?_⟩
        rw [q]
        intro v H1 fe1 f1 s1 r1 t1
        obtain ⟨s2, t2, z2⟩ := s1.shed r1
        rw [hf] at z2
        unfold Fz at z2
        obtain ⟨_, a, vs, rfl, _, _, e2, z3⟩ := z2
        cases hs : storeT is ds ρ1 with
        | none =>
          have : storeU is (.lst .fz ds) ρ1 = none := hs
          rw [this] at h; exact h.elim
        | some ρ2 =>
          have : storeU is (.lst .fz ds) ρ1 = some ρ2 := hs
          rw [this] at h
          obtain ⟨σ', fe', s', m', w', l', g'⟩ := storeT_ok is ds vs ρ1 ρ2 σ fe1 s2 z3 hs
          exact ⟨a, vs, rfl, e2, l', g' D.nx (h σ' H1 fe' s' ((t1.trans t2).trans (Stp.less m')) (same w'))⟩
      | own => rw [show storeU is (.lst .own ds) ρ1 = none from rfl] at h; exact h.elim
      | scr => rw [show storeU is (.lst .scr ds) ρ1 = none from rfl] at h; exact h.elim
    | _ => rw [hf] at h; exact h.elim
theorem pS_setT {is : List Nat} {tg : Expr} (he : GdE e X W ie ex) (hg : PG X tg (gOf X.K (.tup is))) (hgl : PG X tg (gUnl X.K is.length (gNs is))) (hs : swapsWithSole [tg] ex pos.line X.env = pure false) (hw : swappedStores [tg] ex X.env = pure none) (h1 : (assignEach [tg] X.env).map (·.2) = [assign tg X.env]) :
    PS X (.Assign [tg] ex pos) (tS e X W C (.setT is ie)) := PS.mk' fun D σ H h => (setT_says h).elim (fun q => ⟨_, ps_asg he.v hg hs hw h1, q⟩) fun q => ⟨_, ps_asg he.v hgl hs hw h1, q⟩
/-- two at once -/
theorem par_says {i j : Nat} {a b : IE} (h : tS e X W C (.par i j a b) D σ H) : tPar i j (tIs e X W [a, b]) D σ H := by
  obtain ⟨ρ, fe, G, s, h⟩ := h
  unfold exec at h
  split at h
  · exact h.elim
  rename_i hc
  rw [Bool.or_eq_true, not_or] at hc
  refine evEs_ok [a, b] ρ H fe _ s ?_
  cases q : evEs e.T [a, b] ρ with
  | stuck => rw [q] at h; exact h
  | exn x ρ1 => rw [q] at h; exact fun H1 fe1 s1 t1 => h σ H1 fe1 s1 t1 Same.refl
  | ok ρ1 ds =>
    rw [q] at h
    intro vs H1 fe1 s1 r1 t1
    split at h
    · rename_i x2 y x he
      cases he
      obtain ⟨v, r, rfl, z1, r1⟩ := r1
      obtain ⟨w, r, rfl, z2, r1⟩ := r1
      unfold Fzs at r1
      subst r1
      obtain ⟨fe2, s2, t2⟩ := s1.keep (i := i) (Rep.of_fz z1)
      obtain ⟨fe3, s3, t3⟩ := s2.keep (i := j) (Rep.of_fz (z2.step t2.fr))
      exact ⟨v, w, rfl, h _ H1 fe3 s3 ((t1.trans t2).trans t3) ((Same.set (Bool.eq_false_iff.mpr hc.1)).trans (Same.set (Bool.eq_false_iff.mpr hc.2)))⟩
    · rename_i he; cases he
    · exact h.elim
/-! ### if, while -/
theorem pS_ife {a b : List IS} {sa sb : List Stmt} (ht : PT X ex (tT e X W t)) (ha : PSs X sa (tSs e X W C a)) (hb : PSs X sb (tSs e X W C b)) : PS X (.If ex sa sb pos) (tS e X W C (.ife t a b)) := PS.mk' fun D σ H h => ⟨_, ps_if ht ha hb, by
  obtain ⟨ρ, fe, G, s, h⟩ := h
  unfold exec at h
  refine ⟨ρ, fe, G, s, ?_⟩
  cases q : evE e.T t ρ with
  | stuck => rw [q] at h; exact h
  | exn x ρ1 => rw [q] at h; exact fun H1 fe1 s1 t1 => h σ H1 fe1 s1 t1 Same.refl
  | ok ρ1 d =>
    rw [q] at h
    intro v H1 fe1 f1 s1 r1 t1
    cases d with
    | bl k =>
      have e1 := r1.bl
      have e2 : f1 = [] := r1.1
      subst e1 e2
      cases k with
      | true => exact ⟨true, rfl, ρ1, fe1, G, s1, EndO.after h t1 Same.refl⟩
      | false => exact ⟨false, rfl, ρ1, fe1, G, s1, EndO.after h t1 Same.refl⟩
    | _ => exact h.elim⟩
theorem while_says {n : Nat} {b : List IS} (h : tS e X W C (.whl n t b) D σ H) : tWhile (tT e X W t) (tSs e X W C b) D σ H := by
  obtain ⟨ρ, fe, G, s, h⟩ := h
  unfold exec at h
  refine ⟨fun m σ' H' => ∃ ρ' fe', SR (e.L X.K) ρ' σ' H' fe' [] G ∧ Stp H fe [] G H' fe' [] ∧ Same C σ σ' ∧ EndO e X W C D σ H fe G (whileL (fun ρ => evE e.T t ρ) (fun ρ => execs e.T C b ρ) m ρ'), ⟨n, ρ, fe, s, Stp.refl, Same.refl, h⟩, ?_⟩
  rintro m σ1 H1 ⟨ρ1, fe1, s1, t1, m1, h1⟩
  refine ⟨ρ1, fe1, G, s1, ?_⟩
  cases m with
  | zero => exact h1.elim
  | succ m =>
    unfold whileL at h1
    cases q : evE e.T t ρ1 with
    | stuck => rw [q] at h1; exact h1.elim
    | exn x ρ2 => rw [q] at h1; exact fun H2 fe2 s2 t2 => h1 σ1 H2 fe2 s2 (t1.trans t2) m1
    | ok ρ2 d =>
      rw [q] at h1
      intro v H2 fe2 f2 s2 r2 t2
      cases d with
      | bl k =>
        have e1 := r2.bl
        have e2 : f2 = [] := r2.1
        subst e1 e2
        refine ⟨k, rfl, ?_⟩
        cases k with
        | false =>
          rw [if_neg Bool.false_ne_true]
          exact h1 σ1 H2 fe2 s2 (t1.trans t2) m1
        | true =>
          rw [if_pos rfl]
          refine ⟨fun σ' H' => ∃ ρ' fe', SR (e.L X.K) ρ' σ' H' fe' [] G ∧ Stp H fe [] G H' fe' [] ∧ Same C σ σ' ∧ EndO e X W C D σ H fe G (whileL (fun ρ => evE e.T t ρ) (fun ρ => execs e.T C b ρ) m ρ'), fun σ' H' w => ⟨m, Nat.lt_succ_self m, w⟩, ρ2, fe2, G, s2, ?_⟩
          dsimp only at h1
          cases q2 : execs e.T C b ρ2 with
          | nx ρ3 => rw [q2] at h1; exact fun σ3 H3 fe3 s3 t3 m3 => ⟨ρ3, fe3, s3, (t1.trans t2).trans t3, m1.trans m3, h1⟩
          | ct ρ3 => rw [q2] at h1; exact fun σ3 H3 fe3 s3 t3 m3 => ⟨ρ3, fe3, s3, (t1.trans t2).trans t3, m1.trans m3, h1⟩
          | bk ρ3 => rw [q2] at h1; exact fun σ3 H3 fe3 s3 t3 m3 => h1 σ3 H3 fe3 s3 ((t1.trans t2).trans t3) (m1.trans m3)
          | rt ρ3 d => rw [q2] at h1; exact fun v σ3 H3 fe3 f3 s3 r3 t3 m3 => h1 v σ3 H3 fe3 f3 s3 r3 ((t1.trans t2).trans t3) (m1.trans m3)
          | exn x ρ3 => rw [q2] at h1; exact fun σ3 H3 fe3 s3 t3 m3 => h1 σ3 H3 fe3 s3 ((t1.trans t2).trans t3) (m1.trans m3)
          | stuck => rw [q2] at h1; exact h1
      | _ => exact h1.elim
end
end TL

namespace TL
open PySem PySem.Spec PyProof.Rows L2

section
variable {e : Pm} {X : Cx} {W : WX} {C : List Nat} {c : CK} {lv : Nat} {D : Ends} {σ σ1 : L2.St} {H H1 : Hp} {fe fe1 f : List Addr} {G : AP} {ρ : List TL.D} {o : Out} {ie t : IE} {ex : Expr} {pos : Pos} {o' : Oks} {es : List IE}
theorem for_it {J : It} {n : Nat} {g : TG} {tb : TS} {D : Ends} {σ : L2.St} {H : Hp} (Pv : Nat → L2.St → Hp → Prop) (h0 : Pv 0 σ H) (hgo : ∀ i σ H, i < n → Pv i σ H → J.go i H)
    (hs : ∀ i x σ H H', i < n → Pv i σ H → J.yld i H x H' → g x σ H' fun σ2 H2 => tb { D with nx := Pv (i + 1), ct := Pv (i + 1), bk := D.nx } σ2 H2) (hd : ∀ σ H, Pv n σ H → J.stop n H ∧ D.nx σ H) :
    ∃ W : Nat → Nat → L2.St → Hp → Prop, (∃ m, W 0 m σ H) ∧ ∀ i m σ H, W i m σ H →
      (J.stop i H ∧ D.nx σ H) ∨ (J.go i H ∧ ∃ N : L2.St → Hp → Prop, (∀ σ' H', N σ' H' → ∃ m', m' < m ∧ W (i + 1) m' σ' H') ∧ ∀ x H', J.yld i H x H' → g x σ H' fun σ2 H2 => tb { D with nx := N, ct := N, bk := D.nx } σ2 H2) := by
  refine ⟨fun i m σ H => m = n - i ∧ i ≤ n ∧ Pv i σ H, ⟨n, by simp, Nat.zero_le _, h0⟩, ?_⟩
  rintro i m σ H ⟨rfl, hi, p⟩
  by_cases hlt : i < n
  · exact .inr ⟨hgo i σ H hlt p, Pv (i + 1), fun σ' H' p' => ⟨n - (i + 1), by omega, rfl, hlt, p'⟩, fun x H' y => hs i x σ H H' hlt p y⟩
  · have e : i = n := by omega
    subst e
    exact .inl (hd σ H p)
/-- a loop by the interpreter: over what gives its items one by one -/
theorem for_run {gt : Tg} {b : List IS} {xs : List TL.D} {J : It} {P : Hp → AP → Prop} {ρ1 : List TL.D} (hC : (slotsOf gt).any (C.contains ·) = false) (it : ItOk (e.L X.K) J xs P) (s1 : SR (e.L X.K) ρ1 σ H1 fe1 [] G) (t1 : Stp H fe [] G H1 fe1 []) (hP : P H1 (Rv fe1 [] G))
    (h : EndO e X W C D σ H fe G (forL gt (fun ρ => execs e.T C b ρ) xs ρ1)) : ∃ W' : Nat → Nat → L2.St → Hp → Prop, (∃ m, W' 0 m σ H1) ∧ ∀ i m σ H, W' i m σ H →
      (J.stop i H ∧ D.nx σ H) ∨ (J.go i H ∧ ∃ N : L2.St → Hp → Prop, (∀ σ' H', N σ' H' → ∃ m', m' < m ∧ W' (i + 1) m' σ' H') ∧ ∀ x H', J.yld i H x H' → gOf X.K gt x σ H' fun σ2 H2 => tSs e X W C b { D with nx := N, ct := N, bk := D.nx } σ2 H2) := by
  refine for_it (fun i σ' H' => ∃ ρ' fe', SR (e.L X.K) ρ' σ' H' fe' [] G ∧ Stp H fe [] G H' fe' [] ∧ Stp H1 fe1 [] G H' fe' [] ∧ Same C σ σ' ∧ EndO e X W C D σ H fe G (forL gt (fun ρ => execs e.T C b ρ) (xs.drop i) ρ')) ?_ ?_ ?_ ?_ (n := xs.length)
  · exact ⟨ρ1, fe1, s1, t1, Stp.refl, Same.refl, by rw [List.drop_zero]; exact h⟩
  · rintro i σ2 H2 hi ⟨ρ2, fe2, s2, t2, u2, m2, h2⟩
    exact it.go (it.step hP u2.fr) hi
  · rintro i x σ2 H2 H2' hi ⟨ρ2, fe2, s2, t2, u2, m2, h2⟩ y
    obtain ⟨rfl, d, hd, zd⟩ := it.yld (it.step hP u2.fr) hi y
    have hdr : xs.drop i = d :: xs.drop (i + 1) := by
      rw [List.drop_eq_getElem_cons hi]
      rw [List.getElem?_eq_getElem hi] at hd
      cases hd
      rfl
    rw [hdr] at h2
    unfold forL at h2
    cases hst : store1 gt d ρ2 with
    | none => rw [hst] at h2; exact h2.elim
    | some ρ3 =>
      rw [hst] at h2
      obtain ⟨σ', fe', s', m', w', g'⟩ := store1_ok s2 zd hst
      refine g' X.K _ ⟨ρ3, fe', G, s', ?_⟩
      have sm : Same C σ2 σ' := fun j hj => by
        have nj : j ∉ slotsOf gt := fun m => by
          have : (slotsOf gt).any (C.contains ·) = true := List.any_eq_true.mpr ⟨j, m, List.contains_iff_mem.mpr hj⟩
          rw [hC] at this; cases this
        have := w' (slotsOf gt) (fun _ m => m)
        have a := wipe_out (σ := σ') nj
        have b := wipe_out (σ := σ2) nj
        rw [this] at a
        rw [← a, b]
      have t' : Stp H2' fe2 [] G H2' fe' [] := Stp.less m'
      dsimp only at h2
      cases q2 : execs e.T C b ρ3 with
      | nx ρ4 => rw [q2] at h2; exact fun σ4 H4 fe4 s4 t4 m4 => ⟨ρ4, fe4, s4, (t2.trans t').trans t4, (u2.trans t').trans t4, (m2.trans sm).trans m4, h2⟩
      | ct ρ4 => rw [q2] at h2; exact fun σ4 H4 fe4 s4 t4 m4 => ⟨ρ4, fe4, s4, (t2.trans t').trans t4, (u2.trans t').trans t4, (m2.trans sm).trans m4, h2⟩
      | bk ρ4 => rw [q2] at h2; exact fun σ4 H4 fe4 s4 t4 m4 => h2 σ4 H4 fe4 s4 ((t2.trans t').trans t4) ((m2.trans sm).trans m4)
      | rt ρ4 d => rw [q2] at h2; exact fun v σ4 H4 fe4 f4 s4 r4 t4 m4 => h2 v σ4 H4 fe4 f4 s4 r4 ((t2.trans t').trans t4) ((m2.trans sm).trans m4)
      | exn x ρ4 => rw [q2] at h2; exact fun σ4 H4 fe4 s4 t4 m4 => h2 σ4 H4 fe4 s4 ((t2.trans t').trans t4) ((m2.trans sm).trans m4)
      | stuck => rw [q2] at h2; exact h2
  · rintro σ2 H2 ⟨ρ2, fe2, s2, t2, u2, m2, h2⟩
    rw [List.drop_length] at h2
    unfold forL at h2
    exact ⟨it.stop (it.step hP u2.fr), h2 σ2 H2 fe2 s2 t2 m2⟩
theorem forR_says {i : Nat} {b : List IS} (h : tS e X W C (.forR i es b) D σ H) : tFor (iRngL (tAs e X W es)) (gOf X.K (.one i)) (tSs e X W C b) D σ H := by
  obtain ⟨ρ, fe, G, s, h⟩ := h
  unfold exec at h
  split at h
  · exact h.elim
  rename_i hc
  refine evB_ok es ρ H fe G _ s ?_
  cases q : evB e.T es ρ with
  | stuck => rw [q] at h; exact h
  | exn x ρ1 => rw [q] at h; exact fun H1 fe1 s1 t1 => h σ H1 fe1 s1 t1 Same.refl
  | ok ρ1 ds =>
    rw [q] at h
    intro vs H1 fe1 f1 s1 r1 t1
    dsimp only at h
    cases hr : rng (lentB es ds ρ1) with
    | none => rw [hr] at h; exact h.elim
    | some p =>
      obtain ⟨lo, n⟩ := p
      rw [hr] at h
      refine ⟨lo, n, (rng_args s1 r1 hr).elim (fun z => .inl z.2) (fun z => .inr z.2), ?_⟩
      have s1' := s1.drop (f' := []) (fun _ m => nomatch m) List.nodup_nil
      have t1' := t1.trans (Stp.drop (f' := []) (fun _ m => nomatch m))
      exact for_run (gt := .one i) (P := fun _ _ => True) (by show (C.contains i || false) = false; rw [Bool.or_false]; exact Bool.eq_false_iff.mpr hc) it_range s1' t1' trivial h

/-! ### raise -/
theorem pS_raise {x : Nat} {m : Str} {j : Nat} {p p2 pos' : Pos} (g : GX X W c lv) (tk : Takes X W) (lk : Lnk X.prog X.w X.K X.mg X.base e o' lv) (hf : o'.ex x = true) (hg : Gl X (e.nm.ex x)) :
    PS X (.Raise (some (.Call (.Name (e.nm.ex x) p) [.Constant (.str m) j p2] [] pos')) none pos) (tS e X W C (.raise x)) := by
  obtain ⟨nd, gC, kC, q, r1, r2⟩ := lk.ex x hf
  refine PS.mk' fun D σ H h => ⟨_, ps_raise g.calm tk (pmk_own PySem.F.excBase_ValueError q gC kC (raises_own r1 r2) hg (beq_eq_false_iff_ne.mpr nd)), ?_⟩
  obtain ⟨ρ, fe, G, s, h⟩ := h
  unfold exec at h
  exact h σ H fe s Stp.refl Same.refl
end
end TL

namespace TL
open PySem PySem.Spec PyProof.Rows L2

section
variable {L : LC} {σ : L2.St} {H : Hp} {fe : List Addr} {G : AP} {ρ : List TL.D}
theorem isOwn_lck {d : TL.D} (h : isOwn1 d = true) : isLck d = false := by cases d <;> first | rfl | cases h
theorem own_at {d : TL.D} {v : V} {f : List Addr} {T : AP} (r : Rep L H T d v f) (ow : isOwn1 d = true) : ∃ p u, v = .ref p ∧ f = [p] ∧ H p = some u := by
  cases d with
  | lst w xs => cases w <;> first | (obtain ⟨p, vs, e1, e2, e3, _⟩ := r; exact ⟨p, _, e1, e2, e3⟩) | cases ow
  | dct w xs => cases w <;> first | (obtain ⟨p, vs, e1, e2, e3, _⟩ := r; exact ⟨p, _, e1, e2, e3⟩) | cases ow
  | dtt w xs => cases w <;> first | (obtain ⟨p, vs, e1, e2, e3, _⟩ := r; exact ⟨p, _, e1, e2, e3⟩) | cases ow
  | obj w c xs => cases w <;> first | (obtain ⟨p, dx, vs, e1, e2, e3, _⟩ := r; exact ⟨p, _, e1, e2, e3⟩) | cases ow
  | _ => cases ow
theorem SR.mutd {i : Nat} {d : TL.D} (s : SR L ρ σ H fe [] G) (hd : ρ[i]? = some d) (ow : isOwn1 d = true) : ∃ p u, σ[i]? = some (some (.ref p)) ∧ H p = some u ∧ Rep L H (Rv fe [] G) d (.ref p) [p] ∧
    ∀ d' o, (∀ H', Frz H (Rv fe [] G) H' (Rv fe [] G) → H' p = some o → Rep L H' (Rv fe [] G) d' (.ref p) [p]) → SR L (ρ.set i d') σ (upd H p o) fe [] G ∧ Stp H fe [] G (upd H p o) fe [] := by
  obtain ⟨v, f1, e1, r1, m1⟩ := s.get hd (isOwn_lck ow)
  obtain ⟨p, u, rfl, rfl, e2⟩ := own_at r1 ow
  refine ⟨p, u, e1, e2, r1, fun d' o k => s.mut hd e1 ow e2 fun _ => k _ (fun b w n q => ⟨?_, n⟩) upd_same⟩
  rw [upd_ne]
  · exact q
  · rintro rfl
    exact n (.inl (m1 b (List.mem_singleton.mpr rfl)))
theorem getD_some {i : Nat} {d : TL.D} (h : ρ.getD i .und = d) (n : isLck d = false) : ρ[i]? = some d := by
  obtain ⟨d', h1, h2, _⟩ := look_slot (ρ := ρ) (i := i) (by rw [h]; exact n)
  rw [h1, ← h2, h]
/-- an item put, by values -/
def rPut : TSet := fun o i v H Q => rSetL o i v H Q ∨ rSetD o i v H Q
theorem set_any {X : Cx} (hu : X.A.units + 1 < cLine) : PSet X rPut := by
  intro pins s σ H o i v ov iv u Q I ro ri rv h
  rcases h with h | h
  · exact set_list pins s σ H o i v ov iv u Q I ro ri rv h
  · exact set_dict hu pins s σ H o i v ov iv u Q I ro ri rv h
theorem put_ok {i : Nat} {y d d' : TL.D} {v w : V} (s : SR L ρ σ H fe [] G) (h : putAt (ρ.getD i .und) y d = some d') (zy : Fz L H (Rv fe [] G) y v) (zd : Fz L H (Rv fe [] G) d w) :
    ∃ p H', σ[i]? = some (some (.ref p)) ∧ (∀ Q : Hp → Prop, Q H' → rPut (.ref p) v w H Q) ∧ SR L (ρ.set i d') σ H' fe [] G ∧ Stp H fe [] G H' fe [] := by
  unfold putAt at h
  split at h
  · rename_i d a2 a3 z1 xs n hd
    obtain ⟨p, u, e1, e2, r1, k⟩ := s.mutd (getD_some hd rfl) rfl
    obtain ⟨p', vs, ep, _, e3, z⟩ := r1
    cases ep
    split at h
    · rename_i j hj
      cases h
      obtain ⟨s2, t2⟩ := k (.lst .own (xs.set j d)) (.lst (vs.set j w)) fun H' fr hp => ⟨p, _, rfl, rfl, hp, Fzs.step fr _ _ (z.set j zd)⟩
      unfold Fz at zy
      exact ⟨p, _, e1, fun Q q => .inl ⟨p, vs, n, j, rfl, zy, e3, by rw [z.len]; exact hj, q⟩, s2, t2⟩
    · cases h
  · rename_i d a2 a3 a4 kvs hd
    obtain ⟨p, u, e1, e2, r1, k⟩ := s.mutd (getD_some hd rfl) rfl
    obtain ⟨p', kws, ep, _, e3, z⟩ := r1
    cases ep
    split at h
    · rename_i q hq
      split at h
      · rename_i hl
        cases h
        obtain ⟨s2, t2⟩ := k (.dct .own (dput kvs q d)) (.dK (putK kws q w)) fun H' fr hp => ⟨p, _, rfl, rfl, hp, FzK.step fr _ _ (z.put q zd)⟩
        refine ⟨p, _, e1, fun Q qq => .inr ⟨p, _, rfl, ?_, qq⟩, s2, t2⟩
        rw [keyOf_v (Rep.of_fz zy) hq]
        exact .k e3 (by rw [z.length]; exact big_line hl)
      · cases h
    · cases h
  · rename_i d a2 a3 z1 kvs ys hd
    obtain ⟨p, u, e1, e2, r1, k⟩ := s.mutd (getD_some hd rfl) rfl
    obtain ⟨p', kws, ep, _, e3, z⟩ := r1
    cases ep
    split at h
    · rename_i q hq
      split at h
      · rename_i hl
        cases h
        obtain ⟨s2, t2⟩ := k (.dtt .own (dput kvs q d)) (.dT (putK kws q w)) fun H' fr hp => ⟨p, _, rfl, rfl, hp, FzT.step fr _ _ (z.put q zd)⟩
        unfold Fz at zy
        obtain ⟨a, us, rfl, _, e4, z4⟩ := zy
        refine ⟨p, _, e1, fun Q qq => .inr ⟨p, _, rfl, ?_, qq⟩, s2, t2⟩
        rw [keysOf_v z4 hq] at e4
        exact .t e3 e4 (by rw [z.length]; exact big_line hl)
      · cases h
    · cases h
  · cases h
end
section
variable {e : Pm} {X : Cx} {W : WX} {C : List Nat} {c : CK} {lv : Nat} {D : Ends} {σ σ1 : L2.St} {H H1 : Hp} {fe fe1 f : List Addr} {G : AP} {ρ : List TL.D} {o : Out} {ie t k : IE} {ex ek : Expr} {pos : Pos} {o' : Oks} {es : List IE} {i : Nat}
/-- an expression met on the way -/
theorem by_shed {Q : VK} {kk : List TL.D → TL.D → Out} {H0 : Hp} {fe0 : List Addr} (s : SR (e.L X.K) ρ σ H fe [] G) (t0 : Stp H0 fe0 [] G H fe []) (h : EndO e X W C D σ H0 fe0 G (match evE e.T ie ρ with | .ok ρ1 d => kk ρ1 d | .exn x ρ1 => .exn x ρ1 | .stuck => .stuck))
    (hk : ∀ ρ1 d v H1 fe1, SR (e.L X.K) ρ1 σ H1 fe1 [] G → Fz (e.L X.K) H1 (Rv fe1 [] G) (frz d) v → Stp H fe [] G H1 fe1 [] → Stp H0 fe0 [] G H1 fe1 [] → EndO e X W C D σ H0 fe0 G (kk ρ1 d) → Q v H1) : tE e X W ie σ H Q := by
  refine ⟨ρ, fe, G, s, ?_⟩
  cases q : evE e.T ie ρ with
  | stuck => rw [q] at h; exact h
  | exn x ρ1 => rw [q] at h; exact fun H1 fe1 s1 t1 => h σ H1 fe1 s1 (t0.trans t1) Same.refl
  | ok ρ1 d =>
    rw [q] at h
    intro v H1 fe1 f1 s1 r1 t1
    obtain ⟨s2, t2, z2⟩ := s1.shed r1
    exact hk ρ1 d v H1 fe1 s2 z2 (t1.trans t2) (t0.trans (t1.trans t2)) h
theorem setIx_says (h : tS e X W C (.setIx i k ie) D σ H) : tAsg (tE e X W ie) (gSub (tVar i) (tE e X W k) rPut) D σ H := by
  obtain ⟨ρ, fe, G, s, h⟩ := h
  unfold exec at h
  split at h
  · exact h.elim
  rename_i ho
  obtain ⟨d0, hd0, hg0, nl0⟩ := look_slot (isOwn_lck (by simpa using ho : isOwn1 (ρ.getD i .und) = true))
  obtain ⟨p0, u0, e0, _⟩ := s.mutd hd0 (by rw [← hg0]; simpa using ho)
  refine by_shed (Q := fun x H1 => gSub (tVar i) (tE e X W k) rPut x σ H1 D.nx) s Stp.refl h fun ρ1 d w H1 fe1 s1 z1 u1 t1 h => ?_
  split at h
  · exact h.elim
  refine ⟨_, e0, by_shed (Q := fun y H2 => rPut (.ref p0) y w H2 fun H3 => D.nx σ H3) s1 t1 h fun ρ2 y v H2 fe2 s2 z2 u2 t2 h => ?_⟩
  split at h
  · rename_i d' hp
    obtain ⟨p, H', e1, k1, s3, t3⟩ := put_ok s2 hp z2 (z1.step u2.fr)
    rw [e0] at e1
    cases e1
    exact k1 _ (h σ H' fe2 s3 (t2.trans t3) Same.refl)
  · exact h.elim
theorem pS_setIx {ob : Expr} {p : Pos} (hu : X.A.units + 1 < cLine) (he : GdE e X W ie ex) (ho : PE X ob (tVar i)) (hk : GdE e X W k ek) (hp : plainIxB ek = true) : PS X (.Assign [.Subscript ob ek p] ex pos) (tS e X W C (.setIx i k ie)) := by
  refine PS.mk' fun D σ H h => ⟨_, ps_asg he.v (pg_sub ho hk.v (set_any hu) (fun v => ?_)) ?_ rfl rfl, setIx_says h⟩
  · cases ek <;> first | rfl | cases hp
  · cases ex <;> rfl
/-! ### with an operator -/
def rGet (K : PySem.W.Frag) : V → V → Hp → VK → Prop := fun o i H Q => (∃ p xs n v, o = .ref p ∧ i = .int n ∧ H p = some (.lst xs) ∧ atI xs n = some v ∧ Q v H) ∨ (∃ a v, o = .ref a ∧ DGet H a i (some v) ∧ Q v H)
theorem get_any (hu : X.A.units + 1 < cLine) : PGet X (rGet X.K) := by
  intro pins s σ H o i ov iv Q I ro ri h
  rcases h with ⟨p, xs, n, v, rfl, rfl, hp, ha, q⟩ | ⟨a, v, rfl, g, q⟩
  · cases ro
    obtain ⟨t, rfl⟩ := ri
    obtain ⟨its, r, pl, hz⟩ := I.list (.inl (.inl hp))
    obtain ⟨j, h1, h2, h3, h4, h5⟩ := atI_get ha
    obtain ⟨w, ew, rw'⟩ := r.get h2
    have hl := r.length
    have hn := line63
    have fin : EP X pins σ Q w s := ⟨v, H, I, rw', q⟩
    by_cases h0 : 0 ≤ n
    · have hj : n.toNat = j := by
        rw [seqIndex_of h0 h5] at h1
        exact Option.some.inj h1
      exact wpAny_getItem_list pl.isList h0 (by omega) (by rw [hj]; simpa using ew) fin
    · have hj : (n + (its.toArray.size : Int)).toNat = j := by
        rw [seqIndex_neg (by omega) h4] at h1
        rw [List.size_toArray, ← hl]
        exact Option.some.inj h1
      exact wpAny_getItem_list_neg pl.isList (by omega) (by rw [List.size_toArray] <;> omega) (by omega) (by rw [hj]; simpa using ew) fin
  · cases ro
    exact d_getItem hu I g ri fun w' s' I' r' => ⟨v, H, I', r', q⟩
theorem ownAt_ok {y d : TL.D} {vy : V} {L : LC} {p : Addr} {f : List Addr} {T : AP} {z : TL.D} (r : Rep L H T d (.ref p) f) (zy : Fz L H T y vy) (h : ownAt d y = some z) : ∃ v, Fz L H T z v ∧ ∀ K Q, Q v H → rGet K (.ref p) vy H Q := by
  unfold ownAt at h
  split at h
  · obtain ⟨p', vs, e1, _, e3, q⟩ := r
    cases e1
    unfold Fz at zy
    obtain ⟨v, e4, z4⟩ := q.atI h
    exact ⟨v, z4, fun K Q qq => .inl ⟨p, vs, _, v, rfl, zy, e3, e4, qq⟩⟩
  · split at h
    · rename_i hq
      obtain ⟨p', kws, e1, _, e3, q⟩ := r
      cases e1
      have ev := keyOf_v (Rep.of_fz zy) hq
      rcases q.get _ with ⟨g1, g2⟩ | ⟨d', v, g1, g2, g3⟩
      · rw [g1] at h; cases h
      · rw [g1] at h
        cases h
        refine ⟨v, g3, fun K Q qq => .inr ⟨p, v, rfl, ?_, qq⟩⟩
        rw [ev, ← g2]
        exact .k e3
    · cases h
  · cases h
theorem augIx_says {b : Bool} (h : tS e X W C (.augIx i k b ie) D σ H) : tAugS (tVar i) (tE e X W k) (tE e X W ie) (rGet X.K) (ipI fun z m => if b then z + m else z - m) rPut D σ H := by
  obtain ⟨ρ, fe, G, s, h⟩ := h
  unfold exec at h
  split at h
  · exact h.elim
  rename_i ho
  obtain ⟨d0, hd0, hg0, nl0⟩ := look_slot (isOwn_lck (by simpa using ho : isOwn1 (ρ.getD i .und) = true))
  obtain ⟨p0, u0, e0, _⟩ := s.mutd hd0 (by rw [← hg0]; simpa using ho)
  refine ⟨_, e0, by_shed s Stp.refl h fun ρ1 y vy H1 fe1 s1 z1 u1 t1 h => ?_⟩
  split at h
  · rename_i z hz
    have nl : isLck (ρ1.getD i .und) = false := by
      cases q : ρ1.getD i .und <;> first | rfl | (rw [q] at hz; cases hz)
    obtain ⟨d1, hd1, hg1, nl1⟩ := look_slot nl
    obtain ⟨v1, f1, e1, r1, _⟩ := s1.get hd1 nl1
    rw [e0] at e1
    cases e1
    rw [hg1] at hz
    obtain ⟨v, zv, k1⟩ := ownAt_ok r1 z1 hz
    unfold Fz at zv
    subst zv
    refine k1 _ _ (by_shed s1 t1 (by
      have : ∀ r : ER, (match r with | .ok ρ2 (.int m) => (match putAt (ρ2.getD i .und) (frz y) (.int (if b then z + m else z - m)) with | some d' => Out.nx (ρ2.set i d') | none => .stuck) | .exn c ρ2 => .exn c ρ2 | _ => .stuck) =
        (match r with | .ok ρ2 dd => (match dd with | .int m => (match putAt (ρ2.getD i .und) (frz y) (.int (if b then z + m else z - m)) with | some d' => Out.nx (ρ2.set i d') | none => .stuck) | _ => .stuck) | .exn c ρ2 => .exn c ρ2 | .stuck => .stuck) := fun r => by
        cases r with
        | ok ρ2 dd => cases dd <;> rfl
        | exn _ _ => rfl
        | stuck => rfl
      rw [← this]
      exact h) fun ρ2 dd vd H2 fe2 s2 z2 u2 t2 h => ?_)
    split at h
    · rename_i m
      unfold frz Fz at z2
      subst z2
      refine ⟨z, m, rfl, rfl, ?_⟩
      split at h
      · rename_i d' hp
        obtain ⟨p, H', e1, k2, s3, t3⟩ := put_ok s2 hp (z1.step u2.fr) fz_int
        rw [e0] at e1
        cases e1
        exact k2 _ (h σ H' fe2 s3 (t2.trans t3) Same.refl)
      · exact h.elim
    · exact h.elim
  · exact h.elim
theorem pS_augIx {b : Bool} {ob : Expr} {op : Operator} {p : Pos} (hu : X.A.units + 1 < cLine) (hop : op = if b then .Add else .Sub) (he : GdE e X W ie ex) (ho : PE X ob (tVar i)) (hk : GdE e X W k ek) (hp : plainIxB ek = true) : PS X (.AugAssign (.Subscript ob ek p) op ex pos) (tS e X W C (.augIx i k b ie)) := by
  subst hop
  cases b with
  | true => exact PS.mk' fun D σ H h => ⟨_, ps_augS ho hk.v (get_any hu) he.v ip_add (set_any hu) (by cases ek <;> first | (intros; rfl) | cases hp), augIx_says h⟩
  | false => exact PS.mk' fun D σ H h => ⟨_, ps_augS ho hk.v (get_any hu) he.v ip_sub (set_any hu) (by cases ek <;> first | (intros; rfl) | cases hp), augIx_says h⟩
end
end TL

namespace TL
open PySem PySem.Spec PyProof.Rows L2

section
variable {e : Pm} {X : Cx} {W : WX} {C : List Nat} {c : CK} {lv : Nat} {D : Ends} {σ σ1 : L2.St} {H H1 : Hp} {fe fe1 f : List Addr} {G : AP} {ρ : List TL.D} {o : Out} {ie t k : IE} {ex ek ob : Expr} {pos apos cpos p : Pos} {o' : Oks} {es : List IE} {i : Nat}
theorem aug_says (h : tS e X W C (.aug i ie) D σ H) : tAug i (tE e X W ie) (ipI fun i j => i + j) D σ H := by
  obtain ⟨ρ, fe, G, s, h⟩ := h
  unfold exec at h
  split at h
  · exact h.elim
  rename_i ho
  rw [Bool.or_eq_true, not_or] at ho
  have hi : ∃ z, ρ[i]? = some (.int z) := by
    have q : isIntD (ρ.getD i .und) = true := by simpa using ho.2
    cases z : ρ.getD i .und with
    | int n => exact ⟨n, getD_some z rfl⟩
    | _ => rw [z] at q; cases q
  obtain ⟨z, hz⟩ := hi
  obtain ⟨v, f1, e1, r1, _⟩ := s.get hz rfl
  have ev := r1.int
  subst ev
  refine ⟨_, e1, by_shed s Stp.refl h fun ρ1 d w H1 fe1 s1 z1 u1 t1 h => ?_⟩
  rw [hz] at h
  split at h
  · rename_i z' m he
    cases he
    unfold frz Fz at z1
    subst z1
    refine ⟨z, m, rfl, rfl, ?_⟩
    obtain ⟨fe2, s2, t2⟩ := s1.keep (i := i) (d := .int (z + m)) (v := .int (z + m)) (Rep.of_fz fz_int)
    exact h _ H1 fe2 s2 (t1.trans t2) (Same.set (Bool.eq_false_iff.mpr ho.1))
  · exact h.elim
theorem pS_aug {x : Str} (g : GX X W c lv) (hi : X.N[i]? = some x) (hl : X.env.scope.names.lookup x = some .local ∨ (X.env.scope.names.lookup x = some .cell ∧ X.fn x = true)) (he : GdE e X W ie ex) : PS X (.AugAssign (.Name x p) .Add ex pos) (tS e X W C (.aug i ie)) := by
  have hN : X.N.Nodup := by rw [g.hN]; exact g.nd
  rcases hl with hl | ⟨hl, hf⟩
  · exact PS.mk' fun D σ H h => ⟨_, ps_aug hN hi (.inl hl) he.v ip_add (.inr hl), aug_says h⟩
  · exact PS.mk' fun D σ H h => ⟨_, ps_aug hN hi (.inr hl) he.v ip_add (.inl hf), aug_says h⟩
/-! ### fields -/
theorem fput_put {L : LC} {T : AP} {f : Nat} {d : TL.D} {v : V} (hi : ∀ m n, L.fn m = L.fn n → m = n) (zd : Fz L H T d v) : ∀ {fs : List (Nat × TL.D)} {ws : List (Str × V)}, FzF L H T fs ws → FzF L H T (fput f d fs) (putF (L.fn f) v ws)
  | [], _, h => by
    unfold FzF at h
    subst h
    unfold fput putF FzF
    exact ⟨v, [], rfl, zd, by unfold FzF; rfl⟩
  | (n, x) :: r, _, h => by
    unfold FzF at h
    obtain ⟨w, r', rfl, h1, h2⟩ := h
    unfold fput putF
    by_cases hn : n = f
    · subst hn
      rw [if_pos rfl, if_pos rfl]
      unfold FzF
      exact ⟨v, r', rfl, zd, h2⟩
    · rw [if_neg hn, if_neg (fun z => hn (hi _ _ z))]
      unfold FzF
      exact ⟨w, _, rfl, h1, fput_put hi zd h2⟩
theorem setF_says {cl f : Nat} (hi : ∀ m n, e.nm.fd m = e.nm.fd n → m = n) (hc : Cls X.K (e.ca cl)) (hn : NoAttr X.K (e.ca cl) (e.nm.fd f)) (h : tS e X W C (.setF i cl f ie) D σ H) : sFld X.K (tVar i) (tE e X W ie) (e.nm.fd f) D σ H := by
  obtain ⟨ρ, fe, G, s, h⟩ := h
  unfold exec at h
  split at h
  · exact h.elim
  rename_i ho
  refine by_shed s Stp.refl h fun ρ1 d w H1 fe1 s1 z1 u1 t1 h => ?_
  split at h
  · exact h.elim
  split at h
  · rename_i d' hp
    unfold putF2 at hp
    split at hp
    · rename_i cl f y1 y2 y3 y4 c' fs hd
      split at hp
      · rename_i hcc
        obtain ⟨h1, h2⟩ := hcc
        subst h1
        cases hp
        obtain ⟨q, u, e1, e2, r1, k⟩ := s1.mutd (getD_some hd rfl) rfl
        obtain ⟨q', dx, ws, eq, _, e3, z⟩ := r1
        cases eq
        have hl := z.len
        obtain ⟨s2, t2⟩ := k (.obj .own c' (fput f (frz d) fs)) (.ins (e.ca c') dx (putF (e.nm.fd f) w ws)) fun H' fr hp => ⟨q, dx, _, rfl, rfl, hp, FzF.step fr _ _ (fput_put hi z1 z)⟩
        exact ⟨_, e1, q, _, dx, ws, rfl, e3, hc, hn, by omega, h σ _ fe1 s2 (t1.trans t2) Same.refl⟩
      · cases hp
    · cases hp
  · exact h.elim
theorem pS_setF {cl f : Nat} (lk : Lnk X.prog X.w X.K X.mg X.base e o' lv) (hf : o'.fl cl f = true) (ho : PE X ob (tVar i)) (he : GdE e X W ie ex) : PS X (.Assign [.Attribute ob (e.nm.fd f) p] ex pos) (tS e X W C (.setF i cl f ie)) := by
  obtain ⟨hc, hn⟩ := lk.fl cl f hf
  exact PS.mk' fun D σ H h => ⟨_, ps_fld ho he.v (by cases ex <;> rfl), setF_says lk.inj hc hn h⟩
/-! ### lists -/
theorem own_list {d : TL.D} (h : isOwnL d = true) : ∃ xs, d = .lst .own xs := by
  cases d with
  | lst w xs => cases w <;> first | exact ⟨_, rfl⟩ | cases h
  | _ => cases h
theorem list_at (s : SR (e.L X.K) ρ σ H fe [] G) (h : ¬ isOwnL (ρ.getD i .und) = false) : ∃ p xs vs, ρ[i]? = some (.lst .own xs) ∧ σ[i]? = some (some (.ref p)) ∧ H p = some (.lst vs) ∧ Fzs (e.L X.K) H (Rv fe [] G) xs vs := by
  obtain ⟨xs, hx⟩ := own_list (by simpa using h)
  have hd := getD_some hx rfl
  obtain ⟨p, u, e1, e2, ⟨q, vs, eq, _, e3, z⟩, _⟩ := s.mutd hd rfl
  cases eq
  exact ⟨p, xs, vs, hd, e1, e3, z⟩
theorem push_says (h : tS e X W C (.push i ie) D σ H) : tDrop (tBM X.K "list" rAppend (tVar i) (tCons (tE e X W ie) tNil)) D σ H := by
  obtain ⟨ρ, fe, G, s, h⟩ := h
  unfold exec at h
  split at h
  · exact h.elim
  rename_i ho
  obtain ⟨p0, xs0, vs0, hd0, e0, e01, _⟩ := list_at s ho
  refine ⟨_, e0, .inl ⟨rfl, vs0, .inl (.inl e01)⟩, ?_⟩
  refine by_shed (Q := fun x H1 => rAppend (.ref p0) [x] H1 fun _ H2 => D.nx σ H2) s Stp.refl h fun ρ1 d w H1 fe1 s1 z1 u1 t1 h => ?_
  split at h
  · exact h.elim
  split at h
  · rename_i d' hp
    unfold pushD at hp
    split at hp
    · rename_i a1 xs hd
      split at hp
      · rename_i hl
        cases hp
        obtain ⟨q, u, e1, e2, r1, k⟩ := s1.mutd (getD_some hd rfl) rfl
        rw [e0] at e1
        cases e1
        obtain ⟨q', vs, eq, _, e3, z⟩ := r1
        cases eq
        obtain ⟨s2, t2⟩ := k (.lst .own (xs ++ [frz d])) (.lst (vs ++ [w])) fun H' fr hp => ⟨p0, _, rfl, rfl, hp, Fzs.step fr _ _ (z.append (Fzs.one z1))⟩
        exact ⟨p0, vs, w, rfl, rfl, e3, by rw [z.len]; exact big_line hl, h σ _ fe1 s2 (t1.trans t2) Same.refl⟩
      · cases hp
    · cases hp
  · exact h.elim
theorem pS_push (ho : PE X ob (tVar i)) (he : GdE e X W ie ex) (n1 : noStar ex = true) (h1 : noSup ob = true) (h4 : (apos.endLine == cpos.line) = true) : PS X (.Expr (.Call (.Attribute ob "append" apos) [ex] [] cpos) pos) (tS e X W C (.push i ie)) :=
  PS.mk' fun D σ H h => ⟨_, ps_expr (pe_bm PySem.F.plainAttrs_list PySem.F.slot_list_append PySem.F.type_list_append mt_append ho (pa_cons he.v pa_nil (starEach_of n1)) (base_of h1) (by rw [starEach_of n1]; rfl) h4 (starEach_of n1) rfl) rfl, push_says h⟩
theorem clr_says (h : tS e X W C (.clr i) D σ H) : tDrop (tBM0 X.K "list" rClear (tVar i)) D σ H := by
  obtain ⟨ρ, fe, G, s, h⟩ := h
  unfold exec at h
  split at h
  · exact h.elim
  rename_i ho
  obtain ⟨p0, xs0, vs0, hd0, e0, e01, _⟩ := list_at s ho
  obtain ⟨q, u, e1, e2, r1, k⟩ := s.mutd hd0 rfl
  rw [e0] at e1
  cases e1
  obtain ⟨s2, t2⟩ := k (.lst .own []) (.lst []) fun H' fr hp => ⟨p0, _, rfl, rfl, hp, Fzs.nil⟩
  exact ⟨_, e0, .inl ⟨rfl, vs0, .inl (.inl e01)⟩, p0, vs0, rfl, rfl, e01, h σ _ fe s2 t2 Same.refl⟩
theorem pS_clr (ho : PE X ob (tVar i)) (h1 : noSup ob = true) (h4 : (apos.endLine == cpos.line) = true) : PS X (.Expr (.Call (.Attribute ob "clear" apos) [] [] cpos) pos) (tS e X W C (.clr i)) :=
  PS.mk' fun D σ H h => ⟨_, ps_expr (pe_bm0 PySem.F.plainAttrs_list PySem.F.slot_list_clear PySem.F.type_list_clear mt_clear ho (base_of h1) h4) rfl, clr_says h⟩
theorem ins_says (h : tS e X W C (.ins i k ie) D σ H) : tDrop (tBM X.K "list" (fun x vs H Q => ∃ (l : Addr) (xs : List V) (i : Int) (y : V), x = .ref l ∧ vs = [.int i, y] ∧ H l = some (.lst xs) ∧ xs.length < sizeLine ∧ 0 ≤ i ∧ i < 2 ^ 63 ∧
    Q .non (upd H l (.lst (xs.take i.toNat ++ [y] ++ xs.drop i.toNat)))) (tVar i) (tIs e X W [k, ie])) D σ H := by
  obtain ⟨ρ, fe, G, s, h⟩ := h
  unfold exec at h
  split at h
  · exact h.elim
  rename_i ho
  obtain ⟨p0, xs0, vs0, hd0, e0, e01, _⟩ := list_at s ho
  refine ⟨_, e0, .inl ⟨rfl, vs0, .inl (.inl e01)⟩, evEs_ok [k, ie] ρ H fe _ s ?_⟩
  cases q : evEs e.T [k, ie] ρ with
  | stuck => rw [q] at h; exact h
  | exn x ρ1 => rw [q] at h; exact fun H1 fe1 s1 t1 => h σ H1 fe1 s1 t1 Same.refl
  | ok ρ1 ds =>
    rw [q] at h
    intro vs H1 fe1 s1 r1 t1
    split at h
    · rename_i x2 y x he
      cases he
      obtain ⟨v, r, rfl, z1, r1⟩ := r1
      obtain ⟨w, r, rfl, z2, r1⟩ := r1
      unfold Fzs at r1
      subst r1
      split at h
      · rename_i d' hp
        unfold insD at hp
        split at hp
        · rename_i x a1 a2 a3 xs n hd
          split at hp
          · rename_i hl
            rw [Bool.and_eq_true, Bool.and_eq_true] at hl
            cases hp
            obtain ⟨q, u, e1, e2, r1, k⟩ := s1.mutd (getD_some hd rfl) rfl
            rw [e0] at e1
            cases e1
            obtain ⟨q', vs, eq, _, e3, z⟩ := r1
            cases eq
            unfold Fz at z1
            subst z1
            obtain ⟨s2, t2⟩ := k (.lst .own (xs.take n.toNat ++ [x] ++ xs.drop n.toNat)) (.lst (vs.take n.toNat ++ [w] ++ vs.drop n.toNat)) fun H' fr hp => ⟨p0, _, rfl, rfl, hp, Fzs.step fr _ _ (((z.take _).append (Fzs.one z2)).append (z.drop _))⟩
            exact ⟨p0, vs, n, w, rfl, rfl, e3, by rw [z.len]; exact big_line hl.1.1, of_decide_eq_true hl.1.2, of_decide_eq_true hl.2, h σ _ fe1 s2 (t1.trans t2) Same.refl⟩
          · cases hp
        · cases hp
      · exact h.elim
    · rename_i he; cases he
    · exact h.elim
theorem pS_ins {ea eb : Expr} (ho : PE X ob (tVar i)) (ha : PA X [ea, eb] (tIs e X W [k, ie])) (n1 : noStar ea = true) (n2 : noStar eb = true) (h1 : noSup ob = true) (h4 : (apos.endLine == cpos.line) = true) : PS X (.Expr (.Call (.Attribute ob "insert" apos) [ea, eb] [] cpos) pos) (tS e X W C (.ins i k ie)) :=
  PS.mk' fun D σ H h => ⟨_, ps_expr (pe_bm PySem.F.plainAttrs_list PySem.F.slot_list_insert PySem.F.type_list_insert mt_insert ho ha (base_of h1) (by rw [starEach_of n1, starEach_of n2]; rfl) h4 (starEach_of n1) (by rw [starEach_of n2]; rfl)) rfl, ins_says h⟩
end
end TL

namespace TL
open PySem PySem.Spec PyProof.Rows L2

section
variable {e : Pm} {X : Cx} {W : WX} {C : List Nat} {c : CK} {lv : Nat} {D : Ends} {σ σ1 : L2.St} {H H1 : Hp} {fe fe1 f : List Addr} {G : AP} {ρ : List TL.D} {o : Out} {ie t k : IE} {ex ek ob : Expr} {pos apos cpos p : Pos} {o' : Oks} {es : List IE} {i : Nat} {b : List IS}
theorem EndO.lock {d : Addr} {u : HO} {od : Obj} (n : ¬ Rv fe1 [] G d) (hd : H d = some u) (du : isDO u) (t0 : Stp H fe [] G H fe1 []) (nf : ∀ o' u', X.H_0 d ≠ some (.frz o' u')) (h : EndO e X W C D σ H fe G o) :
    EndO e X (lockW X W d od u) C (lockD D d od u) σ (upd H d (.frz od u)) fe1 G o := by
  cases o with
  | nx ρ' =>
    intro σ' H' fe' s' t' sm
    obtain ⟨e1, n1⟩ := t'.locked n
    exact ⟨e1, h σ' (upd H' d u) fe' (s'.relock (lks_unlock e1 du) n1) (t0.trans (t'.unlock hd n)) sm⟩
  | rt ρ' dd =>
    intro v σ' H' fe' f' s' r' t' sm
    obtain ⟨e1, n1⟩ := t'.locked n
    exact ⟨e1, h v σ' (upd H' d u) fe' f' (s'.relock (lks_unlock e1 du) n1) (r'.unlock e1 du n1) (t0.trans (t'.unlock hd n)) sm⟩
  | bk ρ' =>
    intro σ' H' fe' s' t' sm
    obtain ⟨e1, n1⟩ := t'.locked n
    exact ⟨e1, h σ' (upd H' d u) fe' (s'.relock (lks_unlock e1 du) n1) (t0.trans (t'.unlock hd n)) sm⟩
  | ct ρ' =>
    intro σ' H' fe' s' t' sm
    obtain ⟨e1, n1⟩ := t'.locked n
    exact ⟨e1, h σ' (upd H' d u) fe' (s'.relock (lks_unlock e1 du) n1) (t0.trans (t'.unlock hd n)) sm⟩
  | exn c ρ' =>
    intro σ' H' fe' s' t' sm
    obtain ⟨e1, n1⟩ := t'.locked n
    exact ⟨nf, e1, h σ' (upd H' d u) fe' (s'.relock (lks_unlock e1 du) n1) (t0.trans (t'.unlock hd n)) sm⟩
  | stuck => exact h
/-- a walk's statement at a state -/
theorem for_at {gt : Tg} {tg it : Expr} {xs ρ1 : List TL.D} {st : Stmt} (tk : Takes X W) (hc : (slotsOf gt).any (C.contains ·) = false) (wk : WkN e X tg it σ H fe G ρ1 xs ∨ WkL e X tg it σ H fe G ρ1 xs)
    (mk : ∀ W' w, Takes X W' → PI X tg it w → PS X st (tFor w (gOf X.K gt) (tSs e X W' C b))) (h : EndO e X W C D σ H fe G (forL gt (fun ρ => execs e.T C b ρ) xs ρ1)) : ∃ t', PS X st t' ∧ t' D σ H := by
  rcases wk with ⟨w, pi, k⟩ | ⟨p, u, fe1, hp, du, np, s1, t1, w, pi, k⟩
  · exact ⟨_, mk W w tk pi, k _ fun J P H1 fe1 itk s1 hP t1 => for_run hc itk s1 t1 hP h⟩
  · refine ⟨_, ps_lockX tk (fun W' tk' => mk W' w tk' pi), p, u, hp, mut_of du, fun od nf => ?_⟩
    obtain ⟨J, P, itk, hP, r⟩ := k od
    refine r _ ?_
    exact for_run (W := lockW X W p od u) (D := lockD D p od u) hc itk (s1.relock (lks_lock (od := od) hp du) np) Stp.refl hP (EndO.lock np hp du t1 nf h)
theorem forE_at {gt : Tg} {tg it : Expr} {st : Stmt} (tk : Takes X W) (hv : PE X it (tE e X W ie)) (hpa : isPath ie = true → ∃ t, PE X it t ∧ PathR e X ie t) (mk : ∀ W' w, Takes X W' → PI X tg it w → PS X st (tFor w (gOf X.K gt) (tSs e X W' C b)))
    (h : tS e X W C (.forE gt ie b) D σ H) : ∃ t', PS X st t' ∧ t' D σ H := by
  obtain ⟨ρ, fe, G, s, h⟩ := h
  unfold exec at h
  split at h
  · exact h.elim
  rename_i hc
  have hc := Bool.eq_false_iff.mpr hc
  cases q : evE e.T ie ρ with
  | stuck => rw [q] at h; exact h.elim
  | exn x ρ1 =>
    rw [q] at h
    exact ⟨_, mk W _ tk (pi_seq hv), ρ, fe, G, s, by rw [q]; exact fun H1 fe1 s1 t1 => h σ H1 fe1 s1 t1 Same.refl⟩
  | ok ρ1 d =>
    rw [q] at h
    dsimp only at h
    split at h
    · exact h.elim
    cases hi : items2 ie (frz d) with
    | none => rw [hi] at h; exact h.elim
    | some xs =>
      rw [hi] at h
      exact for_at tk hc (walk_at hv hpa s q hi) mk h
theorem forB_at {gt : Tg} {tg it : Expr} {st : Stmt} {p pos : Pos} (tk : Takes X W) (hv : PE X it (tE e X W ie)) (hg : Gl X "reversed") (hm : X.mg "reversed" = none) (ns : noStar it = true) (mk : ∀ W' w, Takes X W' → PI X tg (.Call (.Name "reversed" p) [it] [] pos) w → PS X st (tFor w (gOf X.K gt) (tSs e X W' C b)))
    (h : tS e X W C (.forB gt ie b) D σ H) : ∃ t', PS X st t' ∧ t' D σ H := by
  obtain ⟨ρ, fe, G, s, h⟩ := h
  unfold exec at h
  split at h
  · exact h.elim
  rename_i hc
  have hc := Bool.eq_false_iff.mpr hc
  cases q : evE e.T ie ρ with
  | stuck => rw [q] at h; exact h.elim
  | exn x ρ1 =>
    rw [q] at h
    exact ⟨_, mk W _ tk (RT.pi_revA hg hm hv (starEach_of ns)), ρ, fe, G, s, by rw [q]; exact fun H1 fe1 s1 t1 => h σ H1 fe1 s1 t1 Same.refl⟩
  | ok ρ1 d =>
    rw [q] at h
    dsimp only at h
    split at h
    · exact h.elim
    cases hi : itemsR (frz d) with
    | none => rw [hi] at h; exact h.elim
    | some xs =>
      rw [hi] at h
      exact for_at tk hc (.inl (walk_rev hv hg hm ns s q hi)) mk h
theorem pS_wall {st : Stmt} : PS X st (tS e X W C .wall) := ⟨fun pins s σ H D I h => by
  obtain ⟨ρ, fe, G, s, h⟩ := h
  unfold exec at h
  exact h.elim⟩
/-! ### a range from its end -/
theorem rev_get {xs : List TL.D} {j : Nat} (h : j < xs.length) : xs.reverse[j]? = xs[xs.length - 1 - j]? := by
  rw [List.getElem?_reverse h]
theorem it_rangeC {L : LC} {lo : Int} {n : Nat} : ItOk L (Itc (lo + (n : Int) - 1) (-1) n) (rangeD lo n).reverse fun _ _ => True where
  go := fun _ h => by rw [List.length_reverse, rangeD_len] at h; exact h
  yld := fun {i H T x H'} _ h q => by
    rw [List.length_reverse, rangeD_len] at h
    refine ⟨q.1, .int (lo + (n : Int) - 1 + (i : Int) * (-1)), ?_, by rw [q.2]; exact fz_int⟩
    rw [rev_get (by rw [rangeD_len]; exact h), rangeD_len, rangeD_get (by omega)]
    congr 2
    omega
  stop := fun _ => by rw [List.length_reverse, rangeD_len]; exact Nat.le_refl _
  step := fun _ _ => trivial
def iRevL (t : TA) : TI := fun σ H R => t σ H fun vs H1 => ∃ (lo : Int) (n : Nat), ((∃ j : Int, vs = [.int j] ∧ -(2 ^ 62) ≤ j ∧ j < 2 ^ 62 ∧ lo = 0 ∧ n = j.toNat) ∨ (∃ i j : Int, vs = [.int i, .int j] ∧ (-(2 ^ 62) ≤ i ∧ i < 2 ^ 62 ∧ -(2 ^ 62) ≤ j ∧ j < 2 ^ 62) ∧ lo = i ∧ n = (j - i).toNat)) ∧ R (Itc (lo + (n : Int) - 1) (-1) n) H1
theorem pi_revL1 {tg ea : Expr} {a : IE} {p p2 pos pos2 : Pos} (hg : Gl X "reversed") (hm : X.mg "reversed" = none) (hg2 : Gl X "range") (hm2 : X.mg "range" = none) (ha : PE X ea (tO e X W a)) (ns : noStar ea = true) :
    PI X tg (.Call (.Name "reversed" p) [.Call (.Name "range" p2) [ea] [] pos2] [] pos) (iRevL (tAs e X W [a])) := by
  refine ⟨fun pins s σ H R I h => (pi_revR hg hm (prg_1 hg2 hm2 ha (starEach_of ns)) (starEach_of rfl)).run pins s σ H R I ?_⟩
  refine tO_mono h fun x H1 q => ?_
  obtain ⟨lo, n, q, r⟩ := q
  rcases q with ⟨j, ej, q1, q2, rfl, rfl⟩ | ⟨i, j, ej, _⟩
  · cases ej
    refine ⟨j, rfl, by omega, by omega, q1, q2, ?_⟩
    have : (j - 0).toNat = j.toNat := by rw [Int.sub_zero]
    rw [this]
    exact r
  · cases ej
theorem pi_revL2 {tg ea eb : Expr} {a a2 : IE} {p p2 pos pos2 : Pos} (hg : Gl X "reversed") (hm : X.mg "reversed" = none) (hg2 : Gl X "range") (hm2 : X.mg "range" = none) (ha : PE X ea (tO e X W a)) (hb : PE X eb (tO e X W a2)) (ns : noStar ea = true) (ns2 : noStar eb = true) :
    PI X tg (.Call (.Name "reversed" p) [.Call (.Name "range" p2) [ea, eb] [] pos2] [] pos) (iRevL (tAs e X W [a, a2])) := by
  refine ⟨fun pins s σ H R I h => (pi_revR hg hm (prg_2 hg2 hm2 ha hb (starEach_of ns) (starEach_of ns2) (by rw [starEach_of ns2]; rfl)) (starEach_of rfl)).run pins s σ H R I ?_⟩
  refine tO_mono h fun x H1 q => tO_mono q fun y H2 q => ?_
  obtain ⟨lo, n, q, r⟩ := q
  rcases q with ⟨j, ej, _⟩ | ⟨i, j, ej, q1, rfl, rfl⟩
  · cases ej
  · cases ej
    exact ⟨_, _, rfl, rfl, q1.1, q1.2.1, q1.2.2.1, q1.2.2.2, r⟩
theorem forV_says {i : Nat} (h : tS e X W C (.forV i es b) D σ H) : tFor (iRevL (tAs e X W es)) (gOf X.K (.one i)) (tSs e X W C b) D σ H := by
  obtain ⟨ρ, fe, G, s, h⟩ := h
  unfold exec at h
  split at h
  · exact h.elim
  rename_i hc
  refine evB_ok es ρ H fe G _ s ?_
  cases q : evB e.T es ρ with
  | stuck => rw [q] at h; exact h
  | exn x ρ1 => rw [q] at h; exact fun H1 fe1 s1 t1 => h σ H1 fe1 s1 t1 Same.refl
  | ok ρ1 ds =>
    rw [q] at h
    intro vs H1 fe1 f1 s1 r1 t1
    dsimp only at h
    cases hr : rng (lentB es ds ρ1) with
    | none => rw [hr] at h; exact h.elim
    | some p =>
      obtain ⟨lo, n⟩ := p
      rw [hr] at h
      refine ⟨lo, n, (rng_args s1 r1 hr).elim (fun z => .inl z.2) (fun z => .inr z.2), ?_⟩
      have s1' := s1.drop (f' := []) (fun _ m => nomatch m) List.nodup_nil
      have t1' := t1.trans (Stp.drop (f' := []) (fun _ m => nomatch m))
      exact for_run (gt := .one i) (P := fun _ _ => True) (by show (C.contains i || false) = false; rw [Bool.or_false]; exact Bool.eq_false_iff.mpr hc) it_rangeC s1' t1' trivial h
/-! ### try -/
/-- a clause's suite: slot i takes a value -/
def tSu (e : Pm) (X : Cx) (C : List Nat) (i : Nat) (ie : IE) : TS := fun D σ H => ∃ ρ fe G, SR (e.L X.K) ρ σ H fe [] G ∧ EndO e X WF C D σ H fe G (if C.contains i then .stuck else match evE e.T ie ρ with | .ok ρ2 d => if isLck d then .stuck else .nx (ρ2.set i d) | _ => .stuck)
theorem su_says (h : tSu e X C i ie D σ H) : tAsg (tE e X WF ie) (gName i) D σ H := by
  obtain ⟨ρ, fe, G, s, h⟩ := h
  split at h
  · exact h.elim
  rename_i hc
  refine ⟨ρ, fe, G, s, ?_⟩
  cases q : evE e.T ie ρ with
  | stuck => rw [q] at h; exact h
  | exn x ρ1 => rw [q] at h; exact h.elim
  | ok ρ1 d =>
    rw [q] at h
    intro v H1 fe1 f1 s1 r1 t1
    dsimp only at h
    split at h
    · exact h.elim
    obtain ⟨fe2, s2, t2⟩ := s1.keep (i := i) r1
    exact h _ H1 fe2 s2 (t1.trans t2) (Same.set (Bool.eq_false_iff.mpr hc))
/-- the clauses -/
def hdL (e : Pm) (X : Cx) (C : List Nat) : List (Nat × Nat × IE) → List (Value × (Addr → Value → Option Addr → TS))
  | [] => []
  | (h, i, ie) :: r => (.ref (e.xa h), fun _ _ _ => tSu e X C i ie) :: hdL e X C r
theorem wMany_says {x : Nat} {ρ1 : List TL.D} (hk : e.T.kx x = true) (lk : Lnk X.prog X.w X.K X.mg X.base e o' lv) (s : SR (e.L X.K) ρ1 σ1 H1 fe1 [] G) : ∀ (hs : List (Nat × Nat × IE)), (hs.all fun h => o'.hx h.1) = true →
    EndO e X W C D σ1 H1 fe1 G (match caught e.T x hs with
      | some (i, ie) => if C.contains i then .stuck else match evE e.T ie ρ1 with
        | .ok ρ2 d => if isLck d then .stuck else .nx (ρ2.set i d)
        | _ => .stuck
      | none => .exn x ρ1) → wMany X.K W D (hdL e X C hs) (.ref (e.xa x)) none σ1 H1
  | [], _, h => by
    unfold caught at h
    exact h σ1 H1 fe1 s Stp.refl Same.refl
  | (hh, i, ie) :: r, ho, h => by
    rw [List.all_cons, Bool.and_eq_true] at ho
    unfold caught at h
    refine ⟨e.T.sub x hh, (lk.hx hh ho.1).2.2 x hk, fun hb a na => ?_, fun hb => ?_⟩
    · rw [if_pos hb] at h
      refine ⟨ρ1, fe1, G, s, ?_⟩
      dsimp only at h
      split at h
      · exact h.elim
      · rename_i hc
        rw [if_neg hc]
        cases q : evE e.T ie ρ1 with
        | stuck => rw [q] at h; exact h
        | exn x ρ1 => rw [q] at h; exact h.elim
        | ok ρ2 d =>
          rw [q] at h
          dsimp only at h ⊢
          split at h
          · exact h.elim
          · rename_i hl
            rw [if_neg hl]
            exact h
    · rw [if_neg (by rw [hb]; exact Bool.false_ne_true)] at h
      exact wMany_says hk lk s r ho.2 h
theorem tr_says {hs : List (Nat × Nat × IE)} (lk : Lnk X.prog X.w X.K X.mg X.base e o' lv) (ho : (hs.all fun h => o'.hx h.1) = true) (h : tS e X W C (.tr b hs) D σ H) : tSs e X (wMany X.K W D (hdL e X C hs)) C b D σ H := by
  obtain ⟨ρ, fe, G, s, h⟩ := h
  unfold exec at h
  refine ⟨ρ, fe, G, s, ?_⟩
  cases q : execs e.T C b ρ with
  | nx ρ1 => rw [q] at h; exact h
  | rt ρ1 d => rw [q] at h; exact h
  | bk ρ1 => rw [q] at h; exact h
  | ct ρ1 => rw [q] at h; exact h
  | stuck => rw [q] at h; exact h
  | exn x ρ1 =>
    rw [q] at h
    intro σ1 H1 fe1 s1 t1 m1
    dsimp only at h
    split at h
    · exact h.elim
    rename_i hk
    exact wMany_says (by simpa using hk) lk s1 hs ho (EndO.after h t1 m1)
end
end TL

namespace TL
open PySem PySem.Spec PyProof.Rows L2

section
variable {L : LC} {σ : L2.St} {H : Hp} {fe : List Addr} {G : AP} {ρ : List TL.D} {T : AP}
theorem KL.len : ∀ {kvs : List (Key × List TL.D)} {kws : List (Key × V)} {f : List Addr}, KL L H T kvs kws f → kws.length = kvs.length
  | [], _, _, h => by rw [h.1]; rfl
  | (k', xs) :: r, _, _, h => by
    obtain ⟨b, vs, ws', f', rfl, rfl, e, z, h2⟩ := h
    show ws'.length + 1 = r.length + 1
    rw [h2.len]
theorem KL.snoc {q : Key} {b : Addr} : ∀ {kvs : List (Key × List TL.D)} {kws : List (Key × V)} {f : List Addr}, H b = some (.lst []) → KL L H T kvs kws f → KL L H T (kvs ++ [(q, [])]) (kws ++ [(q, .ref b)]) (f ++ [b])
  | [], _, _, e, h => by
    obtain ⟨rfl, rfl⟩ := h
    exact ⟨b, [], [], [], rfl, rfl, e, by unfold Fzs; rfl, rfl, rfl⟩
  | (k', xs) :: r, _, _, e, h => by
    obtain ⟨b', vs, ws', f', rfl, rfl, e2, z, h2⟩ := h
    exact ⟨b', vs, _, _, rfl, rfl, e2, z, h2.snoc e⟩
/-- a list of ours grows -/
theorem KL.grow {q : Key} {d : TL.D} {x : V} : ∀ {kvs : List (Key × List TL.D)} {kws : List (Key × V)} {f : List Addr} {xs : List TL.D}, f.Nodup → (∀ a ∈ f, T a) → KL L H T kvs kws f → lget q kvs = some xs → Fz L H T d x →
    ∃ b vs, b ∈ f ∧ valV kws q = some (.ref b) ∧ H b = some (.lst vs) ∧ vs.length = xs.length ∧ KL L (upd H b (.lst (vs ++ [x]))) T (lset q (xs ++ [d]) kvs) kws f
  | [], _, _, _, _, _, _, h, _ => by cases h
  | (k', ys) :: r, _, _, xs, nd, tt, h, hl, zd => by
    obtain ⟨b, vs, ws', f', rfl, rfl, e, z, h2⟩ := h
    obtain ⟨n1, n2⟩ := List.nodup_cons.mp nd
    unfold lget at hl
    by_cases e1 : k' = q
    · rw [if_pos e1] at hl
      cases hl
      have fr : Frz H T (upd H b (.lst (vs ++ [x]))) T := fun a o n w => ⟨by rw [upd_ne (fun z => n (by rw [z]; exact tt b List.mem_cons_self))]; exact w, n⟩
      refine ⟨b, vs, List.mem_cons_self, by rw [valV_pos (p := (k', V.ref b)) e1], e, z.len, ?_⟩
      unfold lset
      rw [if_pos e1]
      refine ⟨b, vs ++ [x], ws', f', rfl, rfl, upd_same, Fzs.step fr _ _ (z.append (Fzs.one zd)), KL.step fr (fun a o m w => ?_) h2⟩
      rw [upd_ne (fun z => n1 (by rw [← z]; exact m))]; exact w
    · rw [if_neg e1] at hl
      obtain ⟨b2, vs2, m2, v2, e2, l2, k2⟩ := KL.grow (xs := xs) n2 (fun a m => tt a (List.mem_cons_of_mem _ m)) h2 hl zd
      have nb : b ≠ b2 := fun z => n1 (by rw [z]; exact m2)
      have fr : Frz H T (upd H b2 (.lst (vs2 ++ [x]))) T := fun a o n w => ⟨by rw [upd_ne (fun z => n (by rw [z]; exact tt b2 (List.mem_cons_of_mem _ m2)))]; exact w, n⟩
      refine ⟨b2, vs2, List.mem_cons_of_mem _ m2, by rw [valV_neg (p := (k', V.ref b)) e1]; exact v2, e2, l2, ?_⟩
      unfold lset
      rw [if_neg e1]
      exact ⟨b, vs, ws', f', rfl, rfl, by rw [upd_ne nb]; exact e, Fzs.step fr _ _ z, k2⟩
/-- our dict of lists in a slot -/
theorem SR.dls {i : Nat} {kvs : List (Key × List TL.D)} (s : SR L ρ σ H fe [] G) (hd : ρ[i]? = some (.dls kvs)) : ∃ p kws f, σ[i]? = some (some (.ref p)) ∧ H p = some (.dK kws) ∧ KL L H (Rv fe [] G) kvs kws f ∧ (p :: f).Nodup ∧ (∀ a ∈ p :: f, a ∈ fe) ∧
    ∀ (H' : Hp) (f' : List Addr) (kvs' : List (Key × List TL.D)) (kws' : List (Key × V)), (∀ a ∈ f, a ∈ f') → (∀ a ∈ f', a ∈ f ∨ H a = none) → (p :: f').Nodup → (∀ a o, a ∉ p :: f → H a = some o → H' a = some o) → (∀ a ∈ p :: f', H' a ≠ none) → H' p = some (.dK kws') →
      (∀ fe', (∀ a, Rv fe [] G a → Rv fe' [] G a) → (∀ a ∈ f', Rv fe' [] G a) → (∀ a o, ¬ Rv fe [] G a → H a = some o → ¬ Rv fe' [] G a) → KL L H' (Rv fe' [] G) kvs' kws' f') →
      ∃ fe', SR L (ρ.set i (.dls kvs')) σ H' fe' [] G ∧ Stp H fe [] G H' fe' [] := by
  obtain ⟨o, l, f0, r, e1, rfl, q0, go⟩ := s.env.focus hd
  obtain ⟨v, rfl, p, kws, f, ev, ef, e3, kl⟩ := q0
  subst ev ef
  have hlen : i < σ.length := by
    rcases Nat.lt_or_ge i σ.length with h | h
    · exact h
    · rw [List.getElem?_eq_none h] at e1; cases e1
  have es : σ.set i (some (.ref p)) = σ := by
    apply List.ext_getElem?
    intro j
    by_cases hj : i = j
    · subst hj
      rw [List.getElem?_set_self hlen, e1]
    · rw [List.getElem?_set_ne hj]
  obtain ⟨n1, _, _⟩ := List.nodup_append.mp s.nd
  obtain ⟨m1, m2, m3⟩ := List.nodup_append.mp n1
  obtain ⟨k1, k2, k3⟩ := List.nodup_append.mp m2
  have inc : ∀ a ∈ p :: f, a ∈ l ++ ((p :: f) ++ r) := fun a m => List.mem_append_right _ (List.mem_append_left _ m)
  refine ⟨p, kws, f, e1, e3, kl, k1, inc, fun H' f' kvs' kws' sub new nd' keep ex hp hk => ?_⟩
  have dead : ∀ a, H a = none → ¬ Rv (l ++ ((p :: f) ++ r)) [] G a := fun a q z => s.dm a z q
  have up : ∀ a, Rv (l ++ ((p :: f) ++ r)) [] G a → Rv (l ++ ((p :: f') ++ r)) [] G a := fun a q => by
    rcases q with q | q | q
    · refine .inl ?_
      rcases List.mem_append.mp q with q | q
      · exact List.mem_append_left _ q
      · rcases List.mem_append.mp q with q | q
        · refine List.mem_append_right _ (List.mem_append_left _ ?_)
          rcases List.mem_cons.mp q with q | q
          · rw [q]; exact List.mem_cons_self
          · exact List.mem_cons_of_mem _ (sub a q)
        · exact List.mem_append_right _ (List.mem_append_right _ q)
    · cases q
    · exact .inr (.inr q)
  have dn : ∀ a, Rv (l ++ ((p :: f') ++ r)) [] G a → Rv (l ++ ((p :: f) ++ r)) [] G a ∨ (a ∈ f' ∧ H a = none) := fun a q => by
    rcases q with q | q | q
    · rcases List.mem_append.mp q with q | q
      · exact .inl (.inl (List.mem_append_left _ q))
      · rcases List.mem_append.mp q with q | q
        · rcases List.mem_cons.mp q with z | q
          · exact .inl (.inl (inc a (by rw [z]; exact List.mem_cons_self)))
          · rcases new a q with z | z
            · exact .inl (.inl (inc a (List.mem_cons_of_mem _ z)))
            · exact .inr ⟨q, z⟩
        · exact .inl (.inl (List.mem_append_right _ (List.mem_append_right _ q)))
    · cases q
    · exact .inl (.inr (.inr q))
  have fr : Frz H (Rv (l ++ ((p :: f) ++ r)) [] G) H' (Rv (l ++ ((p :: f') ++ r)) [] G) := fun a o n q => ⟨keep a o (fun m => n (.inl (inc a m))) q, fun z => by
    rcases dn a z with z | z
    · exact n z
    · rw [z.2] at q; cases q⟩
  have far : ∀ a, a ∈ l ∨ a ∈ r → a ∉ p :: f := fun a m z => by
    rcases m with m | m
    · exact m3 a m a (List.mem_append_left _ z) rfl
    · exact k3 a z a m rfl
  have g := go H' (Rv (l ++ ((p :: f') ++ r)) [] G) (.dls kvs') (some (.ref p)) (p :: f') fr (fun a u m q => keep a u (far a m) q) ⟨.ref p, rfl, p, kws', f', rfl, rfl, hp, hk _ up (fun a m => .inl (List.mem_append_right _ (List.mem_append_left _ (List.mem_cons_of_mem _ m)))) fun a o n q => (fr a o n q).2⟩
  rw [es] at g
  refine ⟨l ++ ((p :: f') ++ r), ⟨g, ?_, fun a m => ?_, fun a q => ?_⟩, fr, fun a o g q => keep a o (fun m => s.dj a (.inl (inc a m)) g) q⟩
  · rw [List.append_nil]
    have nw : ∀ a ∈ p :: f', a ∉ l ∧ a ∉ r := fun a m => by
      rcases List.mem_cons.mp m with m | m
      · rw [m]
        exact ⟨fun z => far p (.inl z) List.mem_cons_self, fun z => far p (.inr z) List.mem_cons_self⟩
      · rcases new a m with z | z
        · exact ⟨fun y => far a (.inl y) (List.mem_cons_of_mem _ z), fun y => far a (.inr y) (List.mem_cons_of_mem _ z)⟩
        · exact ⟨fun y => dead a z (.inl (List.mem_append_left _ y)), fun y => dead a z (.inl (List.mem_append_right _ (List.mem_append_right _ y)))⟩
    refine List.nodup_append.mpr ⟨m1, List.nodup_append.mpr ⟨nd', k2, fun a x b y z => (nw a x).2 (by rw [z]; exact y)⟩, fun a x b y z => ?_⟩
    rcases List.mem_append.mp y with y | y
    · exact (nw b y).1 (by rw [← z]; exact x)
    · exact m3 a x b (List.mem_append_right _ y) z
  · rcases m with m | m
    · rcases dn a (.inl m) with z | z
      · rcases z with z | z | z
        · exact s.dj a (.inl z)
        · cases z
        · rcases List.mem_append.mp m with m | m
          · exact s.dj a (.inl (List.mem_append_left _ m))
          · rcases List.mem_append.mp m with m | m
            · rcases List.mem_cons.mp m with m | m
              · exact s.dj a (.inl (inc a (by rw [m]; exact List.mem_cons_self)))
              · rcases new a m with y | y
                · exact s.dj a (.inl (inc a (List.mem_cons_of_mem _ y)))
                · exact absurd y (s.dm a (.inr (.inr z)))
            · exact s.dj a (.inl (List.mem_append_right _ (List.mem_append_right _ m)))
      · exact fun g => s.dm a (.inr (.inr g)) z.2
    · cases m
  · by_cases z : a ∈ p :: f'
    · exact ex a z
    · rcases dn a q with y | y
      · cases w : H a with
        | none => exact absurd w (s.dm a y)
        | some o =>
          rw [keep a o (fun m => z (by
            rcases List.mem_cons.mp m with m | m
            · rw [m]; exact List.mem_cons_self
            · exact List.mem_cons_of_mem _ (sub a m))) w]
          exact fun z => nomatch z
      · exact absurd (List.mem_cons_of_mem _ y.1) z
end
section
variable {e : Pm} {X : Cx} {W : WX} {C : List Nat} {c : CK} {lv : Nat} {D : Ends} {σ : L2.St} {H : Hp} {i j l : Nat} {ob kx vx : Expr} {p pos apos cpos lp : Pos}
theorem slot_at {L : LC} {ρ : List TL.D} {fe : List Addr} {G : AP} {d : TL.D} (h : ρ.getD i .und = d) (n : isLck d = false) (s : SR L ρ σ H fe [] G) (no : isOwn d = false) : ∃ v, σ[i]? = some (some v) ∧ Fz L H (Rv fe [] G) d v := by
  obtain ⟨v, f, e1, r, _⟩ := s.get (getD_some h n) n
  exact ⟨v, e1, (r.fz_of no).2⟩
theorem key_flat {d : TL.D} {q : Key} (h : keyOf d = some q) : isLck d = false ∧ isOwn d = false := by
  cases d <;> first | exact ⟨rfl, rfl⟩ | (unfold keyOf at h; cases h)
theorem setIxL_says (h : tS e X W C (.setIxL i j) D σ H) : tAsg (tLst tNil) (gSub (tVar i) (tVar j) rSetD) D σ H := by
  obtain ⟨ρ, fe, G, s, h⟩ := h
  unfold exec at h
  split at h
  · rename_i d' hp
    unfold putL at hp
    split at hp
    · rename_i kvs hd
      split at hp
      · rename_i q hq
        split at hp
        · rename_i hc
          rw [Bool.and_eq_true] at hc
          cases hp
          obtain ⟨p, kws, f, ei, e3, kl, nd, inc, go⟩ := s.dls (getD_some hd rfl)
          obtain ⟨nl, no⟩ := key_flat hq
          obtain ⟨v, ej, zv⟩ := slot_at rfl nl s no
          have ev := keyOf_v (Rep.of_fz zv) hq
          subst ev
          have hnone : lget q kvs = none := Option.isNone_iff_eq_none.mp hc.2
          have hval : valV kws q = none := by
            rcases kl.get q with z | ⟨xs, b, vs, z, _⟩
            · exact z.2
            · rw [hnone] at z; cases z
          refine ⟨Nat.zero_le _, fun t ht => ⟨_, ei, _, ej, p, _, rfl, DPut.k (kvs := kws) (k := q) ?_ (by rw [kl.len]; exact big_line hc.1), ?_⟩⟩
          · rw [upd_ne (ne_of_none e3 ht)]; exact e3
          have hput : putK kws q (.ref t) = kws ++ [(q, .ref t)] := by
            unfold putK
            rw [valV_any, hval]
            rfl
          rw [hput]
          have tp : t ≠ p := fun z => by rw [z, e3] at ht; cases ht
          have tf : t ∉ f := fun m => s.dm t (.inl (inc t (List.mem_cons_of_mem _ m))) ht
          obtain ⟨n1, n2⟩ := List.nodup_cons.mp nd
          obtain ⟨fe', s2, t2⟩ := go (upd (upd H t (.lst [])) p (.dK (kws ++ [(q, .ref t)]))) (f ++ [t]) (kvs ++ [(q, [])]) (kws ++ [(q, .ref t)]) (fun a m => List.mem_append_left _ m)
            (fun a m => (List.mem_append.mp m).imp id fun m => by rw [List.mem_singleton.mp m]; exact ht)
            (List.nodup_cons.mpr ⟨fun m => (List.mem_append.mp m).elim n1 fun m => tp (List.mem_singleton.mp m).symm, List.nodup_append.mpr ⟨n2, List.nodup_cons.mpr ⟨by simp, List.nodup_nil⟩, fun a x b y z => tf (by rw [← List.mem_singleton.mp y, ← z]; exact x)⟩⟩)
            (fun a o n w => by rw [upd_ne (fun z => n (by rw [z]; exact List.mem_cons_self)), upd_ne (ne_of_none w ht)]; exact w)
            (fun a m => by
              by_cases z : a = p
              · rw [z, upd_same]; exact fun z => nomatch z
              · rw [upd_ne z]
                by_cases y : a = t
                · rw [y, upd_same]; exact fun z => nomatch z
                · rw [upd_ne y]
                  rcases List.mem_cons.mp m with m | m
                  · exact absurd m z
                  · rcases List.mem_append.mp m with m | m
                    · exact s.dm a (.inl (inc a (List.mem_cons_of_mem _ m)))
                    · exact absurd (List.mem_singleton.mp m) y) upd_same
            (fun fe' up inn out => KL.snoc (by rw [upd_ne tp, upd_same]) (KL.step (fun a o n w => ⟨by rw [upd_ne (fun z => n (.inl (inc a (by rw [z]; exact List.mem_cons_self)))), upd_ne (ne_of_none w ht)]; exact w, out a o n w⟩)
              (fun a o m w => by rw [upd_ne (fun z => n1 (by rw [← z]; exact m)), upd_ne (fun z => tf (by rw [← z]; exact m))]; exact w) kl))
          exact h σ _ fe' s2 t2 Same.refl
        · cases hp
      · cases hp
    · cases hp
  · exact h.elim
theorem pS_setIxL (hu : X.A.units + 1 < cLine) (ho : PE X ob (tVar i)) (hk : PE X kx (tVar j)) (hp : plainIxB kx = true) : PS X (.Assign [.Subscript ob kx p] (.List [] lp) pos) (tS e X W C (.setIxL i j)) := by
  refine PS.mk' fun D σ H h => ⟨_, ps_asg (pe_lst pa_nil) (pg_sub ho hk (set_dict hu) (fun v => ?_)) ?_ rfl rfl, setIxL_says h⟩
  · cases kx <;> first | rfl | cases hp
  · rfl
theorem pushIx_says (h : tS e X W C (.pushIx i j l) D σ H) : tDrop (tBM X.K "list" rAppend (tDGet (tVar i) (tVar j)) (tCons (tVar l) tNil)) D σ H := by
  obtain ⟨ρ, fe, G, s, h⟩ := h
  unfold exec at h
  split at h
  · exact h.elim
  rename_i hb
  rw [Bool.or_eq_true, not_or] at hb
  split at h
  · rename_i d' hp
    unfold growL at hp
    split at hp
    · rename_i kvs hd
      split at hp
      · rename_i q hq
        split at hp
        · rename_i xs hx
          split at hp
          · rename_i hl
            cases hp
            obtain ⟨p, kws, f, ei, e3, kl, nd, inc, go⟩ := s.dls (getD_some hd rfl)
            obtain ⟨nl, no⟩ := key_flat hq
            obtain ⟨v, ej, zv⟩ := slot_at rfl nl s no
            have ev := keyOf_v (Rep.of_fz zv) hq
            subst ev
            obtain ⟨x, el, zx⟩ := slot_at (i := l) rfl (Bool.eq_false_iff.mpr hb.1) s (Bool.eq_false_iff.mpr hb.2)
            obtain ⟨n1, n2⟩ := List.nodup_cons.mp nd
            obtain ⟨b, vs, mb, hv, eb, lb, kg⟩ := KL.grow n2 (fun a m => .inl (inc a (List.mem_cons_of_mem _ m))) kl hx zx
            have bp : p ≠ b := fun z => n1 (by rw [z]; exact mb)
            refine ⟨_, ei, _, ej, p, .ref b, rfl, by rw [← hv]; exact .inl ⟨kws, q, .inl e3, rfl, rfl⟩, .inl ⟨rfl, vs, .inl (.inl eb)⟩, x, el, b, vs, x, rfl, rfl, eb, by rw [lb]; exact big_line hl, ?_⟩
            have fr : Frz H (Rv fe [] G) (upd H b (.lst (vs ++ [x]))) (Rv fe [] G) := fun a o n w => ⟨by rw [upd_ne (fun z => n (.inl (inc a (by rw [z]; exact List.mem_cons_of_mem _ mb))))]; exact w, n⟩
            obtain ⟨fe', s2, t2⟩ := go (upd H b (.lst (vs ++ [x]))) f (lset q (xs ++ [_]) kvs) kws (fun a m => m) (fun a m => .inl m) nd
              (fun a o n w => by rw [upd_ne (fun z => n (by rw [z]; exact List.mem_cons_of_mem _ mb))]; exact w)
              (fun a m => by
                by_cases z : a = b
                · rw [z, upd_same]; exact fun z => nomatch z
                · rw [upd_ne z]; exact s.dm a (.inl (inc a m))) (by rw [upd_ne bp]; exact e3)
              (fun fe' up inn out => KL.step (H' := upd H b (.lst (vs ++ [x]))) (fun a o n w => ⟨w, fun z => by
                by_cases y : a = b
                · exact n (.inl (inc a (by rw [y]; exact List.mem_cons_of_mem _ mb)))
                · rw [upd_ne y] at w
                  exact out a o n w z⟩) (fun a o m w => w) kg)
            exact h σ _ fe' s2 t2 Same.refl
          · cases hp
        · cases hp
      · cases hp
    · cases hp
  · exact h.elim
theorem pS_pushIx (hu : X.A.units + 1 < cLine) (ho : PE X ob (tVar i)) (hk : PE X kx (tVar j)) (hp : plainIxB kx = true) (hv : PE X vx (tVar l)) (n1 : noStar vx = true) (h4 : (apos.endLine == cpos.line) = true) :
    PS X (.Expr (.Call (.Attribute (.Subscript ob kx p) "append" apos) [vx] [] cpos) pos) (tS e X W C (.pushIx i j l)) := by
  refine PS.mk' fun D σ H h => ⟨_, ps_expr (pe_bm PySem.F.plainAttrs_list PySem.F.slot_list_append PySem.F.type_list_append mt_append (pe_dget hu ho hk ?_) (pa_cons hv pa_nil (starEach_of n1)) (base_of rfl) (by rw [starEach_of n1]; rfl) h4 (starEach_of n1) rfl) rfl, pushIx_says h⟩
  intro _ _
  cases kx <;> first | rfl | cases hp
end
end TL

namespace TL
open PySem PySem.Spec PyProof.Rows L2

/-! ### the code of a statement -/
def noComp : Expr → Bool
  | .ListComp _ _ _ _ | .SetComp _ _ _ _ | .DictComp _ _ _ _ _ => false
  | _ => true
def swB (c : CK) (x : Str) (p : Pos) : Expr → Bool
  | .ListComp _ _ s q => decide (c.sc.names.lookup x = some .local) && (p.line == q.line) && !(s.names.any fun (n, k) => n == x && (k == .local || k == .cell))
  | _ => false
def isLC : Expr → Bool
  | .ListComp _ _ _ _ => true
  | _ => false
def isCompI : IE → Bool
  | .cRng _ _ _ _ => true
  | .cSeq _ _ _ _ => true
  | .cRev _ _ _ _ => true
  | _ => false
def shAsg : Stmt → Option (Str × Pos × Expr × Pos)
  | .Assign [.Name x p] ex pos => some (x, p, ex, pos)
  | _ => none
def tupOk (n : Nat) : Expr → Bool
  | .Tuple _ _ _ => decide (3 < n)
  | _ => true
def shAsgT : Stmt → Option (List Expr × Expr)
  | .Assign [.Tuple xs _ _] ex _ => if tupOk xs.length ex then some (xs, ex) else none
  | _ => none
def shPar (c : CK) (i j : Nat) : Stmt → Option (Expr × Expr)
  | .Assign [.Tuple [.Name x px, .Name y py] _ _] (.Tuple [a, b] _ _) _ =>
    if decide (c.N[i]? = some x) && decide (c.N[j]? = some y) && decide (i ≠ j) && decide (c.sc.names.lookup x = some .local) && decide (c.sc.names.lookup y = some .local) && (py.line == px.line) && decide (x ≠ y) && noStar a && noStar b &&
      !([a, b].all (foldedForSure 8)) && !([a, b].all (constantsAlone 8)) then some (a, b) else none
  | _ => none
def shSub : Stmt → Option (Expr × Expr × Expr)
  | .Assign [.Subscript ob k _] ex _ => if plainIxB k then some (ob, k, ex) else none
  | _ => none
def augOp : Bool → Operator
  | true => .Add
  | false => .Sub
def shAugS (b : Bool) : Stmt → Option (Expr × Expr × Expr)
  | .AugAssign (.Subscript ob k _) op ex _ => if decide (op = augOp b) && plainIxB k then some (ob, k, ex) else none
  | _ => none
def shAug : Stmt → Option (Str × Expr)
  | .AugAssign (.Name x _) .Add ex _ => some (x, ex)
  | _ => none
def shAtt (nm : Nm) (f : Nat) : Stmt → Option (Expr × Expr)
  | .Assign [.Attribute ob m _] ex _ => if m = nm.fd f then some (ob, ex) else none
  | _ => none
def shDo (m : Str) : Stmt → Option (Expr × List Expr)
  | .Expr (.Call (.Attribute ob n apos) args [] cpos) _ => if decide (n = m) && noSup ob && args.all noStar && (apos.endLine == cpos.line) then some (ob, args) else none
  | _ => none
def shExpr : Stmt → Option Expr
  | .Expr ex _ => if noComp ex then some ex else none
  | _ => none
def shIfS : Stmt → Option (Expr × List Stmt × List Stmt)
  | .If t a b _ => if testy t then some (t, a, b) else none
  | _ => none
def shWhl : Stmt → Option (Expr × List Stmt)
  | .While t b [] _ => if testy t then some (t, b) else none
  | _ => none
def shFor : Stmt → Option (Expr × Expr × List Stmt)
  | .For tg it b [] _ => if foldless it then some (tg, it, b) else none
  | _ => none
def shRev (o : Oks) (sc : Scope) : Expr → Option Expr
  | .Call (.Name x _) [it] [] _ => if decide (x = "reversed") && isBt o sc "reversed" then some it else none
  | _ => none
def shRet : Stmt → Option Expr
  | .Return (some ex) _ => some ex
  | _ => none
def shRetN : Stmt → Bool
  | .Return none _ => true
  | _ => false
def shRaise (nm : Nm) (o : Oks) (c : CK) (x : Nat) : Stmt → Bool
  | .Raise (some (.Call (.Name y _) [.Constant (.str _) _ _] [] _)) none _ => decide (y = nm.ex x) && o.ex x && isGl c.sc y
  | _ => false
def shPass : Stmt → Bool
  | .Pass _ => true
  | .Expr (.Constant (.str _) _ _) _ => true
  | _ => false
def shBrk : Stmt → Bool
  | .Break _ => true | _ => false
def shCnt : Stmt → Bool
  | .Continue _ => true | _ => false
/-- written values alone -/
def chkL : List IE → List Expr → Bool
  | [], [] => true
  | .lit d :: r, x :: xs => shLit d x && noStar x && chkL r xs
  | _, _ => false
def chkW : IE → Expr → Bool
  | .lit d, x => shLit d x
  | .lst es, .List xs _ => decide (es.length ≤ 1000) && chkL es xs
  | _, _ => false
def shHd : ExceptHandler → Option (Str × Str × Expr)
  | .ExceptHandler (some (.Name x _)) none [.Assign [.Name y _] ex _] _ => some (x, y, ex)
  | _ => none
def chkHd (nm : Nm) (o : Oks) (c : CK) (h i : Nat) (ie : IE) (hd : ExceptHandler) : Bool := match shHd hd with
  | some (x, y, ex) => decide (x = nm.ex h) && o.hx h && isGl c.sc x && decide (c.N[i]? = some y) && isLoc c y && noComp ex && chkW ie ex
  | none => false
def chkHs (nm : Nm) (o : Oks) (c : CK) : List (Nat × Nat × IE) → List ExceptHandler → Bool
  | [], hx => hx.isEmpty
  | (h, i, ie) :: r, hx => match hx with
    | [] => false
    | hd :: hs => chkHd nm o c h i ie hd && chkHs nm o c r hs
def shNil : Expr → Bool
  | .List [] _ => true
  | _ => false
def shSubE : Expr → Option (Expr × Expr)
  | .Subscript ob k _ => if plainIxB k then some (ob, k) else none
  | _ => none
def shTry : Stmt → Option (List Stmt × List ExceptHandler)
  | .Try b hs [] [] _ => some (b, hs)
  | _ => none
mutual
def chkS (nm : Nm) (o : Oks) (ar : Nat → Nat) (c : CK) : IS → Stmt → Bool
  | .set i e, st => match shAsg st with
    | some (x, p, ex, _) => decide (c.N[i]? = some x) && isLoc c x && (isLC ex || noComp ex) && (!swB c x p ex || isCompI e) && chkE nm o ar c e ex
    | none => false
  | .setT is e, st => match shAsgT st with
    | some (xs, ex) => chkTN c is xs && chkE nm o ar c e ex
    | none => false
  | .par i j a b, st => match shPar c i j st with
    | some (x, y) => chkE nm o ar c a x && chkE nm o ar c b y
    | none => false
  | .setIx i k e, st => match shSub st with
    | some (ob, kx, ex) => chkV c i ob && chkE nm o ar c k kx && chkE nm o ar c e ex
    | none => false
  | .augIx i k b e, st => match shAugS b st with
    | some (ob, kx, ex) => chkV c i ob && chkE nm o ar c k kx && chkE nm o ar c e ex
    | none => false
  | .aug i e, st => match shAug st with
    | some (x, ex) => decide (c.N[i]? = some x) && isLoc c x && chkE nm o ar c e ex
    | none => false
  | .setF i cl f e, st => match shAtt nm f st with
    | some (ob, ex) => o.fl cl f && chkV c i ob && chkE nm o ar c e ex
    | none => false
  | .push i e, st => match shDo "append" st with
    | some (ob, [x]) => chkV c i ob && chkE nm o ar c e x
    | _ => false
  | .ins i k e, st => match shDo "insert" st with
    | some (ob, [x, y]) => chkV c i ob && chkE nm o ar c k x && chkE nm o ar c e y
    | _ => false
  | .clr i, st => match shDo "clear" st with
    | some (ob, []) => chkV c i ob
    | _ => false
  | .expr e, st => match shExpr st with
    | some ex => chkE nm o ar c e ex
    | none => false
  | .ife t a b, st => match shIfS st with
    | some (tx, sa, sb) => chkE nm o ar c t tx && chkSs nm o ar c a sa && chkSs nm o ar c b sb
    | none => false
  | .whl _ t b, st => match shWhl st with
    | some (tx, sb) => chkE nm o ar c t tx && chkSs nm o ar c b sb
    | none => false
  | .forR i es b, st => match shFor st with
    | some (tg, it, sb) => chkT1 c i tg && (match shRng o c.sc it with
      | some xs => chkEs nm o ar c es xs
      | none => false) && chkSs nm o ar c b sb
    | none => false
  | .forV i es b, st => match shFor st with
    | some (tg, it, sb) => chkT1 c i tg && (match shRev o c.sc it with
      | some it2 => (match shRng o c.sc it2 with
        | some xs => chkEs nm o ar c es xs
        | none => false)
      | none => false) && chkSs nm o ar c b sb
    | none => false
  | .forE g e b, st => match shFor st with
    | some (tg, it, sb) => chkTg c g tg && chkE nm o ar c e it && chkSs nm o ar c b sb
    | none => false
  | .forB g e b, st => match shFor st with
    | some (tg, it, sb) => chkTg c g tg && (match shRevL o c.sc it with
      | some x => chkE nm o ar c e x
      | none => false) && chkSs nm o ar c b sb
    | none => false
  | .wall, st => true
  | .setIxL i j, st => match shSub st with
    | some (ob, kx, ex) => chkV c i ob && chkV c j kx && shNil ex
    | none => false
  | .pushIx i j l, st => match shDo "append" st with
    | some (ob, [vx]) => (match shSubE ob with
      | some (ob2, kx) => chkV c i ob2 && chkV c j kx && chkV c l vx
      | none => false)
    | _ => false
  | .ret e, st => match shRet st with
    | some ex => chkE nm o ar c e ex
    | none => false
  | .retM i, st => match shRet st with
    | some ex => chkV c i ex
    | none => false
  | .retN, st => shRetN st
  | .raise x, st => shRaise nm o c x st
  | .tr b hs, st => match shTry st with
    | some (sb, hx) => chkSs nm o ar c b sb && chkHs nm o c hs hx && !hs.isEmpty
    | none => false
  | .pass, st => shPass st
  | .brk, st => shBrk st
  | .cnt, st => shCnt st
def chkSs (nm : Nm) (o : Oks) (ar : Nat → Nat) (c : CK) : List IS → List Stmt → Bool
  | [], sts => sts.isEmpty
  | i :: is, sts => match sts with
    | [] => false
    | st :: r => chkS nm o ar c i st && chkSs nm o ar c is r
end
end TL

namespace TL
open PySem PySem.Spec PyProof.Rows L2

/-- the context of a def's statements -/
structure GS (X : Cx) (W : WX) (c : CK) (lv : Nat) : Prop where
  gx : GX X W c lv
  tk : Takes X W
  po : PassesOwn (model X.prog X.w) X.A X.env X.xe
  hs : X.stack = X.env :: X.outer
  hf : X.env.frame = some X.env.locals
  kd : X.env.scope.kind = .function
section
variable {e : Pm} {lv : Nat} {o : Oks} {X : Cx} {W : WX} {c : CK} {C : List Nat} {st : Stmt} {ex ob : Expr} {nm : Nm} {i j : Nat} {ie k : IE}
theorem isLoc_of {x : Str} (g : GX X W c lv) (h : isLoc c x = true) : X.env.scope.names.lookup x = some .local ∨ (X.env.scope.names.lookup x = some .cell ∧ X.fn x = true) := by
  unfold isLoc at h
  rw [g.sc]
  split at h
  · rename_i q; exact .inl q
  · rename_i q; exact .inr ⟨q, g.fnn h x⟩
  · cases h
theorem blockKind_of (g : GS X W c lv) : X.env.blockKind = .function := by unfold Env.blockKind; rw [g.kd]; rfl
theorem sw_is (g : GS X W c lv) {x : Str} {p : Pos} {n : Nat} : swapsWith ex (some (.Name x p)) n X.env = pure (swB c x p ex) ∨ (noComp ex = false ∧ isLC ex = false) := by
  cases ex with
  | ListComp elt gs s q =>
    left
    unfold swapsWith swB
    dsimp only
    have kk : (X.env.kindOf x == some NameKind.local) = decide (c.sc.names.lookup x = some .local) := by
      show (X.env.scope.names.lookup x == some NameKind.local) = _
      rw [g.gx.sc]
      exact Bool.beq_eq_decide_eq _ _
    show pure (X.env.blockKind == .function && X.env.kindOf x == some .local && p.line == q.line && !(s.names.any fun (n, k) => n == x && (k == .local || k == .cell))) = _
    rw [blockKind_of g, kk]
    rfl
  | SetComp _ _ _ _ => exact .inr ⟨rfl, rfl⟩
  | DictComp _ _ _ _ _ => exact .inr ⟨rfl, rfl⟩
  | _ => exact .inl rfl
theorem sw_false (g : GS X W c lv) {x : Str} {p : Pos} {n : Nat} (h1 : (isLC ex || noComp ex) = true) (h2 : swB c x p ex = false) : swapsWith ex (some (.Name x p)) n X.env = pure false := by
  rcases sw_is (ex := ex) g (x := x) (p := p) (n := n) with h | h
  · rw [h, h2]
  · rw [h.1, h.2] at h1
    cases h1
/-- a name takes a comprehension on its own line -/
theorem setLc_ok {x : Str} {p pos : Pos} (g : GS X W c lv) (lk : Lnk X.prog X.w X.K X.mg X.base e o lv) (hi : X.N[i]? = some x) (hs : swB c x p ex = true) (hc : isCompI ie = true) (h : chkE e.nm o e.ar c ie ex = true) :
    PS X (.Assign [.Name x p] ex pos) (tS e X W C (.set i ie)) := by
  have hN : X.N.Nodup := by rw [g.gx.hN]; exact g.gx.nd
  have hsw := sw_is (ex := ex) g (x := x) (p := p) (n := pos.line)
  rw [hs] at hsw
  have hsw : swapsWith ex (some (.Name x p)) pos.line X.env = pure true := hsw.elim id fun z => by
    exfalso
    have z2 := z.2
    cases ex <;> first | (cases hs; done) | (cases z2; done)
  have hl : X.env.scope.names.lookup x = some .local := by
    rw [g.gx.sc]
    unfold swB at hs
    split at hs
    case h_2 => cases hs
    rw [Bool.and_eq_true, Bool.and_eq_true] at hs
    exact of_decide_eq_true hs.1.1
  cases ie with
  | cRng elt i' es ifs =>
    unfold chkE at h
    split at h
    · rename_i elt' tg it ifs' scope hs
      obtain ⟨q, rfl, hf⟩ := shComp_of hs
      rw [Bool.and_eq_true, Bool.and_eq_true, Bool.and_eq_true, Bool.and_eq_true, Bool.and_eq_true, Bool.and_eq_true] at h
      obtain ⟨⟨⟨⟨⟨⟨h1, h2⟩, h3⟩, h4⟩, h5⟩, h6⟩, h7⟩ := h
      split at h4
      · rename_i xs hr
        have B := blk_of (e := e) g.gx h1 h2 h5 (of_decide_eq_true h3) (fun _ _ _ _ => trivial) fun s H C cl fp => ⟨chkEs_ok ifs ifs' _ WF _ h6 g.gx.blk lk, chkE_ok elt elt' _ WF _ h7 g.gx.blk lk⟩
        refine PS.mk' fun D σ H hh => ⟨_, ps_setLc g.gx.calm hN hi hl hsw (shRng_ok g.gx lk hr (chkEs_ok es xs X W c h4 g.gx lk)) B.ok B.hg B.ht B.he (noFold hf), ?_⟩
        rw [own_map]
        exact cRng_says (of_decide_eq_true h3) (set_says hh)
      · cases h4
    · cases h
  | cSeq elt gt ie ifs =>
    unfold chkE at h
    split at h
    · rename_i elt' tg it ifs' scope hs
      obtain ⟨q, rfl, hf⟩ := shComp_of hs
      rw [Bool.and_eq_true, Bool.and_eq_true, Bool.and_eq_true, Bool.and_eq_true, Bool.and_eq_true, Bool.and_eq_true] at h
      obtain ⟨⟨⟨⟨⟨⟨h1, h2⟩, h3⟩, h4⟩, h5⟩, h6⟩, h7⟩ := h
      have B := blk_of (e := e) g.gx h1 h2 h5 (of_decide_eq_true h3) (fun _ _ _ _ => trivial) fun s H C cl fp => ⟨chkEs_ok ifs ifs' _ WF _ h6 g.gx.blk lk, chkE_ok elt elt' _ WF _ h7 g.gx.blk lk⟩
      have nd : (slotsOf gt).Nodup := by unfold blkB at h1; rw [Bool.and_eq_true] at h1; exact of_decide_eq_true h1.2
      refine PS.mk' fun D σ H hh => ?_
      obtain ⟨w, pi, h⟩ := cSeq_at (tg := tg) (of_decide_eq_true h3) nd (chkE_ok ie it X W c h4 g.gx lk).v (path_ok g.gx lk h4) (set_says hh)
      have r := ps_setLc g.gx.calm hN hi hl hsw pi B.ok B.hg B.ht B.he (noFold hf)
      rw [own_map] at r
      rcases h with h | h
      · exact ⟨_, r, h⟩
      · exact ⟨_, ps_lock r, h⟩
    · cases h
  | cRev elt gt ie ifs =>
    unfold chkE at h
    split at h
    · rename_i elt' tg it ifs' scope hs
      obtain ⟨q, rfl, hf⟩ := shComp_of hs
      rw [Bool.and_eq_true, Bool.and_eq_true, Bool.and_eq_true, Bool.and_eq_true, Bool.and_eq_true, Bool.and_eq_true] at h
      obtain ⟨⟨⟨⟨⟨⟨h1, h2⟩, h3⟩, h4⟩, h5⟩, h6⟩, h7⟩ := h
      split at h4
      · rename_i x0 hr
        obtain ⟨p, pos2, rfl, hb, ns⟩ := shRevL_of hr
        obtain ⟨g1, m1⟩ := isBt_of g.gx lk hb
        have B := blk_of (e := e) g.gx h1 h2 h5 (of_decide_eq_true h3) (fun _ _ _ _ => trivial) fun s H C cl fp => ⟨chkEs_ok ifs ifs' _ WF _ h6 g.gx.blk lk, chkE_ok elt elt' _ WF _ h7 g.gx.blk lk⟩
        have nd : (slotsOf gt).Nodup := by unfold blkB at h1; rw [Bool.and_eq_true] at h1; exact of_decide_eq_true h1.2
        refine PS.mk' fun D σ H hh => ?_
        obtain ⟨w, pi, h⟩ := cRev_at (tg := tg) (of_decide_eq_true h3) nd (chkE_ok ie x0 X W c h4 g.gx lk).v g1 m1 ns (set_says hh)
        have r := ps_setLc g.gx.calm hN hi hl hsw pi B.ok B.hg B.ht B.he (noFold hf)
        rw [own_map] at r
        rcases h with h | h
        · exact ⟨_, r, h⟩
        · exact ⟨_, ps_lock r, h⟩
      · cases h4
    · cases h
  | _ => cases hc
theorem shAsg_of {x : Str} {p pos : Pos} (h : shAsg st = some (x, p, ex, pos)) : st = .Assign [.Name x p] ex pos := by
  unfold shAsg at h
  split at h
  · cases h; rfl
  · cases h
theorem shAsgT_of {xs : List Expr} (h : shAsgT st = some (xs, ex)) : ∃ k p pos, st = .Assign [.Tuple xs k p] ex pos ∧ ∀ env, swappedStores [.Tuple xs k p] ex env = pure none := by
  unfold shAsgT at h
  split at h
  · split at h
    · rename_i hq
      cases h
      refine ⟨_, _, _, rfl, fun env => ?_⟩
      cases ex with
      | Tuple vs k p =>
        have h3 : 3 < xs.length := of_decide_eq_true hq
        unfold swappedStores
        dsimp only
        have h4 : (xs.length == 2) = false := beq_eq_false_iff_ne.mpr (by omega)
        have h5 : (xs.length == 3) = false := beq_eq_false_iff_ne.mpr (by omega)
        rw [h4, h5]
        rfl
      | _ => rfl
    · cases h
  · cases h
theorem shSub_of (h : shSub st = some (ob, ek, ex)) : ∃ p pos, st = .Assign [.Subscript ob ek p] ex pos ∧ plainIxB ek = true := by
  unfold shSub at h
  split at h
  · split at h
    · rename_i q; cases h; exact ⟨_, _, rfl, q⟩
    · cases h
  · cases h
theorem shAugS_of {b : Bool} (h : shAugS b st = some (ob, ek, ex)) : ∃ op p pos, st = .AugAssign (.Subscript ob ek p) op ex pos ∧ op = augOp b ∧ plainIxB ek = true := by
  unfold shAugS at h
  split at h
  · split at h
    · rename_i q
      rw [Bool.and_eq_true] at q
      cases h
      exact ⟨_, _, _, rfl, of_decide_eq_true q.1, q.2⟩
    · cases h
  · cases h
theorem shAug_of {x : Str} (h : shAug st = some (x, ex)) : ∃ p pos, st = .AugAssign (.Name x p) .Add ex pos := by
  unfold shAug at h
  split at h
  · cases h; exact ⟨_, _, rfl⟩
  · cases h
theorem shAtt_of {f : Nat} (h : shAtt nm f st = some (ob, ex)) : ∃ p pos, st = .Assign [.Attribute ob (nm.fd f) p] ex pos := by
  unfold shAtt at h
  split at h
  · split at h
    · rename_i q; subst q; cases h; exact ⟨_, _, rfl⟩
    · cases h
  · cases h
theorem shDo_of {m : Str} {args : List Expr} (h : shDo m st = some (ob, args)) : ∃ apos cpos pos, st = .Expr (.Call (.Attribute ob m apos) args [] cpos) pos ∧ noSup ob = true ∧ args.all noStar = true ∧ (apos.endLine == cpos.line) = true := by
  unfold shDo at h
  split at h
  · split at h
    · rename_i q
      rw [Bool.and_eq_true, Bool.and_eq_true, Bool.and_eq_true] at q
      have q1 := of_decide_eq_true q.1.1.1
      subst q1
      cases h
      exact ⟨_, _, _, rfl, q.1.1.2, q.1.2, q.2⟩
    · cases h
  · cases h
theorem shExpr_of (h : shExpr st = some ex) : ∃ pos, st = .Expr ex pos ∧ noComp ex = true := by
  unfold shExpr at h
  split at h
  · split at h
    · rename_i q; cases h; exact ⟨_, rfl, q⟩
    · cases h
  · cases h
theorem shIfS_of {a b : List Stmt} (h : shIfS st = some (ex, a, b)) : ∃ pos, st = .If ex a b pos ∧ testy ex = true := by
  unfold shIfS at h
  split at h
  · split at h
    · rename_i q; cases h; exact ⟨_, rfl, q⟩
    · cases h
  · cases h
theorem shWhl_of {b : List Stmt} (h : shWhl st = some (ex, b)) : ∃ pos, st = .While ex b [] pos ∧ testy ex = true := by
  unfold shWhl at h
  split at h
  · split at h
    · rename_i q; cases h; exact ⟨_, rfl, q⟩
    · cases h
  · cases h
theorem shFor_of {tg it : Expr} {b : List Stmt} (h : shFor st = some (tg, it, b)) : ∃ pos, st = .For tg it b [] pos ∧ foldless it = true := by
  unfold shFor at h
  split at h
  · split at h
    · rename_i q; cases h; exact ⟨_, rfl, q⟩
    · cases h
  · cases h
theorem shRev_of {sc : Scope} {it : Expr} (h : shRev o sc ex = some it) : ∃ p pos, ex = .Call (.Name "reversed" p) [it] [] pos ∧ isBt o sc "reversed" = true := by
  unfold shRev at h
  split at h
  · split at h
    · rename_i q
      rw [Bool.and_eq_true] at q
      have q1 := of_decide_eq_true q.1
      subst q1
      cases h
      exact ⟨_, _, rfl, q.2⟩
    · cases h
  · cases h
theorem shRet_of (h : shRet st = some ex) : ∃ pos, st = .Return (some ex) pos := by
  unfold shRet at h
  split at h
  · cases h; exact ⟨_, rfl⟩
  · cases h
theorem shTry_of {b : List Stmt} {hs : List ExceptHandler} (h : shTry st = some (b, hs)) : ∃ pos, st = .Try b hs [] [] pos := by
  unfold shTry at h
  split at h
  · cases h; exact ⟨_, rfl⟩
  · cases h
theorem revRng_ok {tg it : Expr} {es : List IE} {xs : List Expr} {p pos : Pos} (g : GX X W c lv) (lk : Lnk X.prog X.w X.K X.mg X.base e o lv) (b : isBt o c.sc "reversed" = true) (h : shRng o c.sc it = some xs) (hs : GdEs e X W es xs) : PI X tg (.Call (.Name "reversed" p) [it] [] pos) (iRevL (tAs e X W es)) := by
  obtain ⟨g0, m0⟩ := isBt_of g lk b
  unfold shRng at h
  split at h
  · split at h
    · rename_i q
      rw [Bool.and_eq_true, Bool.and_eq_true] at q
      have q1 := of_decide_eq_true q.1.1
      subst q1
      cases h
      obtain ⟨g1, m1⟩ := isBt_of g lk q.1.2
      obtain ⟨ia, rfl, ha⟩ := hs.one
      exact pi_revL1 g0 m0 g1 m1 ha.o q.2
    · cases h
  · split at h
    · rename_i q
      rw [Bool.and_eq_true, Bool.and_eq_true, Bool.and_eq_true] at q
      have q1 := of_decide_eq_true q.1.1.1
      subst q1
      cases h
      obtain ⟨g1, m1⟩ := isBt_of g lk q.1.1.2
      obtain ⟨ia, ib, rfl, ha, hb⟩ := hs.two
      exact pi_revL2 g0 m0 g1 m1 ha.o hb.o q.1.2 q.2
    · cases h
  · cases h
theorem shNil_of (h : shNil ex = true) : ∃ p, ex = .List [] p := by
  unfold shNil at h
  split at h
  · exact ⟨_, rfl⟩
  · cases h
theorem shSubE_of (h : shSubE ex = some (ob, ek)) : ∃ p, ex = .Subscript ob ek p ∧ plainIxB ek = true := by
  unfold shSubE at h
  split at h
  · split at h
    · rename_i q; cases h; exact ⟨_, rfl, q⟩
    · cases h
  · cases h
/-! ### clauses -/
theorem chkL_ok : ∀ {es : List IE} {xs : List Expr}, chkL es xs = true → PA X xs (tIs e X W es)
  | [], [], _ => pa_nil
  | .lit d :: r, x :: xs, h => by
    unfold chkL at h
    rw [Bool.and_eq_true, Bool.and_eq_true] at h
    exact pa_cons (shLit_ok (e := e) (W := W) h.1.1).v (chkL_ok h.2) (starEach_of h.1.2)
  | [], _ :: _, h => by unfold chkL at h; cases h
  | ie :: _, [], h => by cases ie <;> (unfold chkL at h; cases h)
theorem chkW_ok (h : chkW ie ex = true) : GdE e X W ie ex := by
  unfold chkW at h
  split at h
  · exact shLit_ok h
  · rw [Bool.and_eq_true] at h
    exact gd_lst (of_decide_eq_true h.1) (chkL_ok h.2)
  · cases h
end
end TL

namespace TL
open PySem PySem.Spec PyProof.Rows L2

section
variable {e : Pm} {lv : Nat} {o : Oks} {X : Cx} {W : WX} {c : CK} {C : List Nat} {st : Stmt} {ex ob : Expr} {nm : Nm} {i j : Nat} {ie k : IE}
theorem isStar_of (h : noStar ex = true) : (match ex with | .Starred .. => true | _ => false) = false := by
  cases ex <;> first | rfl | cases h
theorem par_sw {env : Env} {x y : Str} {px py pt pt2 : Pos} {kt k2 : Nat} {a b : Expr} (hb : env.blockKind = .function) (hx : env.kindOf x = some .local) (hy : env.kindOf y = some .local) (hl : (py.line == px.line) = true) (hn : x ≠ y) (na : noStar a = true) (nb : noStar b = true)
    (h1 : [a, b].all (foldedForSure 8) = false) (h2 : [a, b].all (constantsAlone 8) = false) : swappedStores [.Tuple [.Name x px, .Name y py] kt pt] (.Tuple [a, b] k2 pt2) env = pure (some [x, y]) := by
  have hst : ([a, b].any fun | .Starred .. => true | _ => false) = false := by
    cases a <;> first | (cases na; done) | (cases b <;> first | (cases nb; done) | rfl)
  have hnm : ([Expr.Name x px, Expr.Name y py].filterMap fun
    | .Name id pos => if env.kindOf id == some .local && pos.line == (Expr.Name x px).pos.line then some id else none
    | _ => none) = [x, y] := by
    rw [List.filterMap_cons_some (b := x) (by show (if (env.kindOf x == some .local && px.line == px.line) = true then some x else none) = some x; rw [hx]; simp),
      List.filterMap_cons_some (b := y) (by show (if (env.kindOf y == some .local && py.line == px.line) = true then some y else none) = some y; rw [hy, hl]; simp)]
    rfl
  have hed : [x, y].eraseDups.length = 2 := by
    rw [List.eraseDups_cons, List.filter_cons]
    have : (!(y == x)) = true := by simp [Ne.symm hn]
    rw [if_pos this]
    rfl
  unfold swappedStores
  dsimp only
  simp only [hb, List.length_cons, List.length_nil, List.head?_cons, Option.map_some, Option.getD_some]
  have key : ∀ L : List Str, L = [x, y] → ¬ ((L.length != 0 + 1 + 1 || L.eraseDups.length != L.length) = true) := fun L h => by
    subst h
    rw [hed]
    exact Bool.false_ne_true
  refine (if_neg (by decide)).trans ?_
  refine (if_neg (fun z => Bool.false_ne_true (hst.symm.trans z))).trans ?_
  refine (if_neg (key _ hnm)).trans ?_
  rw [h1, if_neg Bool.false_ne_true, h2, if_neg Bool.false_ne_true]
  exact congrArg (fun l => (pure (some l) : Sem (Option (List Str)))) hnm
theorem shPar_ok {a b : Expr} {ia ib : IE} (g : GS X W c lv) (h : shPar c i j st = some (a, b)) (ha : GdE e X W ia a) (hb : GdE e X W ib b) : PS X st (tS e X W C (.par i j ia ib)) := by
  unfold shPar at h
  split at h
  · split at h
    · rename_i q
      simp only [Bool.and_eq_true] at q
      obtain ⟨⟨⟨⟨⟨⟨⟨⟨⟨⟨q1, q2⟩, q3⟩, q4⟩, q5⟩, q6⟩, q7⟩, q8⟩, q9⟩, q10⟩, q11⟩ := q
      cases h
      have hN : X.N.Nodup := by rw [g.gx.hN]; exact g.gx.nd
      have lx := of_decide_eq_true q4
      have ly := of_decide_eq_true q5
      rw [← g.gx.sc] at lx ly
      exact PS.mk' fun D σ H h => ⟨_, ps_par g.gx.calm hN (by rw [g.gx.hN]; exact of_decide_eq_true q1) (by rw [g.gx.hN]; exact of_decide_eq_true q2) (of_decide_eq_true q3) lx ly
        (pa_cons ha.v (pa_cons hb.v pa_nil (starEach_of q9)) (starEach_of q8)) (par_sw (blockKind_of g) lx ly q6 (of_decide_eq_true q7) q8 q9 (by rw [Bool.not_eq_true'] at q10; exact q10) (by rw [Bool.not_eq_true'] at q11; exact q11)), par_says h⟩
    · cases h
  · cases h
theorem shRaise_ok {x : Nat} (g : GS X W c lv) (lk : Lnk X.prog X.w X.K X.mg X.base e o lv) (h : shRaise e.nm o c x st = true) : PS X st (tS e X W C (.raise x)) := by
  unfold shRaise at h
  split at h
  · rw [Bool.and_eq_true, Bool.and_eq_true] at h
    have h1 := of_decide_eq_true h.1.1
    subst h1
    exact pS_raise g.gx g.tk lk h.1.2 (isGl_of g.gx h.2)
  · cases h
theorem shPass_ok (h : shPass st = true) : PS X st (tS e X W C .pass) := by
  unfold shPass at h
  split at h
  · exact pS_pass
  · exact pS_doc
  · cases h
theorem chkHs_ok (g : GS X W c lv) (lk : Lnk X.prog X.w X.K X.mg X.base e o lv) : ∀ {hs : List (Nat × Nat × IE)} {hx : List ExceptHandler}, chkHs e.nm o c hs hx = true → HdsOk X hx (hdL e X C hs) ∧ (hs.all fun h => o.hx h.1) = true
  | [], hx, h => by
    unfold chkHs at h
    cases hx with
    | nil => exact ⟨.nil, rfl⟩
    | cons _ _ => cases h
  | (hh, i, ie) :: r, hx, h => by
    unfold chkHs at h
    cases hx with
    | nil => cases h
    | cons hd hx =>
      dsimp only at h
      rw [Bool.and_eq_true] at h
      obtain ⟨k1, k2⟩ := chkHs_ok g lk h.2
      have h0 := h.1
      unfold chkHd at h0
      split at h0
      · rename_i x y ex hq
        simp only [Bool.and_eq_true] at h0
        obtain ⟨⟨⟨⟨⟨⟨h1, h2⟩, h3⟩, h4⟩, h5⟩, h6⟩, h7⟩ := h0
        have e1 := of_decide_eq_true h1
        subst e1
        obtain ⟨nd, hm, _⟩ := lk.hx hh h2
        unfold shHd at hq
        split at hq
        · cases hq
          refine ⟨.cons ⟨isGl_of g.gx h3, beq_eq_false_iff_ne.mpr nd, .inl hm⟩ (fun a oe cls d pn _ _ => ?_) k1, by rw [List.all_cons, h2, k2]; rfl⟩
          have hN : X.N.Nodup := by rw [g.gx.hN]; exact g.gx.nd
          have hi : X.N[i]? = some y := by rw [g.gx.hN]; exact of_decide_eq_true h4
          refine pss_one (PS.mk' fun D σ H h => ⟨_, ?_, su_says h⟩)
          have hv : ∀ Y : Cx, PE Y ex (tE e Y WF ie) := fun Y => (chkW_ok (e := e) (X := Y) (W := WF) h7).v
          have hsw : ∀ env : Env, ∀ tg n, swapsWith ex tg n env = pure false := fun env tg n => noSwap (by
            cases ex <;> first | rfl | cases h6)
          rcases isLoc_of g.gx h5 with hl | ⟨hl, hf⟩
          · exact ps_set (X := X.suite a ((a, oe) :: pn)) hN hi (.inl hl) (hv _) (hsw _ _ _) (.inr hl)
          · exact ps_set (X := X.suite a ((a, oe) :: pn)) hN hi (.inr hl) (hv _) (hsw _ _ _) (.inl hf)
        · cases hq
      · cases h0
end
end TL

namespace TL
open PySem PySem.Spec PyProof.Rows L2

section
variable {e : Pm} {lv : Nat} {o : Oks} {c : CK} {C : List Nat}
theorem GS.tr {X : Cx} {W W' : WX} {pn : List (Addr × Obj)} {xe : Value → Shared → Prop} (g : GS X W c lv) (tk : Takes (X.tr pn xe) W') (po : PassesOwn (model X.prog X.w) X.A X.env xe) : GS (X.tr pn xe) W' c lv :=
  { gx := { hN := g.gx.hN, sc := g.gx.sc, nd := g.gx.nd, calm := g.gx.calm, fnn := g.gx.fnn, room := g.gx.room, pass := passAt tk }
    tk := tk, po := po, hs := g.hs, hf := g.hf, kd := g.kd }
theorem GS.rew {X : Cx} {W W' : WX} (g : GS X W c lv) (tk : Takes X W') : GS X W' c lv :=
  { gx := { hN := g.gx.hN, sc := g.gx.sc, nd := g.gx.nd, calm := g.gx.calm, fnn := g.gx.fnn, room := g.gx.room, pass := passAt tk }
    tk := tk, po := g.po, hs := g.hs, hf := g.hf, kd := g.kd }
theorem GS.units {X : Cx} {W : WX} (g : GS X W c lv) : X.A.units + 1 < cLine := by have := g.gx.room.units; omega
mutual
theorem chkS_ok : ∀ (i : IS) (st : Stmt) (X : Cx) (W : WX), chkS e.nm o e.ar c i st = true → GS X W c lv → Lnk X.prog X.w X.K X.mg X.base e o lv → PS X st (tS e X W C i)
  | .set i ie, st, X, W, h, g, lk => by
    unfold chkS at h
    split at h
    · rename_i x p ex pos hs
      rw [shAsg_of hs]
      simp only [Bool.and_eq_true] at h
      obtain ⟨⟨⟨⟨h1, h2⟩, h3⟩, h4⟩, h5⟩ := h
      have hi : X.N[i]? = some x := by rw [g.gx.hN]; exact of_decide_eq_true h1
      cases sw : swB c x p ex with
      | true =>
        rw [sw, Bool.not_true, Bool.false_or] at h4
        exact setLc_ok g lk hi sw h4 h5
      | false => exact pS_set g.gx hi (isLoc_of g.gx h2) (chkE_ok ie ex X W c h5 g.gx lk) (sw_false g h3 sw)
    · cases h
  | .setT is ie, st, X, W, h, g, lk => by
    unfold chkS at h
    split at h
    · rename_i xs ex hs
      obtain ⟨k, p, pos, rfl, hw⟩ := shAsgT_of hs
      rw [Bool.and_eq_true] at h
      obtain ⟨k1, k2, k3⟩ := chkTN_ok g.gx h.1
      exact pS_setT (chkE_ok ie ex X W c h.2 g.gx lk) (pg_tup g.gx.calm k1 k3 k2) (pg_unl g.gx.calm k1 k3 k2) (by cases ex <;> rfl) (hw _) rfl
    · cases h
  | .par i j a b, st, X, W, h, g, lk => by
    unfold chkS at h
    split at h
    · rename_i x y hs
      rw [Bool.and_eq_true] at h
      exact shPar_ok g hs (chkE_ok a x X W c h.1 g.gx lk) (chkE_ok b y X W c h.2 g.gx lk)
    · cases h
  | .setIx i k ie, st, X, W, h, g, lk => by
    unfold chkS at h
    split at h
    · rename_i ob kx ex hs
      obtain ⟨p, pos, rfl, hp⟩ := shSub_of hs
      rw [Bool.and_eq_true, Bool.and_eq_true] at h
      exact pS_setIx g.units (chkE_ok ie ex X W c h.2 g.gx lk) (chkV_ok (W := W) (e := e) g.gx h.1.1).o (chkE_ok k kx X W c h.1.2 g.gx lk) hp
    · cases h
  | .augIx i k b ie, st, X, W, h, g, lk => by
    unfold chkS at h
    split at h
    · rename_i ob kx ex hs
      obtain ⟨op, p, pos, rfl, ho, hp⟩ := shAugS_of hs
      rw [Bool.and_eq_true, Bool.and_eq_true] at h
      exact pS_augIx g.units (by rw [ho]; cases b <;> rfl) (chkE_ok ie ex X W c h.2 g.gx lk) (chkV_ok (W := W) (e := e) g.gx h.1.1).o (chkE_ok k kx X W c h.1.2 g.gx lk) hp
    · cases h
  | .aug i ie, st, X, W, h, g, lk => by
    unfold chkS at h
    split at h
    · rename_i x ex hs
      obtain ⟨p, pos, rfl⟩ := shAug_of hs
      rw [Bool.and_eq_true, Bool.and_eq_true] at h
      exact pS_aug g.gx (by rw [g.gx.hN]; exact of_decide_eq_true h.1.1) (isLoc_of g.gx h.1.2) (chkE_ok ie ex X W c h.2 g.gx lk)
    · cases h
  | .setF i cl f ie, st, X, W, h, g, lk => by
    unfold chkS at h
    split at h
    · rename_i ob ex hs
      obtain ⟨p, pos, rfl⟩ := shAtt_of hs
      rw [Bool.and_eq_true, Bool.and_eq_true] at h
      exact pS_setF lk h.1.1 (chkV_ok (W := W) (e := e) g.gx h.1.2).o (chkE_ok ie ex X W c h.2 g.gx lk)
    · cases h
  | .push i ie, st, X, W, h, g, lk => by
    unfold chkS at h
    split at h
    · rename_i ob x hs
      obtain ⟨apos, cpos, pos, rfl, h1, h2, h3⟩ := shDo_of hs
      rw [Bool.and_eq_true] at h
      rw [List.all_cons, Bool.and_eq_true] at h2
      exact pS_push (chkV_ok (W := W) (e := e) g.gx h.1).o (chkE_ok ie x X W c h.2 g.gx lk) h2.1 h1 h3
    · cases h
  | .ins i k ie, st, X, W, h, g, lk => by
    unfold chkS at h
    split at h
    · rename_i ob x y hs
      obtain ⟨apos, cpos, pos, rfl, h1, h2, h3⟩ := shDo_of hs
      rw [Bool.and_eq_true, Bool.and_eq_true] at h
      rw [List.all_cons, List.all_cons, Bool.and_eq_true, Bool.and_eq_true] at h2
      exact pS_ins (chkV_ok (W := W) (e := e) g.gx h.1.1).o (pa_cons (chkE_ok k x X W c h.1.2 g.gx lk).v (pa_cons (chkE_ok ie y X W c h.2 g.gx lk).v pa_nil (starEach_of h2.2.1)) (starEach_of h2.1)) h2.1 h2.2.1 h1 h3
    · cases h
  | .clr i, st, X, W, h, g, lk => by
    unfold chkS at h
    split at h
    · rename_i ob hs
      obtain ⟨apos, cpos, pos, rfl, h1, h2, h3⟩ := shDo_of hs
      exact pS_clr (chkV_ok (W := W) (e := e) g.gx h).o h1 h3
    · cases h
  | .expr ie, st, X, W, h, g, lk => by
    unfold chkS at h
    split at h
    · rename_i ex hs
      obtain ⟨pos, rfl, hn⟩ := shExpr_of hs
      exact pS_expr (chkE_ok ie ex X W c h g.gx lk) (by cases ex <;> first | rfl | cases hn)
    · cases h
  | .ife t a b, st, X, W, h, g, lk => by
    unfold chkS at h
    split at h
    · rename_i tx sa sb hs
      obtain ⟨pos, rfl, ht⟩ := shIfS_of hs
      rw [Bool.and_eq_true, Bool.and_eq_true] at h
      exact pS_ife ((chkE_ok t tx X W c h.1.1 g.gx lk).t ht) (chkSs_ok a sa X W h.1.2 g lk) (chkSs_ok b sb X W h.2 g lk)
    · cases h
  | .whl n t b, st, X, W, h, g, lk => by
    unfold chkS at h
    split at h
    · rename_i tx sb hs
      obtain ⟨pos, rfl, ht⟩ := shWhl_of hs
      rw [Bool.and_eq_true] at h
      have p1 := (chkE_ok t tx X W c h.1 g.gx lk).t ht
      have p2 := chkSs_ok b sb X W h.2 g lk
      exact PS.mk' fun D σ H hh => ⟨_, ps_while g.po p1 p2, while_says hh⟩
    · cases h
  | .forR i es b, st, X, W, h, g, lk => by
    unfold chkS at h
    split at h
    · rename_i tg it sb hs
      obtain ⟨pos, rfl, hf⟩ := shFor_of hs
      rw [Bool.and_eq_true, Bool.and_eq_true] at h
      obtain ⟨⟨h1, h2⟩, h3⟩ := h
      split at h2
      · rename_i xs hr
        have pi := shRng_ok (tg := tg) g.gx lk hr (chkEs_ok es xs X W c h2 g.gx lk)
        have pg := chkTg_ok (gt := .one i) g.gx h1
        have p2 := chkSs_ok b sb X W h3 g lk
        exact PS.mk' fun D σ H hh => ⟨_, ps_for g.po g.gx.calm pi pg p2 (noFold hf), forR_says hh⟩
      · cases h2
    · cases h
  | .forV i es b, st, X, W, h, g, lk => by
    unfold chkS at h
    split at h
    · rename_i tg it sb hs
      obtain ⟨pos, rfl, hf⟩ := shFor_of hs
      rw [Bool.and_eq_true, Bool.and_eq_true] at h
      obtain ⟨⟨h1, h2⟩, h3⟩ := h
      split at h2
      · rename_i it2 hv
        obtain ⟨p, pos2, rfl, hb⟩ := shRev_of hv
        split at h2
        · rename_i xs hr
          have pi := revRng_ok (tg := tg) (p := p) (pos := pos2) g.gx lk hb hr (chkEs_ok es xs X W c h2 g.gx lk)
          have pg := chkTg_ok (gt := .one i) g.gx h1
          have p2 := chkSs_ok b sb X W h3 g lk
          exact PS.mk' fun D σ H hh => ⟨_, ps_for g.po g.gx.calm pi pg p2 (noFold hf), forV_says hh⟩
        · cases h2
      · cases h2
    · cases h
  | .forE gt ie b, st, X, W, h, g, lk => by
    unfold chkS at h
    split at h
    · rename_i tg it sb hs
      obtain ⟨pos, rfl, hf⟩ := shFor_of hs
      rw [Bool.and_eq_true, Bool.and_eq_true] at h
      obtain ⟨⟨h1, h2⟩, h3⟩ := h
      have pg := chkTg_ok (gt := gt) g.gx h1
      have p1 := chkE_ok ie it X W c h2 g.gx lk
      exact PS.mk' fun D σ H hh => forE_at g.tk p1.v (path_ok g.gx lk h2) (fun W' w tk' pi => ps_for g.po g.gx.calm pi pg (chkSs_ok b sb X W' h3 (g.rew tk') lk) (noFold hf)) hh
    · cases h
  | .forB gt ie b, st, X, W, h, g, lk => by
    unfold chkS at h
    split at h
    · rename_i tg it sb hs
      obtain ⟨pos, rfl, hf⟩ := shFor_of hs
      rw [Bool.and_eq_true, Bool.and_eq_true] at h
      obtain ⟨⟨h1, h2⟩, h3⟩ := h
      have pg := chkTg_ok (gt := gt) g.gx h1
      split at h2
      · rename_i x0 hr
        obtain ⟨p, pos2, rfl, hb, ns⟩ := shRevL_of hr
        obtain ⟨g1, m1⟩ := isBt_of g.gx lk hb
        have p1 := chkE_ok ie x0 X W c h2 g.gx lk
        exact PS.mk' fun D σ H hh => forB_at g.tk p1.v g1 m1 ns (fun W' w tk' pi => ps_for g.po g.gx.calm pi pg (chkSs_ok b sb X W' h3 (g.rew tk') lk) (noFold hf)) hh
      · cases h2
    · cases h
  | .wall, st, X, W, h, g, lk => pS_wall
  | .setIxL i j, st, X, W, h, g, lk => by
    unfold chkS at h
    split at h
    · rename_i ob kx ex hs
      obtain ⟨p, pos, rfl, hp⟩ := shSub_of hs
      rw [Bool.and_eq_true, Bool.and_eq_true] at h
      obtain ⟨lp, rfl⟩ := shNil_of h.2
      exact pS_setIxL g.units (chkV_ok (W := W) (e := e) g.gx h.1.1).o (chkV_ok (W := W) (e := e) g.gx h.1.2).o hp
    · cases h
  | .pushIx i j l, st, X, W, h, g, lk => by
    unfold chkS at h
    split at h
    · rename_i ob vx hs
      obtain ⟨apos, cpos, pos, rfl, h1, h2, h3⟩ := shDo_of hs
      split at h
      · rename_i ob2 kx hq
        obtain ⟨p, rfl, hp⟩ := shSubE_of hq
        rw [Bool.and_eq_true, Bool.and_eq_true] at h
        rw [List.all_cons, Bool.and_eq_true] at h2
        exact pS_pushIx g.units (chkV_ok (W := W) (e := e) g.gx h.1.1).o (chkV_ok (W := W) (e := e) g.gx h.1.2).o hp (chkV_ok (W := W) (e := e) g.gx h.2).o h2.1 h3
      · cases h
    · cases h
  | .ret ie, st, X, W, h, g, lk => by
    unfold chkS at h
    split at h
    · rename_i ex hs
      obtain ⟨pos, rfl⟩ := shRet_of hs
      exact pS_ret (chkE_ok ie ex X W c h g.gx lk)
    · cases h
  | .retM i, st, X, W, h, g, lk => by
    unfold chkS at h
    split at h
    · rename_i ex hs
      obtain ⟨pos, rfl⟩ := shRet_of hs
      exact pS_retM (chkV_ok (W := W) (e := e) g.gx h).o
    · cases h
  | .retN, st, X, W, h, g, lk => by
    unfold chkS at h
    unfold shRetN at h
    split at h
    · exact pS_retN
    · cases h
  | .raise x, st, X, W, h, g, lk => by
    unfold chkS at h
    exact shRaise_ok g lk h
  | .tr b hs, st, X, W, h, g, lk => by
    unfold chkS at h
    split at h
    · rename_i sb hx hq
      obtain ⟨pos, rfl⟩ := shTry_of hq
      rw [Bool.and_eq_true, Bool.and_eq_true] at h
      obtain ⟨k1, k2⟩ := chkHs_ok (C := C) g lk h.1.2
      cases hs with
      | nil => cases h.2
      | cons h0 r =>
        cases k1 with
        | cons hc hsu k3 =>
          refine PS.mk' fun D σ H hh => ⟨_, ps_try_many (tb := fun W => tSs e X W C b) g.hs g.hf g.tk (fun W' pn xe tk po => chkSs_ok b sb (X.tr pn xe) W' h.1.1 (g.tr tk po) lk) (.cons hc hsu k3), ?_⟩
          exact tr_says lk k2 hh
    · cases h
  | .pass, st, X, W, h, g, lk => by
    unfold chkS at h
    exact shPass_ok h
  | .brk, st, X, W, h, g, lk => by
    unfold chkS at h
    unfold shBrk at h
    split at h
    · exact pS_brk
    · cases h
  | .cnt, st, X, W, h, g, lk => by
    unfold chkS at h
    unfold shCnt at h
    split at h
    · exact pS_cnt
    · cases h
theorem chkSs_ok : ∀ (is : List IS) (sts : List Stmt) (X : Cx) (W : WX), chkSs e.nm o e.ar c is sts = true → GS X W c lv → Lnk X.prog X.w X.K X.mg X.base e o lv → PSs X sts (tSs e X W C is)
  | [], sts, X, W, h, g, lk => by
    unfold chkSs at h
    cases sts with
    | nil => exact pss_nil_ok
    | cons _ _ => cases h
  | i :: is, sts, X, W, h, g, lk => by
    unfold chkSs at h
    cases sts with
    | nil => cases h
    | cons st r =>
      dsimp only at h
      rw [Bool.and_eq_true] at h
      exact pss_cons_ok (chkS_ok i st X W h.1 g lk) (chkSs_ok is r X W h.2 g lk)
end
end
end TL

namespace TL
open PySem PySem.Spec PyProof.Rows L2

section
variable {L : LC} {H : Hp} {T : AP}
theorem EnvR.und : ∀ {ρ : List TL.D} {σ : L2.St} {fe : List Addr} (n : Nat), EnvR L H T ρ σ fe → EnvR L H T (ρ ++ List.replicate n .und) (σ ++ List.replicate n none) fe
  | [], σ, fe, n, h => by
    obtain ⟨rfl, rfl⟩ := h
    rw [List.nil_append, List.nil_append]
    induction n with
    | zero => exact ⟨rfl, rfl⟩
    | succ n ih => exact ⟨none, _, [], [], rfl, rfl, rfl, ih⟩
  | d :: ρ, σ, fe, n, h => by
    obtain ⟨o, σ', f, fe', rfl, rfl, h1, h2⟩ := h
    exact ⟨o, _, f, fe', rfl, rfl, h1, h2.und n⟩
theorem pick_set {i : Nat} {d : TL.D} : ∀ {ms : List Nat} {ρ : List TL.D}, i ∉ ms → pick ms (ρ.set i d) = pick ms ρ
  | [], _, _ => rfl
  | m :: ms, ρ, h => by
    have h1 : i ≠ m := fun z => h (by rw [z]; exact List.mem_cons_self)
    show (ρ.set i d).getD m .und :: pick ms (ρ.set i d) = ρ.getD m .und :: pick ms ρ
    rw [pick_set fun z => h (List.mem_cons_of_mem _ z), List.getD_eq_getElem?_getD, List.getElem?_set_ne h1, ← List.getD_eq_getElem?_getD]
theorem EnvR.pick : ∀ (ms : List Nat) {ρ : List TL.D} {σ : L2.St} {fe : List Addr}, EnvR L H T ρ σ fe → fe.Nodup → ms.Nodup → (∀ i ∈ ms, i < ρ.length) → ∃ fe', EnvR L H T (pick ms ρ) (ms.map fun i => (σ[i]?).getD none) fe' ∧ fe'.Nodup ∧ ∀ a ∈ fe', a ∈ fe
  | [], _, _, fe, h, nd, _, _ => ⟨[], ⟨rfl, rfl⟩, List.nodup_nil, fun _ m => nomatch m⟩
  | i :: is, ρ, σ, fe, h, nd, nm, hl => by
    obtain ⟨n1, n2⟩ := List.nodup_cons.mp nm
    have hi := hl i List.mem_cons_self
    obtain ⟨o, l, f1, r, e1, rfl, q, go⟩ := h.focus (List.getElem?_eq_getElem hi)
    obtain ⟨m1, m2, m3⟩ := List.nodup_append.mp nd
    obtain ⟨k1, k2, k3⟩ := List.nodup_append.mp m2
    have g := go H T .und o [] Frz.refl (fun _ _ _ e => e) rfl
    rw [List.nil_append] at g
    have nlr : (l ++ r).Nodup := List.nodup_append.mpr ⟨m1, k2, fun a q b q' e => m3 a q b (List.mem_append_right _ q') e⟩
    obtain ⟨fe2, g2, g3, g4⟩ := EnvR.pick is g nlr n2 fun j m => by rw [List.length_set]; exact hl j (List.mem_cons_of_mem _ m)
    refine ⟨f1 ++ fe2, ⟨(σ[i]?).getD none, _, f1, fe2, rfl, rfl, ?_, ?_⟩, List.nodup_append.mpr ⟨k1, g3, fun a q b q' e => ?_⟩, fun a m => ?_⟩
    · rw [e1, Option.getD_some]
      have : ρ.getD i .und = ρ[i] := by rw [List.getD_eq_getElem?_getD, List.getElem?_eq_getElem hi]; rfl
      show SlotR L H T (ρ.getD i .und) o f1
      rw [this]
      exact q
    · rw [pick_set n1] at g2
      have : (is.map fun j => ((σ.set i o)[j]?).getD none) = is.map fun j => (σ[j]?).getD none := by
        apply List.map_congr_left
        intro j m
        rw [List.getElem?_set_ne (fun z => n1 (by rw [z]; exact m))]
      rw [this] at g2
      exact g2
    · have := g4 b q'
      rcases List.mem_append.mp this with z | z
      · exact m3 b z a (List.mem_append_left _ q) e.symm
      · exact k3 a q b z e
    · rcases List.mem_append.mp m with m | m
      · exact List.mem_append_right _ (List.mem_append_left _ m)
      · rcases List.mem_append.mp (g4 a m) with z | z
        · exact List.mem_append_left _ z
        · exact List.mem_append_right _ (List.mem_append_right _ z)
theorem SR.pick {ms : List Nat} {ρ : List TL.D} {σ : L2.St} {fe f : List Addr} {G : AP} (s : SR L ρ σ H fe f G) (nm : ms.Nodup) (hl : ∀ i ∈ ms, i < ρ.length) : ∃ fe', SR L (TL.pick ms ρ) (ms.map fun i => (σ[i]?).getD none) H fe' f G ∧ ∀ a ∈ fe', a ∈ fe := by
  obtain ⟨n1, n2, n3⟩ := List.nodup_append.mp s.nd
  obtain ⟨fe', g1, g2, g3⟩ := s.env.pick ms n1 nm hl
  have sub : ∀ a, Rv fe' f G a → Rv fe f G a := fun a q => q.elim (fun q => .inl (g3 a q)) .inr
  refine ⟨fe', ⟨g1.step (Frz.sub sub) fun _ _ _ e => e, List.nodup_append.mpr ⟨g2, n2, fun a q b q' e => n3 a (g3 a q) b q' e⟩, fun a q => s.dj a (q.elim (fun q => .inl (g3 a q)) .inr), fun a q => s.dm a (sub a q)⟩, g3⟩
end
section
variable {P : Program} {w : World} {K : PySem.W.Frag} {mg : Str → Option Value} {base : Heap} {e : Pm} {o : Oks} {lv : Nat}
theorem start_at {N : List Str} {vs : List V} {i : Nat} (h : i < vs.length) : (L2.start N vs)[i]? = some (vs[i]?) := by
  unfold L2.start
  rw [List.getElem?_append_left (by rw [List.length_map]; exact h), List.getElem?_map, List.getElem?_eq_getElem h]
  rfl
/-- a def by the interpreter -/
theorem def_ok {x qual : Str} {st : Stmt} {f : Addr} {fd : FuncData} {N ps : List Str} (F : Fun K x qual st f fd) (S : FnScope N ps (defScope st)) (lk : Lnk P w K mg base e o lv) (d : Fn) (hp : d.np = ps.length) (hn : d.ns = N.length)
    (hm : d.muts.Nodup) (hm2 : (d.muts.all fun i => decide (i < d.np)) = true) (hc : chkSs e.nm o e.ar ⟨N, defScope st, true⟩ d.body (defBody st) = true) :
    FnOk P w K mg base (L2.CX P w) (lv + 1) f fd ps (spM (e.L K) e.xa d.muts ps.length (run e.T d)) := by
  refine F.okX S (fun vs H Q E h => h.1) fun cdv A outer s H vs Q E hr h => ?_
  obtain ⟨hl, ds, fe, G, sr, nl, h⟩ := h
  have tk : Takes (cxOf (L2.CX P w) P w K mg base N qual (defScope st) f cdv A outer s H E) (fun cls dd _ H => E cls dd H) := takes_of rfl rfl rfl rfl
  have gs : GS (cxOf (L2.CX P w) P w K mg base N qual (defScope st) f cdv A outer s H E) (fun cls dd _ H => E cls dd H) ⟨N, defScope st, true⟩ lv :=
    { gx := { hN := rfl, sc := rfl, nd := S.nd, calm := rfl, fnn := fun _ _ => rfl, room := hr, pass := passAt tk }
      tk := tk, po := passes_of rfl, hs := rfl, hf := rfl, kd := S.kind }
  refine ⟨_, chkSs_ok (C := d.muts) d.body (defBody st) _ _ hc gs lk, ds ++ List.replicate (d.ns - d.np) .und, fe, G, ?_, ?_⟩
  · have e1 : L2.start N vs = vs.map some ++ List.replicate (d.ns - d.np) none := by unfold L2.start; rw [hl, hp, hn]
    rw [e1]
    exact ⟨sr.env.und _, sr.nd, sr.dj, sr.dm⟩
  have hds : ds.length = d.np := by rw [← sr.len, List.length_map, hl, hp]
  have hps : d.np ≤ d.ns := by
    rw [hp, hn]
    have := congrArg List.length S.pre
    rw [List.length_take] at this
    omega
  unfold run at h
  rw [if_pos ⟨hds, hps⟩] at h
  -- the parameters at the end
  have fin : ∀ {ρ' : List TL.D} {σ' : L2.St} {H' : Hp} {fe' f' : List Addr}, SR (e.L K) ρ' σ' H' fe' f' G → Same d.muts (L2.start N vs) σ' → ∃ fe'', SR (e.L K) (pick d.muts ρ') (pickV d.muts vs) H' fe'' f' G ∧ ∀ a ∈ fe'', a ∈ fe' := fun {ρ' σ' H' fe' f'} s' sm => by
    have lt : ∀ i ∈ d.muts, i < vs.length := fun i m => by
      have := of_decide_eq_true (List.all_eq_true.mp hm2 i m)
      rw [hl, ← hp]; exact this
    have at' : ∀ i ∈ d.muts, σ'[i]? = some (vs[i]?) := fun i m => by rw [sm i m, start_at (lt i m)]
    obtain ⟨fe'', s2, m2⟩ := s'.pick hm fun i m => by
      rw [← s'.len]
      rcases Nat.lt_or_ge i σ'.length with z | z
      · exact z
      · have := at' i m
        rw [List.getElem?_eq_none z] at this
        cases this
    have em : (d.muts.map fun i => (σ'[i]?).getD none) = pickV d.muts vs := List.map_congr_left fun i m => by rw [at' i m]; rfl
    rw [em] at s2
    exact ⟨fe'', s2, m2⟩
  have less : ∀ {H' : Hp} {fe' fe'' f' : List Addr}, Stp H fe [] G H' fe' f' → (∀ a ∈ fe'', a ∈ fe') → Stp H fe [] G H' fe'' f' := fun t m => t.trans (Stp.less m)
  cases q : execs e.T d.muts d.body (ds ++ List.replicate (d.ns - d.np) .und) with
  | nx ρ' =>
    rw [q] at h
    intro σ' H' fe' s' t' sm
    obtain ⟨fe'', s2, m2⟩ := fin s' sm
    exact h .non H' fe'' [] s2 (Rep.of_fz fz_non) (less t' m2)
  | rt ρ' d' =>
    rw [q] at h
    intro v σ' H' fe' f' s' r' t' sm
    obtain ⟨fe'', s2, m2⟩ := fin s' sm
    exact h v H' fe'' f' s2 (r'.step (Frz.sub fun a z => z.elim (fun z => .inl (m2 a z)) .inr) fun _ _ _ z => z) (less t' m2)
  | exn x ρ' =>
    rw [q] at h
    intro σ' H' fe' s' t' sm
    obtain ⟨fe'', s2, m2⟩ := fin s' sm
    exact h H' fe'' s2 (less t' m2)
  | bk ρ' => rw [q] at h; exact h.elim
  | ct ρ' => rw [q] at h; exact h.elim
  | stuck => rw [q] at h; exact h.elim
end
end TL

namespace TL
open PySem PySem.Spec PyProof.Rows L2

/-- a def of the text, with its number and its code for the interpreter -/
structure Df where
  id : Nat
  st : Stmt
  name : Str
  qual : Str
  N : List Str
  ps : List Str
  fn : Fn
/-- the defs, the last one first: each knows those behind it -/
def tabS (b : Tbl) (r : List Df) : Nat → List TL.D → FR := tabL b (r.map fun d => (d.id, d.fn))
abbrev tabT (b : Tbl) (r : List Df) : Tbl := { b with F := tabS b r }
abbrev pmAt (e : Pm) (r : List Df) : Pm := { e with T := tabT e.T r }
def has (r : List Df) (f : Nat) : Bool := r.any fun d => decide (d.id = f)
def Oks.below (o : Oks) (r : List Df) : Oks := { o with fn := fun f => o.fn f && has r f, me := fun f => o.me f && has r f, mak := fun c f => o.mak c f && has r f }
theorem tabS_at {b : Tbl} {d : Df} {r : List Df} : tabS b (d :: r) d.id = run (tabT b r) d.fn := by
  funext vs
  show (if d.id = d.id then _ else _) = _
  rw [if_pos rfl]
  rfl
theorem tabS_ne {b : Tbl} {d : Df} {r : List Df} {f : Nat} (h : f ≠ d.id) : tabS b (d :: r) f = tabS b r f := by
  funext vs
  show (if f = d.id then _ else _) = _
  rw [if_neg h]
  rfl
/-- what the text says of a def -/
structure DOk (K : PySem.W.Frag) (mg : Str → Option Value) (e : Pm) (o : Oks) (r : List Df) (d : Df) : Prop where
  ex : ∃ a fd, Fun K d.name d.qual d.st a fd ∧ Binds K fd d.ps [] ∧ (o.fn d.id = true → e.nm.fn d.id ≠ "__debug__" ∧ mg (e.nm.fn d.id) = some (.ref a)) ∧
    (o.me d.id = true → e.T.mc d.id = (e.nm.me d.id).1 ∧ Cls K (e.ca (e.nm.me d.id).1) ∧ (∀ n, e.nm.fd n ≠ (e.nm.me d.id).2) ∧ Meth K (e.ca (e.nm.me d.id).1) (e.nm.me d.id).2 a) ∧
    (∀ c, o.mak c d.id = true → e.nm.cl c ≠ "__debug__" ∧ d.fn.muts = [0] ∧ mg (e.nm.cl c) = some (.ref (e.ca c)) ∧ Mk K (e.ca c) a)
  sc : FnScope d.N d.ps (defScope d.st)
  ar : e.ar d.id = d.ps.length
  np : d.fn.np = d.ps.length
  ns : d.fn.ns = d.N.length
  mu : e.T.muts d.id = d.fn.muts
  nd : d.fn.muts.Nodup
  lt : (d.fn.muts.all fun i => decide (i < d.fn.np)) = true
  chk : chkSs e.nm (o.below r) e.ar ⟨d.N, defScope d.st, true⟩ d.fn.body (defBody d.st) = true
def AllOk (K : PySem.W.Frag) (mg : Str → Option Value) (e : Pm) (o : Oks) : List Df → Prop
  | [] => True
  | d :: r => DOk K mg e o r d ∧ has r d.id = false ∧ AllOk K mg e o r
/-- what else it says -/
structure Stat (K : PySem.W.Frag) (mg : Str → Option Value) (e : Pm) (o : Oks) : Prop where
  fl : ∀ c f, o.fl c f = true → Cls K (e.ca c) ∧ NoAttr K (e.ca c) (e.nm.fd f)
  inj : ∀ m n, e.nm.fd m = e.nm.fd n → m = n
  bl : ∀ x, o.bl x = true → mg x = none
  cn : ∀ n, o.cn n = true → e.nm.cn n ≠ "__debug__" ∧ ∃ v u, mg (e.nm.cn n) = some u ∧ RelV v u ∧ ∀ H T, Fz (e.L K) H T (e.T.con n) v
  ex : ∀ c, o.ex c = true → e.nm.ex c ≠ "__debug__" ∧ mg (e.nm.ex c) = some (.ref (e.xa c)) ∧ PySem.W.keepIn K (.ref (e.xa c)) = true ∧
    PySem.W.excIn K (e.xa c) [.type "ValueError", .type "Exception", .type "BaseException", .type "object"] "ValueError.__new__" = true ∧
    PySem.W.subIn K (.ref (e.xa c)) (.type "BaseException") = some true ∧ PySem.W.typeIn K (.ref (e.xa c)) = some (.type "type")
  hx : ∀ h, o.hx h = true → e.nm.ex h ≠ "__debug__" ∧ mg (e.nm.ex h) = some (.ref (e.xa h)) ∧ ∀ c, e.T.kx c = true → PySem.W.exmOne K (.ref (e.xa c)) (.ref (e.xa h)) = some (e.T.sub c h)
section
variable {P : Program} {w : World} {K : PySem.W.Frag} {mg : Str → Option Value} {base : Heap} {e : Pm} {o : Oks}
theorem has_of {r : List Df} {f : Nat} (h : has r f = true) : ∃ d ∈ r, d.id = f := by
  obtain ⟨d, m, q⟩ := List.any_eq_true.mp h
  exact ⟨d, m, of_decide_eq_true q⟩
theorem has_ne {r : List Df} {f : Nat} (h : has r f = false) : ∀ d ∈ r, d.id ≠ f := fun d m q => by
  have : has r f = true := List.any_eq_true.mpr ⟨d, m, decide_eq_true q⟩
  rw [this] at h; cases h
theorem AllOk.at {r : List Df} : AllOk K mg e o r → ∀ d ∈ r, ∃ r', DOk K mg e o r' d := by
  induction r with
  | nil => exact fun _ _ m => nomatch m
  | cons x r ih =>
    intro h d m
    rcases List.mem_cons.mp m with m | m
    · exact ⟨r, by rw [m]; exact h.1⟩
    · exact ih h.2.2 d m
/-- a def keeps the promise that its place in the row of defs gives it -/
theorem defs_ok (S : Stat K mg e o) : ∀ r : List Df, AllOk K mg e o r → Lnk P w K mg base (pmAt e r) (o.below r) (2 * r.length) ∧
    ∀ d ∈ r, ∀ a fd, Fun K d.name d.qual d.st a fd → ∃ k, k + 1 ≤ 2 * r.length ∧ FnOk P w K mg base (L2.CX P w) k a fd d.ps (spM (e.L K) e.xa d.fn.muts d.ps.length (tabS e.T r d.id))
  | [], _ => by
    have no : ∀ {b : Bool} {f : Nat}, (b && has [] f) = true → False := fun h => by rw [Bool.and_eq_true] at h; cases h.2
    exact ⟨⟨fun f h => (no h).elim, fun f h => (no h).elim, fun c f h => (no h).elim, S.fl, S.inj, S.bl, S.cn, S.ex, S.hx⟩, fun _ m => nomatch m⟩
  | d :: r, hA => by
    obtain ⟨L1, L2'⟩ := defs_ok S r hA.2.2
    have all : ∀ x ∈ d :: r, ∀ a fd, Fun K x.name x.qual x.st a fd → ∃ k, k + 1 ≤ 2 * (d :: r).length ∧ FnOk P w K mg base (L2.CX P w) k a fd x.ps (spM (e.L K) e.xa x.fn.muts x.ps.length (tabS e.T (d :: r) x.id)) := fun x m a fd F => by
      rcases List.mem_cons.mp m with m | m
      · subst m
        rw [tabS_at]
        have dk := hA.1
        exact ⟨2 * r.length + 1, by simp only [List.length_cons]; omega, def_ok (e := pmAt e r) F dk.sc L1 x.fn dk.np dk.ns dk.nd dk.lt dk.chk⟩
      · rw [tabS_ne (has_ne hA.2.1 x m)]
        obtain ⟨k, hk, q⟩ := L2' x m a fd F
        exact ⟨k, by simp only [List.length_cons]; omega, q⟩
    have get : ∀ {b : Bool} {f : Nat}, (b && has (d :: r) f) = true → b = true ∧ ∃ x ∈ d :: r, x.id = f := fun h => by
      rw [Bool.and_eq_true] at h
      exact ⟨h.1, has_of h.2⟩
    refine ⟨⟨fun f h => ?_, fun f h => ?_, fun c f h => ?_, S.fl, S.inj, S.bl, S.cn, S.ex, S.hx⟩, all⟩
    · obtain ⟨h1, x, m, rfl⟩ := get h
      obtain ⟨_, dk⟩ := hA.at x m
      obtain ⟨a, fd, F, B, k1, k2, k3⟩ := dk.ex
      obtain ⟨k, hk, q⟩ := all x m a fd F
      exact ⟨(k1 h1).1, k, a, fd, _, (k1 h1).2, by omega, dk.ar, F.kp, B, by rw [← dk.mu] at q; exact q⟩
    · obtain ⟨h1, x, m, rfl⟩ := get h
      obtain ⟨_, dk⟩ := hA.at x m
      obtain ⟨a, fd, F, B, k1, k2, k3⟩ := dk.ex
      obtain ⟨q1, q2, q3, q4⟩ := k2 h1
      obtain ⟨k, hk, q⟩ := all x m a fd F
      exact ⟨q1, q2, q3, k, a, fd, _, q4, by omega, dk.ar, F.kp, B, by rw [← dk.mu] at q; exact q⟩
    · obtain ⟨h1, x, m, rfl⟩ := get h
      obtain ⟨_, dk⟩ := hA.at x m
      obtain ⟨a, fd, F, B, k1, k2, k3⟩ := dk.ex
      obtain ⟨q1, q2, q3, q4⟩ := k3 c h1
      obtain ⟨k, hk, q⟩ := all x m a fd F
      exact ⟨q1, by show e.T.muts x.id = [0]; rw [dk.mu, q2], q3, k, a, fd, _, q4, by omega, by omega, dk.ar, F.kp, B, by rw [← dk.mu] at q; exact q⟩
/-! ### the law -/
/-- what an except clause makes of a class -/
theorem exm_at {C S : Addr} {b : Bool} (h1 : PySem.W.subIn K (.ref S) (.type "BaseException") = some true) (h2 : PySem.W.isClsIn K S = true) (h3 : PySem.W.typeIn K (.ref S) = some (.type "type")) (h4 : PySem.W.subIn K (.ref C) (.ref S) = some b) :
    PySem.W.exmOne K (.ref C) (.ref S) = some b := by
  have h2' : (PySem.W.clsIn K S).isSome = true := h2
  unfold PySem.W.exmOne PySem.W.kitCls
  rw [h1]
  dsimp only
  rw [h3, h2', h4]
  rfl
/-- the law's promise: of no address -/
def spLaw (K : PySem.W.Frag) (F : List TL.D → FR) : Sp := fun vs H Q _ => ∃ a ns, vs = [.ref a] ∧ SqL K H a (ns.map V.int) ∧ F [script ns] = .ok [] (.bl true) ∧ ∀ H', Q (.bl true) H'
theorem spLaw_ok {F : List TL.D → FR} {H : Hp} {a : Addr} {ns : List Int} (hS : SqL K H a (ns.map V.int)) (h : F [script ns] = .ok [] (.bl true)) : spLaw K F [.ref a] H (fun v _ => v = .bl true) fun _ _ _ => False := ⟨a, ns, rfl, hS, h, fun _ => rfl⟩
theorem spLaw_to {F : List TL.D → FR} {vs : List V} {H : Hp} {Q : VK} {E : XK} (h : spLaw K F vs H Q E) : spM (e.L K) e.xa [] 1 F vs H Q E := by
  obtain ⟨a, ns, rfl, hS, h, q⟩ := h
  refine ⟨rfl, [script ns], [], fun _ => False, ?_, rfl, ?_⟩
  · refine ⟨⟨some (.ref a), [], [], [], rfl, rfl, SlotR.mk ?_, ⟨rfl, rfl⟩⟩, List.nodup_nil, fun b m => ?_, fun b m => ?_⟩
    · refine ⟨rfl, ?_⟩
      unfold Fz
      refine ⟨(fun z => nomatch z), a, _, rfl, ?_, (fun z => nomatch z), hS, Fzs.of_ints ns⟩
      rcases hS with r | r
      · refine .inl ⟨fun z => ?_, r⟩
        rcases z with z | z | z
        · cases z
        · cases z
        · exact z
      · exact .inr r
    · rcases m with m | m <;> cases m
    · rcases m with m | m | m
      · cases m
      · cases m
      · exact m.elim
  · rw [h]
    intro v H' fe' f' _ r _
    rw [r.bl]
    exact q H'
/-- the end: the law's def, as walk_of asks for it -/
theorem law_fn {d : Df} {r : List Df} {x : Str} {fa : Addr} (S : Stat K mg e o) (D : AllOk K mg e o (d :: r)) (hps : d.ps = [x]) (hmu : d.fn.muts = []) {fd : FuncData} (F : Fun K d.name d.qual d.st fa fd) :
    FnOk P w K mg base (L2.CX P w) (2 * r.length + 1) fa fd [x] (spLaw K (tabS e.T (d :: r) d.id)) := by
  obtain ⟨L1, _⟩ := defs_ok (P := P) (w := w) (base := base) S r D.2.2
  have dk := D.1
  have q := def_ok (e := pmAt e r) F dk.sc L1 d.fn dk.np dk.ns dk.nd dk.lt dk.chk
  rw [hps, hmu] at q
  rw [tabS_at]
  exact ⟨fun vs H Q E h => q.len vs H Q E (spLaw_to h), fun A outer s H args us vs Q E hr e0 hb r h => q.run A outer s H args us vs Q E hr e0 hb r (spLaw_to h)⟩
end
end TL

namespace TL
open PySem PySem.Spec PyProof.Rows L2

/-! ### names by number -/
def nthName (l : List Str) (i : Nat) : Str := match l[i]? with
  | some s => s
  | none => ⟨Array.replicate (i + 100) 0⟩
theorem nth_inj {l : List Str} (nd : l.Nodup) (sm : (l.all fun (s : Str) => decide (s.cps.size < 100)) = true) : ∀ m n, nthName l m = nthName l n → m = n := fun m n h => by
  unfold nthName at h
  have big : ∀ i, (⟨Array.replicate (i + 100) 0⟩ : Str).cps.size = i + 100 := fun i => Array.size_replicate
  have small : ∀ {i : Nat} {s : Str}, l[i]? = some s → s.cps.size < 100 := fun {i s} e => of_decide_eq_true (List.all_eq_true.mp sm s (List.mem_of_getElem? e))
  cases e1 : l[m]? with
  | some s =>
    cases e2 : l[n]? with
    | some t =>
      rw [e1, e2] at h
      dsimp only at h
      subst h
      have hm : m < l.length := by
        rcases Nat.lt_or_ge m l.length with z | z
        · exact z
        · rw [List.getElem?_eq_none z] at e1; cases e1
      exact (List.getElem?_inj hm nd).mp (e1.trans e2.symm)
    | none =>
      rw [e1, e2] at h
      dsimp only at h
      have := small e1
      rw [h, big] at this
      omega
  | none =>
    cases e2 : l[n]? with
    | some t =>
      rw [e1, e2] at h
      dsimp only at h
      have := small e2
      rw [← h, big] at this
      omega
    | none =>
      rw [e1, e2] at h
      have := congrArg (fun s : Str => s.cps.size) h
      simp only [big] at this
      omega
theorem nth_ne {l : List Str} {s : Str} (h1 : s ∉ l) (h2 : s.cps.size < 100) : ∀ n, nthName l n ≠ s := fun n h => by
  unfold nthName at h
  cases e1 : l[n]? with
  | some t =>
    rw [e1] at h
    dsimp only at h
    subst h
    exact h1 (List.mem_of_getElem? e1)
  | none =>
    rw [e1] at h
    dsimp only at h
    rw [← h] at h2
    have big : (⟨Array.replicate (n + 100) 0⟩ : Str).cps.size = n + 100 := Array.size_replicate
    omega
def fnNames : List String := (["standing", "Tent.__init__", "Tent.seams", "Tent.places", "_wall", "Tent.sort_of", "sewn", "even_worths", "Hall.__init__", "Hall.settle", "Hall.state", "Hall.again", "Hall.back", "Hall.deeds", "Hall.families", "Tent.rows", "Hall.first_rows", "Hall.fractions", "Hall.keep", "look_name", "Hall.look_free", "Tent.seam_at", "Tent.mate", "Tent.size", "plain", "Hall.lay", "Hall.lift", "Hall.names", "look_thread", "tally", "Hall.numbers", "Hall.pool", "after", "before", "linked", "followed", "backward", "turned", "least_turn", "least"] : List String) ++ (["look_counts", "traced", "Hall.pool_threads", "counts_row", "Hall.pour", "Hall.thread", "alike", "Hall.same", "Hall.tent_rows", "square", "shifts", "exchanged", "led", "pulled", "common", "fraction", "look_worths", "product", "stretched", "too_great", "Hall.turn", "Hall.weigh", "letters", "table_of", "worth", "Hall.worth_of", "_law_around", "_law_do", "contrary", "times", "_law_first", "cloth_rows", "do_parsed", "name_of", "is_number", "number_of", "pair_of", "counts_of", "parsed", "answered"] : List String) ++ (["laid", "matched", "carried", "_law_second", "driven", "easiest", "whole_sum", "eased", "flow", "led_along", "moved", "pulled_along", "_law_go", "_law_based", "cloth_of", "read", "_law_told", "_law_asked", "_law_bad_cloths", "_law_bad", "_law_begun", "_law_free", "_law_seam", "_law_best", "_law_by_text", "_law_cell", "_law_class", "_law_cloth", "_law_whole", "_law_list", "_law_cloths", "_law_counts", "_law_named", "_law_numbers", "_law_tally", "_law_walk", "_law_deed", "piece_of", "pieces", "turned_corner"] : List String) ++ (["fan", "points", "rims", "_law_deep", "_law_dict", "_law_dicts", "_law_down_half", "_law_down", "_law_due", "_law_seam_due", "_law_dues", "_law_ease", "_law_goals", "_law_led", "_law_shift", "_law_eased", "_law_ended", "_law_lowered", "_law_family", "_law_fan", "_law_far", "_law_figures", "about", "shape", "undoing", "walked", "_law_flat", "_law_flow", "_law_found", "_law_go_on", "_law_good", "_law_rows", "_law_sewn", "_law_great", "_law_pull", "_law_low", "_law_stretch", "_law_hall_turn", "_law_hall_do", "written"] : List String) ++ (["_law_hall_like", "_law_told_on", "_law_way", "_law_later", "_law_lay", "_law_lays", "_law_match", "_law_lays_right", "_law_least", "_law_lists", "_law_pieces", "_law_points", "_law_renumbered", "_law_rims", "_law_like", "_law_long", "_law_many", "_law_mate_right", "_law_mates", "_law_name", "_law_no_way", "_law_traced", "_law_now", "_law_numbers_right", "_law_odd_deed", "_law_outside", "_law_own", "_law_pair", "_law_pairs", "_law_plain", "_law_text", "_law_raw", "_law_read", "_law_sort", "_law_row", "_law_spoilt", "_law_refused", "_law_spoil", "_law_stands", "_law_truth"] : List String) ++ (["_law_worth", "_law_stands_so", "_law_step", "_law_stood", "_law_stranger", "_law_sum", "_law_tent", "_law_texts", "_law_third", "_law_thread", "_law_threads", "_law_times", "_law_told_right", "_law_trace", "_law_why", "_law_turned", "_law_turns", "_law_two", "_law_up_half", "_law_up", "_law_view", "_law_weighed", "_law_worths", "law"] : List String)
def meNames : List (Nat × String) := ([(0, ""), (0, "__init__"), (0, "seams"), (0, "places"), (0, ""), (0, "sort_of"), (0, ""), (0, ""), (1, "__init__"), (1, "settle"), (1, "state"), (1, "again"), (1, "back"), (1, "deeds"), (1, "families"), (0, "rows"), (1, "first_rows"), (1, "fractions"), (1, "keep"), (0, ""), (1, "look_free"), (0, "seam_at"), (0, "mate"), (0, "size"), (0, ""), (1, "lay"), (1, "lift"), (1, "names"), (0, ""), (0, ""), (1, "numbers"), (1, "pool"), (0, ""), (0, ""), (0, ""), (0, ""), (0, ""), (0, ""), (0, ""), (0, "")] : List (Nat × String)) ++ ([(0, ""), (0, ""), (1, "pool_threads"), (0, ""), (1, "pour"), (1, "thread"), (0, ""), (1, "same"), (1, "tent_rows"), (0, ""), (0, ""), (0, ""), (0, ""), (0, ""), (0, ""), (0, ""), (0, ""), (0, ""), (0, ""), (0, ""), (1, "turn"), (1, "weigh"), (0, ""), (0, ""), (0, ""), (1, "worth_of"), (0, ""), (0, ""), (0, ""), (0, ""), (0, ""), (0, ""), (0, ""), (0, ""), (0, ""), (0, ""), (0, ""), (0, ""), (0, ""), (0, "")] : List (Nat × String)) ++ ([(0, ""), (0, ""), (0, ""), (0, ""), (0, ""), (0, ""), (0, ""), (0, ""), (0, ""), (0, ""), (0, ""), (0, ""), (0, ""), (0, ""), (0, ""), (0, ""), (0, ""), (0, ""), (0, ""), (0, ""), (0, ""), (0, ""), (0, ""), (0, ""), (0, ""), (0, ""), (0, ""), (0, ""), (0, ""), (0, ""), (0, ""), (0, ""), (0, ""), (0, ""), (0, ""), (0, ""), (0, ""), (0, ""), (0, ""), (0, "")] : List (Nat × String)) ++ ([(0, ""), (0, ""), (0, ""), (0, ""), (0, ""), (0, ""), (0, ""), (0, ""), (0, ""), (0, ""), (0, ""), (0, ""), (0, ""), (0, ""), (0, ""), (0, ""), (0, ""), (0, ""), (0, ""), (0, ""), (0, ""), (0, ""), (0, ""), (0, ""), (0, ""), (0, ""), (0, ""), (0, ""), (0, ""), (0, ""), (0, ""), (0, ""), (0, ""), (0, ""), (0, ""), (0, ""), (0, ""), (0, ""), (0, ""), (0, "")] : List (Nat × String)) ++ ([(0, ""), (0, ""), (0, ""), (0, ""), (0, ""), (0, ""), (0, ""), (0, ""), (0, ""), (0, ""), (0, ""), (0, ""), (0, ""), (0, ""), (0, ""), (0, ""), (0, ""), (0, ""), (0, ""), (0, ""), (0, ""), (0, ""), (0, ""), (0, ""), (0, ""), (0, ""), (0, ""), (0, ""), (0, ""), (0, ""), (0, ""), (0, ""), (0, ""), (0, ""), (0, ""), (0, ""), (0, ""), (0, ""), (0, ""), (0, "")] : List (Nat × String)) ++ ([(0, ""), (0, ""), (0, ""), (0, ""), (0, ""), (0, ""), (0, ""), (0, ""), (0, ""), (0, ""), (0, ""), (0, ""), (0, ""), (0, ""), (0, ""), (0, ""), (0, ""), (0, ""), (0, ""), (0, ""), (0, ""), (0, ""), (0, ""), (0, "")] : List (Nat × String))
def clNames : List String := ["Tent", "Hall"]
def fdNames : List Str := (["cloths", "where", "tent", "first", "threads", "pools", "stretches", "past", "later"] : List String).map Str.ofString
def exNames : List String := ["TentError", "NoTent", "NoPlace", "NoSeam", "Rim", "Locked", "NoWay", "NoThread", "NoCounts", "Uneven", "Wide", "TooMany", "NoWorths", "NoFraction", "TooGreat", "NotAlike", "BadName", "Taken", "Unknown", "NoDeed", "BadOrder", "ValueError"]
def cnNames : List String := ["GREATEST", "MOST", "LONGEST", "BOUND", "SMALL", "FIGURES", "WAYS"]
def nm0 : Nm := { fn := fun i => Str.ofString (fnNames.getD i ""), me := fun i => ((meNames.getD i (0, "")).1, Str.ofString (meNames.getD i (0, "")).2), cl := fun i => Str.ofString (clNames.getD i ""), fd := nthName fdNames, ex := fun i => Str.ofString (exNames.getD i ""), cn := fun i => Str.ofString (cnNames.getD i "") }
theorem fd_inj : ∀ m n, nm0.fd m = nm0.fd n → m = n := nth_inj (by decide +kernel) (by decide +kernel)
/-- which class an error of a class is caught by -/
def exSub (a b : Nat) : Bool := decide (a = b) || decide (b = 0) || decide (b = 21)
def muts0 (i : Nat) : List Nat := if i = 1 then [0] else if i = 8 then [0] else if i = 35 then [4] else []
/-- the classes of the methods -/
def mc0 (i : Nat) : Nat := (meNames.getD i (0, "")).1
def con0 (i : Nat) : TL.D := ([.int 9999, .int 600, .int 400, .int (10 ^ 60), .str "abcdefghijklmnopqrstuvwxyz", .str "0123456789", .non] : List TL.D).getD i .und
def tb (kx : Nat → Bool) : Tbl := { F := fun _ _ => .stuck, mc := mc0, muts := muts0, con := con0, sub := exSub, kx := kx }
end TL

namespace TL
open PySem PySem.Spec PyProof.Rows L2

/-! ### the interpreter, for rewriting -/
/-- a continuation, left alone by simp: the type names it -/
@[reducible] def Kt {β : Type} (_ : β) (R : Type) : Type := R
def Out.bnd (x : Out) (k : List D → Out) : Kt k Out := match x with
  | .nx ρ => k ρ
  | o => o
def ER.bO (x : ER) (k : List D → D → Out) : Kt k Out := match x with
  | .ok ρ d => k ρ d
  | .exn c ρ => .exn c ρ
  | .stuck => .stuck
def ER.bE (x : ER) (k : List D → D → ER) : Kt k ER := match x with
  | .ok ρ d => k ρ d
  | .exn c ρ => .exn c ρ
  | .stuck => .stuck
def ER.bS (x : ER) (k : List D → D → EsR) : Kt k EsR := match x with
  | .ok ρ d => k ρ d
  | .exn c ρ => .exn c ρ
  | .stuck => .stuck
def EsR.bE (x : EsR) (k : List D → List D → ER) : Kt k ER := match x with
  | .ok ρ d => k ρ d
  | .exn c ρ => .exn c ρ
  | .stuck => .stuck
def EsR.bO (x : EsR) (k : List D → List D → Out) : Kt k Out := match x with
  | .ok ρ d => k ρ d
  | .exn c ρ => .exn c ρ
  | .stuck => .stuck
def EsR.bS (x : EsR) (k : List D → List D → EsR) : Kt k EsR := match x with
  | .ok ρ d => k ρ d
  | .exn c ρ => .exn c ρ
  | .stuck => .stuck
def D.tO (a : D) (x y : Out) : Kt x (Kt y Out) := match a with
  | .bl true => x
  | .bl false => y
  | _ => .stuck
def D.tE (a : D) (x y : ER) : Kt x (Kt y ER) := match a with
  | .bl true => x
  | .bl false => y
  | _ => .stuck
def optO {α : Type} (a : Option α) (k : α → Out) : Kt k Out := match a with
  | some a => k a
  | none => .stuck
def optE {α : Type} (a : Option α) (k : α → ER) : Kt k ER := match a with
  | some a => k a
  | none => .stuck
section
variable {ρ : List D} {d : D} {ds : List D} {c : Nat} {b : Bool} {p : Prop} [Decidable p] {x y : Out} {u v : ER} {s t : EsR} {a : D} {α : Type} {z : α} {k : List D → Out} {kO : List D → D → Out} {kE : List D → D → ER} {kS : List D → D → EsR} {lE : List D → List D → ER} {lO : List D → List D → Out} {lS : List D → List D → EsR} {oO : α → Out} {oE : α → ER}
@[simp] theorem bnd_nx : (Out.nx ρ).bnd k = k ρ := rfl
@[simp] theorem bnd_rt : (Out.rt ρ d).bnd k = .rt ρ d := rfl
@[simp] theorem bnd_bk : (Out.bk ρ).bnd k = .bk ρ := rfl
@[simp] theorem bnd_ct : (Out.ct ρ).bnd k = .ct ρ := rfl
@[simp] theorem bnd_exn : (Out.exn c ρ).bnd k = .exn c ρ := rfl
@[simp] theorem bnd_stuck : (Out.stuck).bnd k = .stuck := rfl
@[simp] theorem bnd_ite : (if p then x else y).bnd k = if p then x.bnd k else y.bnd k := by split <;> rfl
@[simp] theorem bO_ok : (ER.ok ρ d).bO kO = kO ρ d := rfl
@[simp] theorem bO_exn : (ER.exn c ρ).bO kO = .exn c ρ := rfl
@[simp] theorem bO_stuck : ER.stuck.bO kO = .stuck := rfl
@[simp] theorem bO_ite : (if p then u else v).bO kO = if p then u.bO kO else v.bO kO := by split <;> rfl
@[simp] theorem bE_ok : (ER.ok ρ d).bE kE = kE ρ d := rfl
@[simp] theorem bE_exn : (ER.exn c ρ).bE kE = .exn c ρ := rfl
@[simp] theorem bE_stuck : ER.stuck.bE kE = .stuck := rfl
@[simp] theorem bE_ite : (if p then u else v).bE kE = if p then u.bE kE else v.bE kE := by split <;> rfl
@[simp] theorem bS_ok : (ER.ok ρ d).bS kS = kS ρ d := rfl
@[simp] theorem bS_exn : (ER.exn c ρ).bS kS = .exn c ρ := rfl
@[simp] theorem bS_stuck : ER.stuck.bS kS = .stuck := rfl
@[simp] theorem bS_ite : (if p then u else v).bS kS = if p then u.bS kS else v.bS kS := by split <;> rfl
@[simp] theorem sbE_ok : (EsR.ok ρ ds).bE lE = lE ρ ds := rfl
@[simp] theorem sbE_exn : (EsR.exn c ρ).bE lE = .exn c ρ := rfl
@[simp] theorem sbE_stuck : EsR.stuck.bE lE = .stuck := rfl
@[simp] theorem sbE_ite : (if p then s else t).bE lE = if p then s.bE lE else t.bE lE := by split <;> rfl
@[simp] theorem sbO_ok : (EsR.ok ρ ds).bO lO = lO ρ ds := rfl
@[simp] theorem sbO_exn : (EsR.exn c ρ).bO lO = .exn c ρ := rfl
@[simp] theorem sbO_stuck : EsR.stuck.bO lO = .stuck := rfl
@[simp] theorem sbO_ite : (if p then s else t).bO lO = if p then s.bO lO else t.bO lO := by split <;> rfl
@[simp] theorem sbS_ok : (EsR.ok ρ ds).bS lS = lS ρ ds := rfl
@[simp] theorem sbS_exn : (EsR.exn c ρ).bS lS = .exn c ρ := rfl
@[simp] theorem sbS_stuck : EsR.stuck.bS lS = .stuck := rfl
@[simp] theorem sbS_ite : (if p then s else t).bS lS = if p then s.bS lS else t.bS lS := by split <;> rfl
@[simp] theorem tO_bl : (D.bl b).tO x y = if b = true then x else y := by cases b <;> rfl
@[simp] theorem tE_bl : (D.bl b).tE u v = if b = true then u else v := by cases b <;> rfl
@[simp] theorem optO_some : optO (some z) oO = oO z := rfl
@[simp] theorem optO_none : optO none oO = .stuck := rfl
@[simp] theorem optE_some : optE (some z) oE = oE z := rfl
@[simp] theorem optE_none : optE none oE = .stuck := rfl
@[simp] theorem optO_ite {q r : Option α} : optO (if p then q else r) oO = if p then optO q oO else optO r oO := by split <;> rfl
@[simp] theorem optE_ite {q r : Option α} : optE (if p then q else r) oE = if p then optE q oE else optE r oE := by split <;> rfl
end
/-- a loop's turns over items; while a test holds; a comprehension's items -/
def fl (T : Tbl) (C : List Nat) (g : Tg) (b : List IS) (xs ρ : List D) : Out := forL g (fun ρ => execs T C b ρ) xs ρ
def wl (T : Tbl) (C : List Nat) (t : IE) (b : List IS) (n : Nat) (ρ : List D) : Out := whileL (fun ρ => evE T t ρ) (fun ρ => execs T C b ρ) n ρ
def cl (T : Tbl) (g : Tg) (ifs : List IE) (elt : IE) (xs ρ : List D) : EsR := compL g (fun ρ => evC T ifs ρ) (fun ρ => evE T elt ρ) xs ρ []
section
variable {T : Tbl} {C : List Nat} {ρ : List D} {es : List IE} {e e1 e2 e3 : IE} {i j n f c : Nat} {r b b2 : List IS} {st : IS} {o : Op} {g : Tg} {d : D}
@[simp] theorem execs_nil : execs T C [] ρ = .nx ρ := rfl
@[simp] theorem execs_cons : execs T C (st :: r) ρ = (exec T C st ρ).bnd (execs T C r) := by
  rw [execs]
  cases exec T C st ρ <;> rfl
@[simp] theorem exec_set : exec T C (.set i e) ρ = if C.contains i = true then .stuck else (evE T e ρ).bO fun ρ1 d => if isLck d = true then .stuck else .nx (ρ1.set i d) := by
  rw [exec]; cases evE T e ρ <;> rfl
@[simp] theorem exec_setT {is : List Nat} : exec T C (.setT is e) ρ = if is.any (C.contains ·) = true then .stuck else (evE T e ρ).bO fun ρ1 d => optO (storeU is (frz d) ρ1) .nx := by
  rw [exec]
  split
  · rfl
  · cases evE T e ρ with
    | ok ρ1 d =>
      simp only [bO_ok]
      cases h : storeU is (frz d) ρ1 <;> simp only [h, optO_some, optO_none]
    | _ => rfl
@[simp] theorem exec_par : exec T C (.par i j e1 e2) ρ = if (C.contains i || C.contains j) = true then .stuck else (evEs T [e1, e2] ρ).bO fun ρ1 ds => match ds with | [x, y] => .nx ((ρ1.set i x).set j y) | _ => .stuck := by
  rw [exec]
  split
  · rfl
  · cases h : evEs T [e1, e2] ρ with
    | ok ρ1 ds =>
      match ds with
      | [] => rfl
      | [_] => rfl
      | [_, _] => rfl
      | _ :: _ :: _ :: _ => rfl
    | _ => rfl
@[simp] theorem exec_setIx : exec T C (.setIx i e1 e) ρ = if (!isOwn1 (ρ.getD i .und)) = true then .stuck else (evE T e ρ).bO fun ρ1 d => if isLck d = true then .stuck else (evE T e1 ρ1).bO fun ρ2 y => optO (putAt (ρ2.getD i .und) (frz y) (frz d)) fun d' => .nx (ρ2.set i d') := by
  rw [exec]
  split
  · rfl
  · cases evE T e ρ with
    | ok ρ1 d =>
      show (if _ then _ else _) = if _ then _ else _
      split
      · rfl
      · cases evE T e1 ρ1 with
        | ok ρ2 y =>
          show _ = optO (putAt (ρ2.getD i .und) (frz y) (frz d)) _
          cases h : putAt (ρ2.getD i .und) (frz y) (frz d) <;> (simp only [h]; rfl)
        | _ => rfl
    | _ => rfl
@[simp] theorem exec_augIx {bb : Bool} : exec T C (.augIx i e1 bb e) ρ = if (!isOwn1 (ρ.getD i .und)) = true then .stuck else (evE T e1 ρ).bO fun ρ1 y => optO (ownAt (ρ1.getD i .und) (frz y)) fun z => match z with
    | .int z => (evE T e ρ1).bO fun ρ2 m => match m with
      | .int m => optO (putAt (ρ2.getD i .und) (frz y) (.int (if bb = true then z + m else z - m))) fun d' => .nx (ρ2.set i d')
      | _ => .stuck
    | _ => .stuck := by
  rw [exec]
  split
  · rfl
  · cases evE T e1 ρ with
    | ok ρ1 y =>
      show _ = optO (ownAt (ρ1.getD i .und) (frz y)) _
      cases h : ownAt (ρ1.getD i .und) (frz y) with
      | none => simp only [h]; rfl
      | some z =>
        simp only [h, optO_some, bO_ok]
        cases z with
        | int z =>
          simp only
          cases h2 : evE T e ρ1 with
          | ok ρ2 m =>
            cases m with
            | int m =>
              simp only [bO_ok]
              cases h3 : putAt (ρ2.getD i .und) (frz y) (.int (if bb = true then z + m else z - m)) <;> (simp only [h3]; rfl)
            | _ => rfl
          | _ => rfl
        | _ => rfl
    | _ => rfl
@[simp] theorem exec_aug : exec T C (.aug i e) ρ = if (C.contains i || !isIntD (ρ.getD i .und)) = true then .stuck else (evE T e ρ).bO fun ρ1 d => match ρ.getD i .und, d with
    | .int z, .int m => .nx (ρ1.set i (.int (z + m)))
    | _, _ => .stuck := by
  rw [exec]
  split
  · rfl
  · rename_i hb
    have hz : ∃ z, ρ[i]? = some (.int z) := by
      rw [Bool.or_eq_true, not_or] at hb
      have h2 : isIntD (ρ.getD i .und) = true := by simpa using hb.2
      rw [List.getD_eq_getElem?_getD] at h2
      cases q : ρ[i]? with
      | none => rw [q] at h2; cases h2
      | some d =>
        rw [q] at h2
        cases d <;> first | exact ⟨_, rfl⟩ | cases h2
    obtain ⟨z, hz⟩ := hz
    cases h : evE T e ρ with
    | ok ρ1 d =>
      simp only [bO_ok]
      rw [List.getD_eq_getElem?_getD, hz, Option.getD_some]
      cases d <;> rfl
    | _ => rfl
@[simp] theorem exec_setF : exec T C (.setF i c f e) ρ = if (!isOwn1 (ρ.getD i .und)) = true then .stuck else (evE T e ρ).bO fun ρ1 d => if isLck d = true then .stuck else optO (putF2 (ρ1.getD i .und) c f (frz d)) fun d' => .nx (ρ1.set i d') := by
  rw [exec]
  split
  · rfl
  · cases evE T e ρ with
    | ok ρ1 d =>
      show (if _ then _ else _) = if _ then _ else _
      split
      · rfl
      · cases h : putF2 (ρ1.getD i .und) c f (frz d) <;> (simp only [h]; rfl)
    | _ => rfl
@[simp] theorem exec_setIxL : exec T C (.setIxL i j) ρ = optO (putL (ρ.getD i .und) (ρ.getD j .und)) fun d' => .nx (ρ.set i d') := by
  rw [exec]
  cases h : putL (ρ.getD i .und) (ρ.getD j .und) <;> (simp only [h]; rfl)
@[simp] theorem exec_pushIx : exec T C (.pushIx i j n) ρ = if (isLck (ρ.getD n .und) || isOwn (ρ.getD n .und)) = true then .stuck else optO (growL (ρ.getD i .und) (ρ.getD j .und) (ρ.getD n .und)) fun d' => .nx (ρ.set i d') := by
  rw [exec]
  split
  · rfl
  · cases h : growL (ρ.getD i .und) (ρ.getD j .und) (ρ.getD n .und) <;> (simp only [h]; rfl)
@[simp] theorem exec_push : exec T C (.push i e) ρ = if isOwnL (ρ.getD i .und) = false then .stuck else (evE T e ρ).bO fun ρ1 d => if isLck d = true then .stuck else optO (pushD (ρ1.getD i .und) (frz d)) fun d' => .nx (ρ1.set i d') := by
  rw [exec]
  split
  · rfl
  · cases evE T e ρ with
    | ok ρ1 d =>
      show (if _ then _ else _) = if _ then _ else _
      split
      · rfl
      · cases h : pushD (ρ1.getD i .und) (frz d) <;> (simp only [h]; rfl)
    | _ => rfl
@[simp] theorem exec_ins : exec T C (.ins i e1 e) ρ = if isOwnL (ρ.getD i .und) = false then .stuck else (evEs T [e1, e] ρ).bO fun ρ1 ds => match ds with
    | [y, d] => optO (insD (ρ1.getD i .und) y d) fun d' => .nx (ρ1.set i d')
    | _ => .stuck := by
  rw [exec]
  split
  · rfl
  · cases h : evEs T [e1, e] ρ with
    | ok ρ1 ds =>
      match ds with
      | [] => rfl
      | [_] => rfl
      | [y, d] =>
        simp only [sbO_ok]
        cases h : insD (ρ1.getD i .und) y d <;> (simp only [h]; rfl)
      | _ :: _ :: _ :: _ => rfl
    | _ => rfl
@[simp] theorem exec_clr : exec T C (.clr i) ρ = if isOwnL (ρ.getD i .und) = false then .stuck else .nx (ρ.set i (.lst .own [])) := by rw [exec]
@[simp] theorem exec_expr : exec T C (.expr e) ρ = (evE T e ρ).bO fun ρ1 _ => .nx ρ1 := by
  rw [exec]; cases evE T e ρ <;> rfl
@[simp] theorem exec_ife : exec T C (.ife e b b2) ρ = (evE T e ρ).bO fun ρ1 d => d.tO (execs T C b ρ1) (execs T C b2 ρ1) := by
  rw [exec]
  cases evE T e ρ with
  | ok ρ1 d =>
    show _ = d.tO _ _
    cases d with
    | bl k => cases k <;> rfl
    | _ => rfl
  | _ => rfl
@[simp] theorem exec_whl : exec T C (.whl n e b) ρ = wl T C e b n ρ := by rw [exec]; rfl
@[simp] theorem exec_forR : exec T C (.forR i es b) ρ = if C.contains i = true then .stuck else (evB T es ρ).bO fun ρ1 ds => optO (rng (lentB es ds ρ1)) fun p => fl T C (.one i) b (rangeD p.1 p.2) ρ1 := by
  rw [exec]
  split
  · rfl
  · cases evB T es ρ with
    | ok ρ1 ds =>
      show _ = optO (rng (lentB es ds ρ1)) _
      cases h : rng (lentB es ds ρ1) <;> (simp only [h]; rfl)
    | _ => rfl
@[simp] theorem exec_forV : exec T C (.forV i es b) ρ = if C.contains i = true then .stuck else (evB T es ρ).bO fun ρ1 ds => optO (rng (lentB es ds ρ1)) fun p => fl T C (.one i) b (rangeD p.1 p.2).reverse ρ1 := by
  rw [exec]
  split
  · rfl
  · cases evB T es ρ with
    | ok ρ1 ds =>
      show _ = optO (rng (lentB es ds ρ1)) _
      cases h : rng (lentB es ds ρ1) <;> (simp only [h]; rfl)
    | _ => rfl
@[simp] theorem exec_forE : exec T C (.forE g e b) ρ = if (slotsOf g).any (C.contains ·) = true then .stuck else (evE T e ρ).bO fun ρ1 d => if isLck d = true then .stuck else optO (items2 e (frz d)) fun xs => fl T C g b xs ρ1 := by
  rw [exec]
  split
  · rfl
  · cases evE T e ρ with
    | ok ρ1 d =>
      show (if _ then _ else _) = if _ then _ else _
      split
      · rfl
      · cases h : items2 e (frz d) <;> (simp only [h]; rfl)
    | _ => rfl
@[simp] theorem exec_forB : exec T C (.forB g e b) ρ = if (slotsOf g).any (C.contains ·) = true then .stuck else (evE T e ρ).bO fun ρ1 d => if isLck d = true then .stuck else optO (itemsR (frz d)) fun xs => fl T C g b xs ρ1 := by
  rw [exec]
  split
  · rfl
  · cases evE T e ρ with
    | ok ρ1 d =>
      show (if _ then _ else _) = if _ then _ else _
      split
      · rfl
      · cases h : itemsR (frz d) <;> (simp only [h]; rfl)
    | _ => rfl
@[simp] theorem exec_ret : exec T C (.ret e) ρ = (evE T e ρ).bO fun ρ1 d => if isLck d = true then .stuck else .rt ρ1 d := by
  rw [exec]; cases evE T e ρ <;> rfl
@[simp] theorem exec_retM : exec T C (.retM i) ρ = if C.contains i = true then .stuck else optO (ρ[i]?) fun d => if isLck d = true then .stuck else .rt (ρ.set i .und) d := by
  rw [exec]
  split
  · rfl
  · cases h : ρ[i]? <;> (simp only [h]; rfl)
@[simp] theorem exec_retN : exec T C .retN ρ = .rt ρ .non := by rw [exec]
@[simp] theorem exec_raise : exec T C (.raise c) ρ = .exn c ρ := by rw [exec]
@[simp] theorem exec_pass : exec T C .pass ρ = .nx ρ := by rw [exec]
@[simp] theorem exec_brk : exec T C .brk ρ = .bk ρ := by rw [exec]
@[simp] theorem exec_cnt : exec T C .cnt ρ = .ct ρ := by rw [exec]
@[simp] theorem exec_wall : exec T C .wall ρ = .stuck := by rw [exec]
/-- the clauses, at what the body came to -/
def trK (T : Tbl) (C : List Nat) (hs : List (Nat × Nat × IE)) : Out → Out
  | .exn c ρ1 => if T.kx c = false then .stuck else match caught T c hs with
    | some (i, e) => if C.contains i = true then .stuck else match evE T e ρ1 with
      | .ok ρ2 d => if isLck d = true then .stuck else .nx (ρ2.set i d)
      | _ => .stuck
    | none => .exn c ρ1
  | o => o
@[simp] theorem trK_nx {hs : List (Nat × Nat × IE)} : trK T C hs (.nx ρ) = .nx ρ := rfl
@[simp] theorem trK_rt {hs : List (Nat × Nat × IE)} : trK T C hs (.rt ρ d) = .rt ρ d := rfl
@[simp] theorem trK_exn {hs : List (Nat × Nat × IE)} : trK T C hs (.exn c ρ) = if T.kx c = false then .stuck else match caught T c hs with
    | some (i, e) => if C.contains i = true then .stuck else match evE T e ρ with
      | .ok ρ2 d => if isLck d = true then .stuck else .nx (ρ2.set i d)
      | _ => .stuck
    | none => .exn c ρ := rfl
@[simp] theorem trK_ite {hs : List (Nat × Nat × IE)} {p : Prop} [Decidable p] {x y : Out} : trK T C hs (if p then x else y) = if p then trK T C hs x else trK T C hs y := by split <;> rfl
@[simp] theorem exec_tr {hs : List (Nat × Nat × IE)} : exec T C (.tr b hs) ρ = trK T C hs (execs T C b ρ) := by
  rw [exec]
  cases execs T C b ρ <;> rfl

/-! ### expressions -/
@[simp] theorem evE_var : evE T (.var i) ρ = optE (ρ[i]?) fun d => if isLck d = true then .stuck else if isOwn d = true then .ok (ρ.set i (frz d)) (frz d) else .ok ρ d := by
  rw [evE]; cases h : ρ[i]? <;> (simp only [h]; rfl)
@[simp] theorem evE_lit : evE T (.lit d) ρ = .ok ρ d := by rw [evE]
@[simp] theorem evE_con : evE T (.con n) ρ = .ok ρ (T.con n) := by rw [evE]
@[simp] theorem evE_op : evE T (.op o es) ρ = if preOk o es ρ = false then .stuck else (evB T es ρ).bE fun ρ1 ds => if (lentB es ds ρ1).any isLck = true then .stuck else optE (ap o (lentB es ds ρ1)) fun d => .ok ρ1 d := by
  rw [evE]
  split
  · rfl
  · cases evB T es ρ with
    | ok ρ1 ds =>
      show (if _ then _ else _) = if _ then _ else _
      split
      · rfl
      · cases h : ap o (lentB es ds ρ1) <;> (simp only [h]; rfl)
    | _ => rfl
@[simp] theorem evE_and : evE T (.and e1 e2) ρ = (evE T e1 ρ).bE fun ρ1 d => d.tE (evE T e2 ρ1) (.ok ρ1 (.bl false)) := by
  rw [evE]
  cases evE T e1 ρ with
  | ok ρ1 d =>
    show _ = d.tE _ _
    cases d with
    | bl k => cases k <;> rfl
    | _ => rfl
  | _ => rfl
@[simp] theorem evE_or : evE T (.or e1 e2) ρ = (evE T e1 ρ).bE fun ρ1 d => d.tE (.ok ρ1 (.bl true)) (evE T e2 ρ1) := by
  rw [evE]
  cases evE T e1 ρ with
  | ok ρ1 d =>
    show _ = d.tE _ _
    cases d with
    | bl k => cases k <;> rfl
    | _ => rfl
  | _ => rfl
@[simp] theorem evE_ite : evE T (.ite e1 e2 e3) ρ = (evE T e1 ρ).bE fun ρ1 d => d.tE (evE T e2 ρ1) (evE T e3 ρ1) := by
  rw [evE]
  cases evE T e1 ρ with
  | ok ρ1 d =>
    show _ = d.tE _ _
    cases d with
    | bl k => cases k <;> rfl
    | _ => rfl
  | _ => rfl
@[simp] theorem evE_tup : evE T (.tup es) ρ = (evEs T es ρ).bE fun ρ1 ds => .ok ρ1 (.tup ds) := by
  rw [evE]; cases evEs T es ρ <;> rfl
@[simp] theorem evE_lst : evE T (.lst es) ρ = (evEs T es ρ).bE fun ρ1 ds => .ok ρ1 (.lst .own ds) := by
  rw [evE]; cases evEs T es ρ <;> rfl
@[simp] theorem evE_dct : evE T (.dct es) ρ = (evEs T es ρ).bE fun ρ1 ds => optE (pairsOf ds) fun kvs => .ok ρ1 (.dct .own (kvs.foldl (fun a p => dput a p.1 p.2) [])) := by
  rw [evE]
  cases evEs T es ρ with
  | ok ρ1 ds =>
    show _ = optE (pairsOf ds) _
    cases h : pairsOf ds <;> (simp only [h]; rfl)
  | _ => rfl
@[simp] theorem evE_dcT : evE T .dcT ρ = .ok ρ (.dtt .own []) := by rw [evE]
@[simp] theorem evE_dcL : evE T .dcL ρ = .ok ρ (.dls []) := by rw [evE]
/-- a field of what is in a slot -/
def fldK (c f : Nat) (fz : Bool) : D → Option D
  | .obj w c' fs => if c' = c ∧ (fz = true → w = .fz) then (match fs.lookup f with
    | some d => if isOwn d || isLck d then none else some d
    | none => none) else none
  | _ => none
@[simp] theorem evE_fldv : evE T (.fld c (.var i) f) ρ = optE (ρ[i]?) fun d => optE (fldK c f false d) fun d => .ok ρ d := by
  rw [evE]
  cases h : ρ[i]? with
  | none => simp only [h]; rfl
  | some d =>
    simp only [h, optE_some]
    cases d with
    | obj w c' fs =>
      simp only [fldK]
      by_cases hc : c' = c
      · simp only [hc, if_true, true_and]
        cases hl : fs.lookup f with
        | none => simp
        | some d =>
          simp only
          split <;> simp_all
      · simp [hc]
    | _ => rfl
@[simp] theorem evE_fldf {c2 f2 : Nat} {e : IE} : evE T (.fld c (.fld c2 e f2) f) ρ = (evE T (.fld c2 e f2) ρ).bE fun ρ1 d => optE (fldK c f true d) fun d => .ok ρ1 d := by
  rw [evE]
  · cases h : evE T (.fld c2 e f2) ρ with
    | ok ρ1 d =>
      simp only [bE_ok]
      cases d with
      | obj w c' fs =>
        cases w with
        | fz =>
          simp only [fldK]
          by_cases hc : c' = c
          · simp only [hc, if_true, true_and, implies_true]
            cases hl : fs.lookup f with
            | none => simp
            | some d =>
              simp only
              split <;> simp_all
          · simp [hc]
        | own => simp [fldK]
        | scr => simp [fldK]
      | _ => rfl
    | _ => rfl
  · intro i h; cases h
@[simp] theorem evE_call : evE T (.call f es) ρ = (evA T es ρ).bE fun ρ1 ds => called T f (lent es ds ρ1) es ρ1 := by
  rw [evE]; cases evA T es ρ <;> rfl
@[simp] theorem evE_callM : evE T (.callM f i es) ρ = if (!isOwn (ρ.getD i .und)) = true then .stuck else (evA T es ρ).bE fun ρ1 ds => calledM T f i (lent es ds (ρ1.set i .und)) (ρ1.getD i .und) (give es (ρ1.set i .und)) := by
  rw [evE]
  split
  · rfl
  · cases evA T es ρ <;> rfl
@[simp] theorem evE_methv : evE T (.meth f (.var i) es) ρ = if isObj (T.mc f) (ρ.getD i .und) = false then .stuck else (evA T es ρ).bE fun ρ1 ds => called T f (frz (ρ1.getD i .und) :: lent es ds ρ1) (.var i :: es) ρ1 := by
  rw [evE]
  split
  · rfl
  · cases evA T es ρ <;> rfl
theorem evE_meth (h : isVar e = none) : evE T (.meth f e es) ρ = (evE T e ρ).bE fun ρ0 d => if isObj (T.mc f) d = false then .stuck else (evA T es ρ0).bE fun ρ1 ds => called T f (frz d :: lent es ds ρ1) es ρ1 := by
  rw [evE]
  · cases evE T e ρ with
    | ok ρ0 d =>
      simp only [bE_ok]
      split
      · rfl
      · cases evA T es ρ0 <;> rfl
    | _ => rfl
  · rintro i rfl
    cases h
@[simp] theorem evE_make : evE T (.make c f es) ρ = (evA T es ρ).bE fun ρ1 ds => if (lent es ds ρ1).any isLck = true then .stuck else match T.F f (.obj .own c [] :: lent es ds ρ1) with
      | .ok (d :: _) .non => if isLck d = true then .stuck else .ok (settle d es ρ1) d
      | .exn c _ => .exn c ρ1
      | _ => .stuck := by
  rw [evE]; cases evA T es ρ <;> rfl
def ownLst : D → Option (List D)
  | .lst .own xs => some xs
  | _ => none
@[simp] theorem ownLst_own {xs : List D} : ownLst (.lst .own xs) = some xs := rfl
@[simp] theorem evE_pop0 : evE T (.pop i []) ρ = optE (ρ[i]?) fun d => optE (ownLst d) fun xs => optE (xs.getLast?) fun x => .ok (ρ.set i (.lst .own xs.dropLast)) x := by
  rw [evE]
  cases h : ρ[i]? with
  | none => simp only [h]; rfl
  | some d =>
    simp only [h, optE_some]
    cases d with
    | lst w xs =>
      cases w with
      | own =>
        simp only [ownLst_own, optE_some]
        cases q : xs.getLast? <;> simp only [q, optE_some, optE_none]
      | _ => rfl
    | _ => rfl
@[simp] theorem evE_pop1 : evE T (.pop i [e]) ρ = if isOwnL (ρ.getD i .und) = false then .stuck else (evE T e ρ).bE fun ρ1 d => match d with
    | .int k => optE (ρ1[i]?) fun d => optE (ownLst d) fun xs => if lenOk xs.length = false then .stuck else optE (ixN xs.length k) fun j => optE (xs[j]?) fun x => .ok (ρ1.set i (.lst .own (xs.eraseIdx j))) x
    | _ => .stuck := by
  rw [evE]
  split
  · rfl
  · cases h : evE T e ρ with
    | ok ρ1 d =>
      simp only [bE_ok]
      cases d with
      | int k =>
        simp only
        cases hi : ρ1[i]? with
        | none => simp only [hi]; rfl
        | some d =>
          simp only [hi, optE_some]
          cases d with
          | lst w xs =>
            cases w with
            | own =>
              simp only [ownLst_own, optE_some]
              split
              · rfl
              · cases q : ixN xs.length k with
                | none => simp only [q]; rfl
                | some j =>
                  simp only [q, optE_some]
                  cases q2 : xs[j]? <;> simp only [q2, optE_some, optE_none]
            | _ => rfl
          | _ => rfl
      | _ => rfl
    | _ => rfl
/-- a comprehension's list, back in the frame -/
def compK (ρ1 : List D) (is : List Nat) : EsR → ER
  | .ok ρ2 ds => .ok (backD ρ1 (wipeD ρ2 is) is) (.lst .own ds)
  | _ => .stuck
@[simp] theorem compK_ok {ρ1 ρ2 : List D} {is : List Nat} {ds : List D} : compK ρ1 is (.ok ρ2 ds) = .ok (backD ρ1 (wipeD ρ2 is) is) (.lst .own ds) := rfl
@[simp] theorem evE_cRng {elt : IE} {ifs : List IE} : evE T (.cRng elt i es ifs) ρ = (evB T es ρ).bE fun ρ1 ds => optE (rng (lentB es ds ρ1)) fun p => if (lenOk p.2 && plainSlots [i] ρ1) = true then compK ρ1 [i] (cl T (.one i) ifs elt (rangeD p.1 p.2) ρ1) else .stuck := by
  rw [evE]
  cases evB T es ρ with
  | ok ρ1 ds =>
    show _ = optE (rng (lentB es ds ρ1)) _
    cases h : rng (lentB es ds ρ1) with
    | none => simp only [h]; rfl
    | some p =>
      simp only [h, optE_some]
      split
      · unfold cl; cases compL (.one i) (fun ρ => evC T ifs ρ) (fun ρ => evE T elt ρ) (rangeD p.1 p.2) ρ1 [] <;> rfl
      · rfl
  | _ => rfl
@[simp] theorem evE_cSeq {elt : IE} {ifs : List IE} : evE T (.cSeq elt g e ifs) ρ = (evE T e ρ).bE fun ρ1 d => if isLck d = true then .stuck else optE (items2 e (frz d)) fun xs => if (lenOk xs.length && plainSlots (slotsOf g) ρ1) = true then compK ρ1 (slotsOf g) (cl T g ifs elt xs ρ1) else .stuck := by
  rw [evE]
  cases evE T e ρ with
  | ok ρ1 d =>
    show (if _ then _ else _) = if _ then _ else _
    split
    · rfl
    · cases h : items2 e (frz d) with
      | none => simp only [h]; rfl
      | some xs =>
        simp only [h, optE_some]
        split
        · unfold cl; cases compL g (fun ρ => evC T ifs ρ) (fun ρ => evE T elt ρ) xs ρ1 [] <;> rfl
        · rfl
  | _ => rfl
@[simp] theorem evE_cRev {elt : IE} {ifs : List IE} : evE T (.cRev elt g e ifs) ρ = (evE T e ρ).bE fun ρ1 d => if isLck d = true then .stuck else optE (itemsR (frz d)) fun xs => if (lenOk xs.length && plainSlots (slotsOf g) ρ1) = true then compK ρ1 (slotsOf g) (cl T g ifs elt xs ρ1) else .stuck := by
  rw [evE]
  cases evE T e ρ with
  | ok ρ1 d =>
    show (if _ then _ else _) = if _ then _ else _
    split
    · rfl
    · cases h : itemsR (frz d) with
      | none => simp only [h]; rfl
      | some xs =>
        simp only [h, optE_some]
        split
        · unfold cl; cases compL g (fun ρ => evC T ifs ρ) (fun ρ => evE T elt ρ) xs ρ1 [] <;> rfl
        · rfl
  | _ => rfl
@[simp] theorem evC_nil : evC T [] ρ = .ok ρ (.bl true) := by rw [evC]
@[simp] theorem evEs_nil : evEs T [] ρ = .ok ρ [] := by rw [evEs]
@[simp] theorem evEs_cons : evEs T (e :: es) ρ = (evE T e ρ).bS fun ρ1 d => if isLck d = true then .stuck else (evEs T es ρ1).bS fun ρ2 ds => .ok ρ2 (frz d :: ds) := by
  rw [evEs]
  cases evE T e ρ with
  | ok ρ1 d =>
    show (if _ then _ else _) = if _ then _ else _
    split
    · rfl
    · cases evEs T es ρ1 <;> rfl
  | _ => rfl
@[simp] theorem evB_nil : evB T [] ρ = .ok ρ [] := by rw [evB]
@[simp] theorem evB_var : evB T (.var i :: es) ρ = if isLck (ρ.getD i .und) = true then .stuck else (evB T es ρ).bS fun ρ2 ds => .ok ρ2 (.und :: ds) := by
  rw [evB]
  split
  · rfl
  · cases evB T es ρ <;> rfl
theorem evB_cons (h : isVar e = none) : evB T (e :: es) ρ = (evE T e ρ).bS fun ρ1 d => if isLck d = true then .stuck else (evB T es ρ1).bS fun ρ2 ds => .ok ρ2 (d :: ds) := by
  rw [evB]
  · cases evE T e ρ with
    | ok ρ1 d =>
      show (if _ then _ else _) = if _ then _ else _
      split
      · rfl
      · cases evB T es ρ1 <;> rfl
    | _ => rfl
  · rintro i rfl; cases h
@[simp] theorem evA_nil : evA T [] ρ = .ok ρ [] := by rw [evA]
@[simp] theorem evA_var : evA T (.var i :: es) ρ = if isLck (ρ.getD i .und) = true then .stuck else (evA T es ρ).bS fun ρ2 ds => .ok ρ2 (.und :: ds) := by
  rw [evA]
  split
  · rfl
  · cases evA T es ρ <;> rfl
theorem evA_cons' (h : isVar e = none) : evA T (e :: es) ρ = (evE T e ρ).bS fun ρ1 d => if isLck d = true then .stuck else (evA T es ρ1).bS fun ρ2 ds => .ok ρ2 (frz d :: ds) := by
  rw [evA]
  · cases evE T e ρ with
    | ok ρ1 d =>
      show (if _ then _ else _) = if _ then _ else _
      split
      · rfl
      · cases evA T es ρ1 <;> rfl
    | _ => rfl
  · rintro i rfl; cases h
@[simp] theorem lent_nil {ds : List D} : lent [] ds ρ = [] := by cases ds <;> rfl
@[simp] theorem lent_var {ds : List D} : lent (.var i :: es) (d :: ds) ρ = frz (ρ.getD i .und) :: lent es ds ρ := rfl
theorem lent_cons {ds : List D} (h : isVar e = none) : lent (e :: es) (d :: ds) ρ = d :: lent es ds ρ := by cases e <;> first | rfl | cases h
@[simp] theorem lentB_nil {ds : List D} : lentB [] ds ρ = [] := by cases ds <;> rfl
@[simp] theorem lentB_var {ds : List D} : lentB (.var i :: es) (d :: ds) ρ = ρ.getD i .und :: lentB es ds ρ := rfl
theorem lentB_cons {ds : List D} (h : isVar e = none) : lentB (e :: es) (d :: ds) ρ = d :: lentB es ds ρ := by cases e <;> first | rfl | cases h
@[simp] theorem give_nil : give [] ρ = ρ := rfl
@[simp] theorem give_var : give (.var i :: es) ρ = give es (match ρ[i]? with | some d => if isOwn d = true then ρ.set i (frz d) else ρ | none => ρ) := rfl
theorem give_cons (h : isVar e = none) : give (e :: es) ρ = give es ρ := by cases e <;> first | rfl | cases h
/-- what a call leaves, for the caller -/
def callK (es : List IE) (ρ1 : List D) : FR → ER
  | .ok _ r => .ok (settle r es ρ1) r
  | .exn c _ => .exn c ρ1
  | .stuck => .stuck
@[simp] theorem callK_ok {ρ1 ms : List D} {r : D} : callK es ρ1 (.ok ms r) = .ok (settle r es ρ1) r := rfl
@[simp] theorem callK_exn {ρ1 ms : List D} : callK es ρ1 (.exn c ms) = .exn c ρ1 := rfl
@[simp] theorem called_eq {vs ρ1 : List D} : called T f vs es ρ1 = if vs.any isLck = true then .stuck else callK es ρ1 (T.F f vs) := by
  unfold called
  split
  · rfl
  · cases T.F f vs <;> rfl
/-- what a def hands back -/
def runK (ms : List Nat) : Out → FR
  | .nx ρ => .ok (pick ms ρ) .non
  | .rt ρ d => .ok (pick ms ρ) d
  | .exn c ρ => .exn c (pick ms ρ)
  | _ => .stuck
@[simp] theorem runK_nx {ms : List Nat} : runK ms (.nx ρ) = .ok (pick ms ρ) .non := rfl
@[simp] theorem runK_rt {ms : List Nat} : runK ms (.rt ρ d) = .ok (pick ms ρ) d := rfl
@[simp] theorem runK_exn {ms : List Nat} : runK ms (.exn c ρ) = .exn c (pick ms ρ) := rfl
@[simp] theorem runK_ite {ms : List Nat} {p : Prop} [Decidable p] {x y : Out} : runK ms (if p then x else y) = if p then runK ms x else runK ms y := by split <;> rfl
theorem run_eq {fn : Fn} {vs : List D} : run T fn vs = if vs.length = fn.np ∧ fn.np ≤ fn.ns then runK fn.muts (execs T fn.muts fn.body (vs ++ List.replicate (fn.ns - fn.np) .und)) else .stuck := by
  unfold run
  split
  · cases execs T fn.muts fn.body (vs ++ List.replicate (fn.ns - fn.np) .und) <;> rfl
  · rfl
end
/-! ### by constructors -/
@[simp] theorem evB_lit {T : Tbl} {ρ : List D} {es : List IE} (d : D) : evB T (.lit d :: es) ρ = (evE T (.lit d) ρ).bS fun ρ1 d => if isLck d = true then .stuck else (evB T es ρ1).bS fun ρ2 ds => .ok ρ2 (d :: ds) := evB_cons (rfl)
@[simp] theorem evA_lit {T : Tbl} {ρ : List D} {es : List IE} (d : D) : evA T (.lit d :: es) ρ = (evE T (.lit d) ρ).bS fun ρ1 d => if isLck d = true then .stuck else (evA T es ρ1).bS fun ρ2 ds => .ok ρ2 (frz d :: ds) := evA_cons' rfl
@[simp] theorem lent_lit {ρ : List D} {es : List IE} {d0 : D} {ds : List D} (d : D) : lent (.lit d :: es) (d0 :: ds) ρ = d0 :: lent es ds ρ := lent_cons rfl
@[simp] theorem lentB_lit {ρ : List D} {es : List IE} {d0 : D} {ds : List D} (d : D) : lentB (.lit d :: es) (d0 :: ds) ρ = d0 :: lentB es ds ρ := lentB_cons rfl
@[simp] theorem give_lit {ρ : List D} {es : List IE} (d : D) : give (.lit d :: es) ρ = give es ρ := give_cons rfl
@[simp] theorem evE_meth_lit {T : Tbl} {ρ : List D} {es : List IE} {f0 : Nat} (d : D) : evE T (.meth f0 (.lit d) es) ρ = (evE T (.lit d) ρ).bE fun ρ0 d => if isObj (T.mc f0) d = false then .stuck else (evA T es ρ0).bE fun ρ1 ds => called T f0 (frz d :: lent es ds ρ1) es ρ1 := evE_meth rfl
@[simp] theorem evB_con {T : Tbl} {ρ : List D} {es : List IE} (n : Nat) : evB T (.con n :: es) ρ = (evE T (.con n) ρ).bS fun ρ1 d => if isLck d = true then .stuck else (evB T es ρ1).bS fun ρ2 ds => .ok ρ2 (d :: ds) := evB_cons (rfl)
@[simp] theorem evA_con {T : Tbl} {ρ : List D} {es : List IE} (n : Nat) : evA T (.con n :: es) ρ = (evE T (.con n) ρ).bS fun ρ1 d => if isLck d = true then .stuck else (evA T es ρ1).bS fun ρ2 ds => .ok ρ2 (frz d :: ds) := evA_cons' rfl
@[simp] theorem lent_con {ρ : List D} {es : List IE} {d0 : D} {ds : List D} (n : Nat) : lent (.con n :: es) (d0 :: ds) ρ = d0 :: lent es ds ρ := lent_cons rfl
@[simp] theorem lentB_con {ρ : List D} {es : List IE} {d0 : D} {ds : List D} (n : Nat) : lentB (.con n :: es) (d0 :: ds) ρ = d0 :: lentB es ds ρ := lentB_cons rfl
@[simp] theorem give_con {ρ : List D} {es : List IE} (n : Nat) : give (.con n :: es) ρ = give es ρ := give_cons rfl
@[simp] theorem evE_meth_con {T : Tbl} {ρ : List D} {es : List IE} {f0 : Nat} (n : Nat) : evE T (.meth f0 (.con n) es) ρ = (evE T (.con n) ρ).bE fun ρ0 d => if isObj (T.mc f0) d = false then .stuck else (evA T es ρ0).bE fun ρ1 ds => called T f0 (frz d :: lent es ds ρ1) es ρ1 := evE_meth rfl
@[simp] theorem evB_op {T : Tbl} {ρ : List D} {es : List IE} (o : Op) (l : List IE) : evB T (.op o l :: es) ρ = (evE T (.op o l) ρ).bS fun ρ1 d => if isLck d = true then .stuck else (evB T es ρ1).bS fun ρ2 ds => .ok ρ2 (d :: ds) := evB_cons (rfl)
@[simp] theorem evA_op {T : Tbl} {ρ : List D} {es : List IE} (o : Op) (l : List IE) : evA T (.op o l :: es) ρ = (evE T (.op o l) ρ).bS fun ρ1 d => if isLck d = true then .stuck else (evA T es ρ1).bS fun ρ2 ds => .ok ρ2 (frz d :: ds) := evA_cons' rfl
@[simp] theorem lent_op {ρ : List D} {es : List IE} {d0 : D} {ds : List D} (o : Op) (l : List IE) : lent (.op o l :: es) (d0 :: ds) ρ = d0 :: lent es ds ρ := lent_cons rfl
@[simp] theorem lentB_op {ρ : List D} {es : List IE} {d0 : D} {ds : List D} (o : Op) (l : List IE) : lentB (.op o l :: es) (d0 :: ds) ρ = d0 :: lentB es ds ρ := lentB_cons rfl
@[simp] theorem give_op {ρ : List D} {es : List IE} (o : Op) (l : List IE) : give (.op o l :: es) ρ = give es ρ := give_cons rfl
@[simp] theorem evE_meth_op {T : Tbl} {ρ : List D} {es : List IE} {f0 : Nat} (o : Op) (l : List IE) : evE T (.meth f0 (.op o l) es) ρ = (evE T (.op o l) ρ).bE fun ρ0 d => if isObj (T.mc f0) d = false then .stuck else (evA T es ρ0).bE fun ρ1 ds => called T f0 (frz d :: lent es ds ρ1) es ρ1 := evE_meth rfl
@[simp] theorem evB_and {T : Tbl} {ρ : List D} {es : List IE} (a b : IE) : evB T (.and a b :: es) ρ = (evE T (.and a b) ρ).bS fun ρ1 d => if isLck d = true then .stuck else (evB T es ρ1).bS fun ρ2 ds => .ok ρ2 (d :: ds) := evB_cons (rfl)
@[simp] theorem evA_and {T : Tbl} {ρ : List D} {es : List IE} (a b : IE) : evA T (.and a b :: es) ρ = (evE T (.and a b) ρ).bS fun ρ1 d => if isLck d = true then .stuck else (evA T es ρ1).bS fun ρ2 ds => .ok ρ2 (frz d :: ds) := evA_cons' rfl
@[simp] theorem lent_and {ρ : List D} {es : List IE} {d0 : D} {ds : List D} (a b : IE) : lent (.and a b :: es) (d0 :: ds) ρ = d0 :: lent es ds ρ := lent_cons rfl
@[simp] theorem lentB_and {ρ : List D} {es : List IE} {d0 : D} {ds : List D} (a b : IE) : lentB (.and a b :: es) (d0 :: ds) ρ = d0 :: lentB es ds ρ := lentB_cons rfl
@[simp] theorem give_and {ρ : List D} {es : List IE} (a b : IE) : give (.and a b :: es) ρ = give es ρ := give_cons rfl
@[simp] theorem evE_meth_and {T : Tbl} {ρ : List D} {es : List IE} {f0 : Nat} (a b : IE) : evE T (.meth f0 (.and a b) es) ρ = (evE T (.and a b) ρ).bE fun ρ0 d => if isObj (T.mc f0) d = false then .stuck else (evA T es ρ0).bE fun ρ1 ds => called T f0 (frz d :: lent es ds ρ1) es ρ1 := evE_meth rfl
@[simp] theorem evB_or {T : Tbl} {ρ : List D} {es : List IE} (a b : IE) : evB T (.or a b :: es) ρ = (evE T (.or a b) ρ).bS fun ρ1 d => if isLck d = true then .stuck else (evB T es ρ1).bS fun ρ2 ds => .ok ρ2 (d :: ds) := evB_cons (rfl)
@[simp] theorem evA_or {T : Tbl} {ρ : List D} {es : List IE} (a b : IE) : evA T (.or a b :: es) ρ = (evE T (.or a b) ρ).bS fun ρ1 d => if isLck d = true then .stuck else (evA T es ρ1).bS fun ρ2 ds => .ok ρ2 (frz d :: ds) := evA_cons' rfl
@[simp] theorem lent_or {ρ : List D} {es : List IE} {d0 : D} {ds : List D} (a b : IE) : lent (.or a b :: es) (d0 :: ds) ρ = d0 :: lent es ds ρ := lent_cons rfl
@[simp] theorem lentB_or {ρ : List D} {es : List IE} {d0 : D} {ds : List D} (a b : IE) : lentB (.or a b :: es) (d0 :: ds) ρ = d0 :: lentB es ds ρ := lentB_cons rfl
@[simp] theorem give_or {ρ : List D} {es : List IE} (a b : IE) : give (.or a b :: es) ρ = give es ρ := give_cons rfl
@[simp] theorem evE_meth_or {T : Tbl} {ρ : List D} {es : List IE} {f0 : Nat} (a b : IE) : evE T (.meth f0 (.or a b) es) ρ = (evE T (.or a b) ρ).bE fun ρ0 d => if isObj (T.mc f0) d = false then .stuck else (evA T es ρ0).bE fun ρ1 ds => called T f0 (frz d :: lent es ds ρ1) es ρ1 := evE_meth rfl
@[simp] theorem evB_ite {T : Tbl} {ρ : List D} {es : List IE} (a b c : IE) : evB T (.ite a b c :: es) ρ = (evE T (.ite a b c) ρ).bS fun ρ1 d => if isLck d = true then .stuck else (evB T es ρ1).bS fun ρ2 ds => .ok ρ2 (d :: ds) := evB_cons (rfl)
@[simp] theorem evA_ite {T : Tbl} {ρ : List D} {es : List IE} (a b c : IE) : evA T (.ite a b c :: es) ρ = (evE T (.ite a b c) ρ).bS fun ρ1 d => if isLck d = true then .stuck else (evA T es ρ1).bS fun ρ2 ds => .ok ρ2 (frz d :: ds) := evA_cons' rfl
@[simp] theorem lent_ite {ρ : List D} {es : List IE} {d0 : D} {ds : List D} (a b c : IE) : lent (.ite a b c :: es) (d0 :: ds) ρ = d0 :: lent es ds ρ := lent_cons rfl
@[simp] theorem lentB_ite {ρ : List D} {es : List IE} {d0 : D} {ds : List D} (a b c : IE) : lentB (.ite a b c :: es) (d0 :: ds) ρ = d0 :: lentB es ds ρ := lentB_cons rfl
@[simp] theorem give_ite {ρ : List D} {es : List IE} (a b c : IE) : give (.ite a b c :: es) ρ = give es ρ := give_cons rfl
@[simp] theorem evE_meth_ite {T : Tbl} {ρ : List D} {es : List IE} {f0 : Nat} (a b c : IE) : evE T (.meth f0 (.ite a b c) es) ρ = (evE T (.ite a b c) ρ).bE fun ρ0 d => if isObj (T.mc f0) d = false then .stuck else (evA T es ρ0).bE fun ρ1 ds => called T f0 (frz d :: lent es ds ρ1) es ρ1 := evE_meth rfl
@[simp] theorem evB_tup {T : Tbl} {ρ : List D} {es : List IE} (l : List IE) : evB T (.tup l :: es) ρ = (evE T (.tup l) ρ).bS fun ρ1 d => if isLck d = true then .stuck else (evB T es ρ1).bS fun ρ2 ds => .ok ρ2 (d :: ds) := evB_cons (rfl)
@[simp] theorem evA_tup {T : Tbl} {ρ : List D} {es : List IE} (l : List IE) : evA T (.tup l :: es) ρ = (evE T (.tup l) ρ).bS fun ρ1 d => if isLck d = true then .stuck else (evA T es ρ1).bS fun ρ2 ds => .ok ρ2 (frz d :: ds) := evA_cons' rfl
@[simp] theorem lent_tup {ρ : List D} {es : List IE} {d0 : D} {ds : List D} (l : List IE) : lent (.tup l :: es) (d0 :: ds) ρ = d0 :: lent es ds ρ := lent_cons rfl
@[simp] theorem lentB_tup {ρ : List D} {es : List IE} {d0 : D} {ds : List D} (l : List IE) : lentB (.tup l :: es) (d0 :: ds) ρ = d0 :: lentB es ds ρ := lentB_cons rfl
@[simp] theorem give_tup {ρ : List D} {es : List IE} (l : List IE) : give (.tup l :: es) ρ = give es ρ := give_cons rfl
@[simp] theorem evE_meth_tup {T : Tbl} {ρ : List D} {es : List IE} {f0 : Nat} (l : List IE) : evE T (.meth f0 (.tup l) es) ρ = (evE T (.tup l) ρ).bE fun ρ0 d => if isObj (T.mc f0) d = false then .stuck else (evA T es ρ0).bE fun ρ1 ds => called T f0 (frz d :: lent es ds ρ1) es ρ1 := evE_meth rfl
@[simp] theorem evB_lst {T : Tbl} {ρ : List D} {es : List IE} (l : List IE) : evB T (.lst l :: es) ρ = (evE T (.lst l) ρ).bS fun ρ1 d => if isLck d = true then .stuck else (evB T es ρ1).bS fun ρ2 ds => .ok ρ2 (d :: ds) := evB_cons (rfl)
@[simp] theorem evA_lst {T : Tbl} {ρ : List D} {es : List IE} (l : List IE) : evA T (.lst l :: es) ρ = (evE T (.lst l) ρ).bS fun ρ1 d => if isLck d = true then .stuck else (evA T es ρ1).bS fun ρ2 ds => .ok ρ2 (frz d :: ds) := evA_cons' rfl
@[simp] theorem lent_lst {ρ : List D} {es : List IE} {d0 : D} {ds : List D} (l : List IE) : lent (.lst l :: es) (d0 :: ds) ρ = d0 :: lent es ds ρ := lent_cons rfl
@[simp] theorem lentB_lst {ρ : List D} {es : List IE} {d0 : D} {ds : List D} (l : List IE) : lentB (.lst l :: es) (d0 :: ds) ρ = d0 :: lentB es ds ρ := lentB_cons rfl
@[simp] theorem give_lst {ρ : List D} {es : List IE} (l : List IE) : give (.lst l :: es) ρ = give es ρ := give_cons rfl
@[simp] theorem evE_meth_lst {T : Tbl} {ρ : List D} {es : List IE} {f0 : Nat} (l : List IE) : evE T (.meth f0 (.lst l) es) ρ = (evE T (.lst l) ρ).bE fun ρ0 d => if isObj (T.mc f0) d = false then .stuck else (evA T es ρ0).bE fun ρ1 ds => called T f0 (frz d :: lent es ds ρ1) es ρ1 := evE_meth rfl
@[simp] theorem evB_dct {T : Tbl} {ρ : List D} {es : List IE} (l : List IE) : evB T (.dct l :: es) ρ = (evE T (.dct l) ρ).bS fun ρ1 d => if isLck d = true then .stuck else (evB T es ρ1).bS fun ρ2 ds => .ok ρ2 (d :: ds) := evB_cons (rfl)
@[simp] theorem evA_dct {T : Tbl} {ρ : List D} {es : List IE} (l : List IE) : evA T (.dct l :: es) ρ = (evE T (.dct l) ρ).bS fun ρ1 d => if isLck d = true then .stuck else (evA T es ρ1).bS fun ρ2 ds => .ok ρ2 (frz d :: ds) := evA_cons' rfl
@[simp] theorem lent_dct {ρ : List D} {es : List IE} {d0 : D} {ds : List D} (l : List IE) : lent (.dct l :: es) (d0 :: ds) ρ = d0 :: lent es ds ρ := lent_cons rfl
@[simp] theorem lentB_dct {ρ : List D} {es : List IE} {d0 : D} {ds : List D} (l : List IE) : lentB (.dct l :: es) (d0 :: ds) ρ = d0 :: lentB es ds ρ := lentB_cons rfl
@[simp] theorem give_dct {ρ : List D} {es : List IE} (l : List IE) : give (.dct l :: es) ρ = give es ρ := give_cons rfl
@[simp] theorem evE_meth_dct {T : Tbl} {ρ : List D} {es : List IE} {f0 : Nat} (l : List IE) : evE T (.meth f0 (.dct l) es) ρ = (evE T (.dct l) ρ).bE fun ρ0 d => if isObj (T.mc f0) d = false then .stuck else (evA T es ρ0).bE fun ρ1 ds => called T f0 (frz d :: lent es ds ρ1) es ρ1 := evE_meth rfl
@[simp] theorem evB_dcT {T : Tbl} {ρ : List D} {es : List IE}  : evB T (.dcT :: es) ρ = (evE T (.dcT) ρ).bS fun ρ1 d => if isLck d = true then .stuck else (evB T es ρ1).bS fun ρ2 ds => .ok ρ2 (d :: ds) := evB_cons (rfl)
@[simp] theorem evA_dcT {T : Tbl} {ρ : List D} {es : List IE}  : evA T (.dcT :: es) ρ = (evE T (.dcT) ρ).bS fun ρ1 d => if isLck d = true then .stuck else (evA T es ρ1).bS fun ρ2 ds => .ok ρ2 (frz d :: ds) := evA_cons' rfl
@[simp] theorem lent_dcT {ρ : List D} {es : List IE} {d0 : D} {ds : List D}  : lent (.dcT :: es) (d0 :: ds) ρ = d0 :: lent es ds ρ := lent_cons rfl
@[simp] theorem lentB_dcT {ρ : List D} {es : List IE} {d0 : D} {ds : List D}  : lentB (.dcT :: es) (d0 :: ds) ρ = d0 :: lentB es ds ρ := lentB_cons rfl
@[simp] theorem give_dcT {ρ : List D} {es : List IE}  : give (.dcT :: es) ρ = give es ρ := give_cons rfl
@[simp] theorem evE_meth_dcT {T : Tbl} {ρ : List D} {es : List IE} {f0 : Nat}  : evE T (.meth f0 (.dcT) es) ρ = (evE T (.dcT) ρ).bE fun ρ0 d => if isObj (T.mc f0) d = false then .stuck else (evA T es ρ0).bE fun ρ1 ds => called T f0 (frz d :: lent es ds ρ1) es ρ1 := evE_meth rfl
@[simp] theorem evB_dcL {T : Tbl} {ρ : List D} {es : List IE}  : evB T (.dcL :: es) ρ = (evE T (.dcL) ρ).bS fun ρ1 d => if isLck d = true then .stuck else (evB T es ρ1).bS fun ρ2 ds => .ok ρ2 (d :: ds) := evB_cons (rfl)
@[simp] theorem evA_dcL {T : Tbl} {ρ : List D} {es : List IE}  : evA T (.dcL :: es) ρ = (evE T (.dcL) ρ).bS fun ρ1 d => if isLck d = true then .stuck else (evA T es ρ1).bS fun ρ2 ds => .ok ρ2 (frz d :: ds) := evA_cons' rfl
@[simp] theorem lent_dcL {ρ : List D} {es : List IE} {d0 : D} {ds : List D}  : lent (.dcL :: es) (d0 :: ds) ρ = d0 :: lent es ds ρ := lent_cons rfl
@[simp] theorem lentB_dcL {ρ : List D} {es : List IE} {d0 : D} {ds : List D}  : lentB (.dcL :: es) (d0 :: ds) ρ = d0 :: lentB es ds ρ := lentB_cons rfl
@[simp] theorem give_dcL {ρ : List D} {es : List IE}  : give (.dcL :: es) ρ = give es ρ := give_cons rfl
@[simp] theorem evE_meth_dcL {T : Tbl} {ρ : List D} {es : List IE} {f0 : Nat}  : evE T (.meth f0 (.dcL) es) ρ = (evE T (.dcL) ρ).bE fun ρ0 d => if isObj (T.mc f0) d = false then .stuck else (evA T es ρ0).bE fun ρ1 ds => called T f0 (frz d :: lent es ds ρ1) es ρ1 := evE_meth rfl
@[simp] theorem evB_fld {T : Tbl} {ρ : List D} {es : List IE} (c : Nat) (a : IE) (f : Nat) : evB T (.fld c a f :: es) ρ = (evE T (.fld c a f) ρ).bS fun ρ1 d => if isLck d = true then .stuck else (evB T es ρ1).bS fun ρ2 ds => .ok ρ2 (d :: ds) := evB_cons (rfl)
@[simp] theorem evA_fld {T : Tbl} {ρ : List D} {es : List IE} (c : Nat) (a : IE) (f : Nat) : evA T (.fld c a f :: es) ρ = (evE T (.fld c a f) ρ).bS fun ρ1 d => if isLck d = true then .stuck else (evA T es ρ1).bS fun ρ2 ds => .ok ρ2 (frz d :: ds) := evA_cons' rfl
@[simp] theorem lent_fld {ρ : List D} {es : List IE} {d0 : D} {ds : List D} (c : Nat) (a : IE) (f : Nat) : lent (.fld c a f :: es) (d0 :: ds) ρ = d0 :: lent es ds ρ := lent_cons rfl
@[simp] theorem lentB_fld {ρ : List D} {es : List IE} {d0 : D} {ds : List D} (c : Nat) (a : IE) (f : Nat) : lentB (.fld c a f :: es) (d0 :: ds) ρ = d0 :: lentB es ds ρ := lentB_cons rfl
@[simp] theorem give_fld {ρ : List D} {es : List IE} (c : Nat) (a : IE) (f : Nat) : give (.fld c a f :: es) ρ = give es ρ := give_cons rfl
@[simp] theorem evE_meth_fld {T : Tbl} {ρ : List D} {es : List IE} {f0 : Nat} (c : Nat) (a : IE) (f : Nat) : evE T (.meth f0 (.fld c a f) es) ρ = (evE T (.fld c a f) ρ).bE fun ρ0 d => if isObj (T.mc f0) d = false then .stuck else (evA T es ρ0).bE fun ρ1 ds => called T f0 (frz d :: lent es ds ρ1) es ρ1 := evE_meth rfl
@[simp] theorem evB_call {T : Tbl} {ρ : List D} {es : List IE} (f : Nat) (l : List IE) : evB T (.call f l :: es) ρ = (evE T (.call f l) ρ).bS fun ρ1 d => if isLck d = true then .stuck else (evB T es ρ1).bS fun ρ2 ds => .ok ρ2 (d :: ds) := evB_cons (rfl)
@[simp] theorem evA_call {T : Tbl} {ρ : List D} {es : List IE} (f : Nat) (l : List IE) : evA T (.call f l :: es) ρ = (evE T (.call f l) ρ).bS fun ρ1 d => if isLck d = true then .stuck else (evA T es ρ1).bS fun ρ2 ds => .ok ρ2 (frz d :: ds) := evA_cons' rfl
@[simp] theorem lent_call {ρ : List D} {es : List IE} {d0 : D} {ds : List D} (f : Nat) (l : List IE) : lent (.call f l :: es) (d0 :: ds) ρ = d0 :: lent es ds ρ := lent_cons rfl
@[simp] theorem lentB_call {ρ : List D} {es : List IE} {d0 : D} {ds : List D} (f : Nat) (l : List IE) : lentB (.call f l :: es) (d0 :: ds) ρ = d0 :: lentB es ds ρ := lentB_cons rfl
@[simp] theorem give_call {ρ : List D} {es : List IE} (f : Nat) (l : List IE) : give (.call f l :: es) ρ = give es ρ := give_cons rfl
@[simp] theorem evE_meth_call {T : Tbl} {ρ : List D} {es : List IE} {f0 : Nat} (f : Nat) (l : List IE) : evE T (.meth f0 (.call f l) es) ρ = (evE T (.call f l) ρ).bE fun ρ0 d => if isObj (T.mc f0) d = false then .stuck else (evA T es ρ0).bE fun ρ1 ds => called T f0 (frz d :: lent es ds ρ1) es ρ1 := evE_meth rfl
@[simp] theorem evB_callM {T : Tbl} {ρ : List D} {es : List IE} (f i : Nat) (l : List IE) : evB T (.callM f i l :: es) ρ = (evE T (.callM f i l) ρ).bS fun ρ1 d => if isLck d = true then .stuck else (evB T es ρ1).bS fun ρ2 ds => .ok ρ2 (d :: ds) := evB_cons (rfl)
@[simp] theorem evA_callM {T : Tbl} {ρ : List D} {es : List IE} (f i : Nat) (l : List IE) : evA T (.callM f i l :: es) ρ = (evE T (.callM f i l) ρ).bS fun ρ1 d => if isLck d = true then .stuck else (evA T es ρ1).bS fun ρ2 ds => .ok ρ2 (frz d :: ds) := evA_cons' rfl
@[simp] theorem lent_callM {ρ : List D} {es : List IE} {d0 : D} {ds : List D} (f i : Nat) (l : List IE) : lent (.callM f i l :: es) (d0 :: ds) ρ = d0 :: lent es ds ρ := lent_cons rfl
@[simp] theorem lentB_callM {ρ : List D} {es : List IE} {d0 : D} {ds : List D} (f i : Nat) (l : List IE) : lentB (.callM f i l :: es) (d0 :: ds) ρ = d0 :: lentB es ds ρ := lentB_cons rfl
@[simp] theorem give_callM {ρ : List D} {es : List IE} (f i : Nat) (l : List IE) : give (.callM f i l :: es) ρ = give es ρ := give_cons rfl
@[simp] theorem evE_meth_callM {T : Tbl} {ρ : List D} {es : List IE} {f0 : Nat} (f i : Nat) (l : List IE) : evE T (.meth f0 (.callM f i l) es) ρ = (evE T (.callM f i l) ρ).bE fun ρ0 d => if isObj (T.mc f0) d = false then .stuck else (evA T es ρ0).bE fun ρ1 ds => called T f0 (frz d :: lent es ds ρ1) es ρ1 := evE_meth rfl
@[simp] theorem evB_meth {T : Tbl} {ρ : List D} {es : List IE} (f : Nat) (a : IE) (l : List IE) : evB T (.meth f a l :: es) ρ = (evE T (.meth f a l) ρ).bS fun ρ1 d => if isLck d = true then .stuck else (evB T es ρ1).bS fun ρ2 ds => .ok ρ2 (d :: ds) := evB_cons (rfl)
@[simp] theorem evA_meth {T : Tbl} {ρ : List D} {es : List IE} (f : Nat) (a : IE) (l : List IE) : evA T (.meth f a l :: es) ρ = (evE T (.meth f a l) ρ).bS fun ρ1 d => if isLck d = true then .stuck else (evA T es ρ1).bS fun ρ2 ds => .ok ρ2 (frz d :: ds) := evA_cons' rfl
@[simp] theorem lent_meth {ρ : List D} {es : List IE} {d0 : D} {ds : List D} (f : Nat) (a : IE) (l : List IE) : lent (.meth f a l :: es) (d0 :: ds) ρ = d0 :: lent es ds ρ := lent_cons rfl
@[simp] theorem lentB_meth {ρ : List D} {es : List IE} {d0 : D} {ds : List D} (f : Nat) (a : IE) (l : List IE) : lentB (.meth f a l :: es) (d0 :: ds) ρ = d0 :: lentB es ds ρ := lentB_cons rfl
@[simp] theorem give_meth {ρ : List D} {es : List IE} (f : Nat) (a : IE) (l : List IE) : give (.meth f a l :: es) ρ = give es ρ := give_cons rfl
@[simp] theorem evE_meth_meth {T : Tbl} {ρ : List D} {es : List IE} {f0 : Nat} (f : Nat) (a : IE) (l : List IE) : evE T (.meth f0 (.meth f a l) es) ρ = (evE T (.meth f a l) ρ).bE fun ρ0 d => if isObj (T.mc f0) d = false then .stuck else (evA T es ρ0).bE fun ρ1 ds => called T f0 (frz d :: lent es ds ρ1) es ρ1 := evE_meth rfl
@[simp] theorem evB_make {T : Tbl} {ρ : List D} {es : List IE} (c f : Nat) (l : List IE) : evB T (.make c f l :: es) ρ = (evE T (.make c f l) ρ).bS fun ρ1 d => if isLck d = true then .stuck else (evB T es ρ1).bS fun ρ2 ds => .ok ρ2 (d :: ds) := evB_cons (rfl)
@[simp] theorem evA_make {T : Tbl} {ρ : List D} {es : List IE} (c f : Nat) (l : List IE) : evA T (.make c f l :: es) ρ = (evE T (.make c f l) ρ).bS fun ρ1 d => if isLck d = true then .stuck else (evA T es ρ1).bS fun ρ2 ds => .ok ρ2 (frz d :: ds) := evA_cons' rfl
@[simp] theorem lent_make {ρ : List D} {es : List IE} {d0 : D} {ds : List D} (c f : Nat) (l : List IE) : lent (.make c f l :: es) (d0 :: ds) ρ = d0 :: lent es ds ρ := lent_cons rfl
@[simp] theorem lentB_make {ρ : List D} {es : List IE} {d0 : D} {ds : List D} (c f : Nat) (l : List IE) : lentB (.make c f l :: es) (d0 :: ds) ρ = d0 :: lentB es ds ρ := lentB_cons rfl
@[simp] theorem give_make {ρ : List D} {es : List IE} (c f : Nat) (l : List IE) : give (.make c f l :: es) ρ = give es ρ := give_cons rfl
@[simp] theorem evE_meth_make {T : Tbl} {ρ : List D} {es : List IE} {f0 : Nat} (c f : Nat) (l : List IE) : evE T (.meth f0 (.make c f l) es) ρ = (evE T (.make c f l) ρ).bE fun ρ0 d => if isObj (T.mc f0) d = false then .stuck else (evA T es ρ0).bE fun ρ1 ds => called T f0 (frz d :: lent es ds ρ1) es ρ1 := evE_meth rfl
@[simp] theorem evB_cRng {T : Tbl} {ρ : List D} {es : List IE} (a : IE) (i : Nat) (l m : List IE) : evB T (.cRng a i l m :: es) ρ = (evE T (.cRng a i l m) ρ).bS fun ρ1 d => if isLck d = true then .stuck else (evB T es ρ1).bS fun ρ2 ds => .ok ρ2 (d :: ds) := evB_cons (rfl)
@[simp] theorem evA_cRng {T : Tbl} {ρ : List D} {es : List IE} (a : IE) (i : Nat) (l m : List IE) : evA T (.cRng a i l m :: es) ρ = (evE T (.cRng a i l m) ρ).bS fun ρ1 d => if isLck d = true then .stuck else (evA T es ρ1).bS fun ρ2 ds => .ok ρ2 (frz d :: ds) := evA_cons' rfl
@[simp] theorem lent_cRng {ρ : List D} {es : List IE} {d0 : D} {ds : List D} (a : IE) (i : Nat) (l m : List IE) : lent (.cRng a i l m :: es) (d0 :: ds) ρ = d0 :: lent es ds ρ := lent_cons rfl
@[simp] theorem lentB_cRng {ρ : List D} {es : List IE} {d0 : D} {ds : List D} (a : IE) (i : Nat) (l m : List IE) : lentB (.cRng a i l m :: es) (d0 :: ds) ρ = d0 :: lentB es ds ρ := lentB_cons rfl
@[simp] theorem give_cRng {ρ : List D} {es : List IE} (a : IE) (i : Nat) (l m : List IE) : give (.cRng a i l m :: es) ρ = give es ρ := give_cons rfl
@[simp] theorem evE_meth_cRng {T : Tbl} {ρ : List D} {es : List IE} {f0 : Nat} (a : IE) (i : Nat) (l m : List IE) : evE T (.meth f0 (.cRng a i l m) es) ρ = (evE T (.cRng a i l m) ρ).bE fun ρ0 d => if isObj (T.mc f0) d = false then .stuck else (evA T es ρ0).bE fun ρ1 ds => called T f0 (frz d :: lent es ds ρ1) es ρ1 := evE_meth rfl
@[simp] theorem evB_cSeq {T : Tbl} {ρ : List D} {es : List IE} (a : IE) (g : Tg) (b : IE) (l : List IE) : evB T (.cSeq a g b l :: es) ρ = (evE T (.cSeq a g b l) ρ).bS fun ρ1 d => if isLck d = true then .stuck else (evB T es ρ1).bS fun ρ2 ds => .ok ρ2 (d :: ds) := evB_cons (rfl)
@[simp] theorem evA_cSeq {T : Tbl} {ρ : List D} {es : List IE} (a : IE) (g : Tg) (b : IE) (l : List IE) : evA T (.cSeq a g b l :: es) ρ = (evE T (.cSeq a g b l) ρ).bS fun ρ1 d => if isLck d = true then .stuck else (evA T es ρ1).bS fun ρ2 ds => .ok ρ2 (frz d :: ds) := evA_cons' rfl
@[simp] theorem lent_cSeq {ρ : List D} {es : List IE} {d0 : D} {ds : List D} (a : IE) (g : Tg) (b : IE) (l : List IE) : lent (.cSeq a g b l :: es) (d0 :: ds) ρ = d0 :: lent es ds ρ := lent_cons rfl
@[simp] theorem lentB_cSeq {ρ : List D} {es : List IE} {d0 : D} {ds : List D} (a : IE) (g : Tg) (b : IE) (l : List IE) : lentB (.cSeq a g b l :: es) (d0 :: ds) ρ = d0 :: lentB es ds ρ := lentB_cons rfl
@[simp] theorem give_cSeq {ρ : List D} {es : List IE} (a : IE) (g : Tg) (b : IE) (l : List IE) : give (.cSeq a g b l :: es) ρ = give es ρ := give_cons rfl
@[simp] theorem evE_meth_cSeq {T : Tbl} {ρ : List D} {es : List IE} {f0 : Nat} (a : IE) (g : Tg) (b : IE) (l : List IE) : evE T (.meth f0 (.cSeq a g b l) es) ρ = (evE T (.cSeq a g b l) ρ).bE fun ρ0 d => if isObj (T.mc f0) d = false then .stuck else (evA T es ρ0).bE fun ρ1 ds => called T f0 (frz d :: lent es ds ρ1) es ρ1 := evE_meth rfl
@[simp] theorem evB_cRev {T : Tbl} {ρ : List D} {es : List IE} (a : IE) (g : Tg) (b : IE) (l : List IE) : evB T (.cRev a g b l :: es) ρ = (evE T (.cRev a g b l) ρ).bS fun ρ1 d => if isLck d = true then .stuck else (evB T es ρ1).bS fun ρ2 ds => .ok ρ2 (d :: ds) := evB_cons (rfl)
@[simp] theorem evA_cRev {T : Tbl} {ρ : List D} {es : List IE} (a : IE) (g : Tg) (b : IE) (l : List IE) : evA T (.cRev a g b l :: es) ρ = (evE T (.cRev a g b l) ρ).bS fun ρ1 d => if isLck d = true then .stuck else (evA T es ρ1).bS fun ρ2 ds => .ok ρ2 (frz d :: ds) := evA_cons' rfl
@[simp] theorem lent_cRev {ρ : List D} {es : List IE} {d0 : D} {ds : List D} (a : IE) (g : Tg) (b : IE) (l : List IE) : lent (.cRev a g b l :: es) (d0 :: ds) ρ = d0 :: lent es ds ρ := lent_cons rfl
@[simp] theorem lentB_cRev {ρ : List D} {es : List IE} {d0 : D} {ds : List D} (a : IE) (g : Tg) (b : IE) (l : List IE) : lentB (.cRev a g b l :: es) (d0 :: ds) ρ = d0 :: lentB es ds ρ := lentB_cons rfl
@[simp] theorem give_cRev {ρ : List D} {es : List IE} (a : IE) (g : Tg) (b : IE) (l : List IE) : give (.cRev a g b l :: es) ρ = give es ρ := give_cons rfl
@[simp] theorem evE_meth_cRev {T : Tbl} {ρ : List D} {es : List IE} {f0 : Nat} (a : IE) (g : Tg) (b : IE) (l : List IE) : evE T (.meth f0 (.cRev a g b l) es) ρ = (evE T (.cRev a g b l) ρ).bE fun ρ0 d => if isObj (T.mc f0) d = false then .stuck else (evA T es ρ0).bE fun ρ1 ds => called T f0 (frz d :: lent es ds ρ1) es ρ1 := evE_meth rfl
@[simp] theorem evB_pop {T : Tbl} {ρ : List D} {es : List IE} (i : Nat) (l : List IE) : evB T (.pop i l :: es) ρ = (evE T (.pop i l) ρ).bS fun ρ1 d => if isLck d = true then .stuck else (evB T es ρ1).bS fun ρ2 ds => .ok ρ2 (d :: ds) := evB_cons (rfl)
@[simp] theorem evA_pop {T : Tbl} {ρ : List D} {es : List IE} (i : Nat) (l : List IE) : evA T (.pop i l :: es) ρ = (evE T (.pop i l) ρ).bS fun ρ1 d => if isLck d = true then .stuck else (evA T es ρ1).bS fun ρ2 ds => .ok ρ2 (frz d :: ds) := evA_cons' rfl
@[simp] theorem lent_pop {ρ : List D} {es : List IE} {d0 : D} {ds : List D} (i : Nat) (l : List IE) : lent (.pop i l :: es) (d0 :: ds) ρ = d0 :: lent es ds ρ := lent_cons rfl
@[simp] theorem lentB_pop {ρ : List D} {es : List IE} {d0 : D} {ds : List D} (i : Nat) (l : List IE) : lentB (.pop i l :: es) (d0 :: ds) ρ = d0 :: lentB es ds ρ := lentB_cons rfl
@[simp] theorem give_pop {ρ : List D} {es : List IE} (i : Nat) (l : List IE) : give (.pop i l :: es) ρ = give es ρ := give_cons rfl
@[simp] theorem evE_meth_pop {T : Tbl} {ρ : List D} {es : List IE} {f0 : Nat} (i : Nat) (l : List IE) : evE T (.meth f0 (.pop i l) es) ρ = (evE T (.pop i l) ρ).bE fun ρ0 d => if isObj (T.mc f0) d = false then .stuck else (evA T es ρ0).bE fun ρ1 ds => called T f0 (frz d :: lent es ds ρ1) es ρ1 := evE_meth rfl
@[simp] theorem isLck_und  : isLck (.und) = true := (rfl)
@[simp] theorem isOwn_und  : isOwn (.und) = false := (rfl)
@[simp] theorem isOwn1_und  : isOwn1 (.und) = false := (rfl)
@[simp] theorem frz_und  : frz (.und) = .und := (rfl)
@[simp] theorem isLck_non  : isLck (.non) = false := (rfl)
@[simp] theorem isOwn_non  : isOwn (.non) = false := (rfl)
@[simp] theorem isOwn1_non  : isOwn1 (.non) = false := (rfl)
@[simp] theorem frz_non  : frz (.non) = .non := (rfl)
@[simp] theorem isOwnL_non  : isOwnL (.non) = false := (rfl)
@[simp] theorem isLck_bl {b : Bool} : isLck (.bl b) = false := (rfl)
@[simp] theorem isOwn_bl {b : Bool} : isOwn (.bl b) = false := (rfl)
@[simp] theorem isOwn1_bl {b : Bool} : isOwn1 (.bl b) = false := (rfl)
@[simp] theorem frz_bl {b : Bool} : frz (.bl b) = .bl b := (rfl)
@[simp] theorem isOwnL_bl {b : Bool} : isOwnL (.bl b) = false := (rfl)
@[simp] theorem isLck_int {i : Int} : isLck (.int i) = false := (rfl)
@[simp] theorem isOwn_int {i : Int} : isOwn (.int i) = false := (rfl)
@[simp] theorem isOwn1_int {i : Int} : isOwn1 (.int i) = false := (rfl)
@[simp] theorem frz_int {i : Int} : frz (.int i) = .int i := (rfl)
@[simp] theorem isOwnL_int {i : Int} : isOwnL (.int i) = false := (rfl)
@[simp] theorem isLck_str {x : Str} : isLck (.str x) = false := (rfl)
@[simp] theorem isOwn_str {x : Str} : isOwn (.str x) = false := (rfl)
@[simp] theorem isOwn1_str {x : Str} : isOwn1 (.str x) = false := (rfl)
@[simp] theorem frz_str {x : Str} : frz (.str x) = .str x := (rfl)
@[simp] theorem isOwnL_str {x : Str} : isOwnL (.str x) = false := (rfl)
@[simp] theorem isLck_lfz {xs : List D} : isLck (.lst .fz xs) = false := (rfl)
@[simp] theorem isOwn_lfz {xs : List D} : isOwn (.lst .fz xs) = false := (rfl)
@[simp] theorem isOwn1_lfz {xs : List D} : isOwn1 (.lst .fz xs) = false := (rfl)
@[simp] theorem frz_lfz {xs : List D} : frz (.lst .fz xs) = .lst .fz xs := (rfl)
@[simp] theorem isLck_low {xs : List D} : isLck (.lst .own xs) = false := (rfl)
@[simp] theorem isOwn_low {xs : List D} : isOwn (.lst .own xs) = true := (rfl)
@[simp] theorem isOwn1_low {xs : List D} : isOwn1 (.lst .own xs) = true := (rfl)
@[simp] theorem frz_low {xs : List D} : frz (.lst .own xs) = .lst .fz xs := (rfl)
@[simp] theorem isLck_lsc {xs : List D} : isLck (.lst .scr xs) = false := (rfl)
@[simp] theorem isOwn_lsc {xs : List D} : isOwn (.lst .scr xs) = false := (rfl)
@[simp] theorem isOwn1_lsc {xs : List D} : isOwn1 (.lst .scr xs) = false := (rfl)
@[simp] theorem frz_lsc {xs : List D} : frz (.lst .scr xs) = .lst .scr xs := (rfl)
@[simp] theorem isLck_tup {xs : List D} : isLck (.tup xs) = false := (rfl)
@[simp] theorem isOwn_tup {xs : List D} : isOwn (.tup xs) = false := (rfl)
@[simp] theorem isOwn1_tup {xs : List D} : isOwn1 (.tup xs) = false := (rfl)
@[simp] theorem frz_tup {xs : List D} : frz (.tup xs) = .tup xs := (rfl)
@[simp] theorem isLck_dfz {k : List (Key × D)} : isLck (.dct .fz k) = false := (rfl)
@[simp] theorem isOwn_dfz {k : List (Key × D)} : isOwn (.dct .fz k) = false := (rfl)
@[simp] theorem isOwn1_dfz {k : List (Key × D)} : isOwn1 (.dct .fz k) = false := (rfl)
@[simp] theorem frz_dfz {k : List (Key × D)} : frz (.dct .fz k) = .dct .fz k := (rfl)
@[simp] theorem isLck_dow {k : List (Key × D)} : isLck (.dct .own k) = false := (rfl)
@[simp] theorem isOwn_dow {k : List (Key × D)} : isOwn (.dct .own k) = true := (rfl)
@[simp] theorem isOwn1_dow {k : List (Key × D)} : isOwn1 (.dct .own k) = true := (rfl)
@[simp] theorem frz_dow {k : List (Key × D)} : frz (.dct .own k) = .dct .fz k := (rfl)
@[simp] theorem isLck_tfz {k : List (List Key × D)} : isLck (.dtt .fz k) = false := (rfl)
@[simp] theorem isOwn_tfz {k : List (List Key × D)} : isOwn (.dtt .fz k) = false := (rfl)
@[simp] theorem isOwn1_tfz {k : List (List Key × D)} : isOwn1 (.dtt .fz k) = false := (rfl)
@[simp] theorem frz_tfz {k : List (List Key × D)} : frz (.dtt .fz k) = .dtt .fz k := (rfl)
@[simp] theorem isLck_tow {k : List (List Key × D)} : isLck (.dtt .own k) = false := (rfl)
@[simp] theorem isOwn_tow {k : List (List Key × D)} : isOwn (.dtt .own k) = true := (rfl)
@[simp] theorem isOwn1_tow {k : List (List Key × D)} : isOwn1 (.dtt .own k) = true := (rfl)
@[simp] theorem frz_tow {k : List (List Key × D)} : frz (.dtt .own k) = .dtt .fz k := (rfl)
@[simp] theorem isLck_ofz {c : Nat} {fs : List (Nat × D)} : isLck (.obj .fz c fs) = false := (rfl)
@[simp] theorem isOwn_ofz {c : Nat} {fs : List (Nat × D)} : isOwn (.obj .fz c fs) = false := (rfl)
@[simp] theorem isOwn1_ofz {c : Nat} {fs : List (Nat × D)} : isOwn1 (.obj .fz c fs) = false := (rfl)
@[simp] theorem frz_ofz {c : Nat} {fs : List (Nat × D)} : frz (.obj .fz c fs) = .obj .fz c (frzF fs) := (rfl)
@[simp] theorem isLck_oow {c : Nat} {fs : List (Nat × D)} : isLck (.obj .own c fs) = false := (rfl)
@[simp] theorem isOwn_oow {c : Nat} {fs : List (Nat × D)} : isOwn (.obj .own c fs) = true := (rfl)
@[simp] theorem isOwn1_oow {c : Nat} {fs : List (Nat × D)} : isOwn1 (.obj .own c fs) = true := (rfl)
@[simp] theorem frz_oow {c : Nat} {fs : List (Nat × D)} : frz (.obj .own c fs) = .obj .fz c (frzF fs) := (rfl)
@[simp] theorem isLck_dls {k : List (Key × List D)} : isLck (.dls k) = false := (rfl)
@[simp] theorem isOwn_dls {k : List (Key × List D)} : isOwn (.dls k) = true := (rfl)
@[simp] theorem isOwn1_dls {k : List (Key × List D)} : isOwn1 (.dls k) = false := (rfl)
@[simp] theorem frz_dls {k : List (Key × List D)} : frz (.dls k) = .dct .fz (k.map fun p => (p.1, .lst .fz p.2)) := (rfl)
@[simp] theorem isLck_obn {c : Nat} {fs : List (Nat × D)} : isLck (.obn c fs) = false := (rfl)
@[simp] theorem isOwn_obn {c : Nat} {fs : List (Nat × D)} : isOwn (.obn c fs) = true := (rfl)
@[simp] theorem isOwn1_obn {c : Nat} {fs : List (Nat × D)} : isOwn1 (.obn c fs) = false := (rfl)
@[simp] theorem frz_obn {c : Nat} {fs : List (Nat × D)} : frz (.obn c fs) = .obj .fz c (frzF fs) := (rfl)
@[simp] theorem isOwnL_low {xs : List D} : isOwnL (.lst .own xs) = true := (rfl)
@[simp] theorem isIntD_int {i : Int} : isIntD (.int i) = true := (rfl)
@[simp] theorem isDct_dct {w : W} {k : List (Key × D)} : isDct (.dct w k) = true := (rfl)
@[simp] theorem isObj_obj {w : W} {c c2 : Nat} {fs : List (Nat × D)} : isObj c (.obj w c2 fs) = (c2 == c) := (rfl)
@[simp] theorem frzF_nil : frzF [] = [] := (rfl)
@[simp] theorem frzF_cons {n : Nat} {d : D} {r : List (Nat × D)} : frzF ((n, d) :: r) = (n, frz d) :: frzF r := (rfl)
@[simp] theorem ap_is_add {ds : List D} : ap .add ds = ap_add ds := (rfl)
@[simp] theorem ap_is_sub {ds : List D} : ap .sub ds = ap_sub ds := (rfl)
@[simp] theorem ap_is_mul {ds : List D} : ap .mul ds = ap_mul ds := (rfl)
@[simp] theorem ap_is_fdiv {ds : List D} : ap .fdiv ds = ap_fdiv ds := (rfl)
@[simp] theorem ap_is_mod {ds : List D} : ap .mod ds = ap_mod ds := (rfl)
@[simp] theorem ap_is_pow {ds : List D} : ap .pow ds = ap_pow ds := (rfl)
@[simp] theorem ap_is_neg {ds : List D} : ap .neg ds = ap_neg ds := (rfl)
@[simp] theorem ap_is_eq {ds : List D} : ap .eq ds = ap_eq ds := (rfl)
@[simp] theorem ap_is_ne {ds : List D} : ap .ne ds = ap_ne ds := (rfl)
@[simp] theorem ap_is_lt {ds : List D} : ap .lt ds = ap_lt ds := (rfl)
@[simp] theorem ap_is_le {ds : List D} : ap .le ds = ap_le ds := (rfl)
@[simp] theorem ap_is_gt {ds : List D} : ap .gt ds = ap_gt ds := (rfl)
@[simp] theorem ap_is_ge {ds : List D} : ap .ge ds = ap_ge ds := (rfl)
@[simp] theorem ap_is_inn {ds : List D} : ap .inn ds = ap_inn ds := (rfl)
@[simp] theorem ap_is_nin {ds : List D} : ap .nin ds = ap_nin ds := (rfl)
@[simp] theorem ap_is_isN {ds : List D} : ap .isN ds = ap_isN ds := (rfl)
@[simp] theorem ap_is_notN {ds : List D} : ap .notN ds = ap_notN ds := (rfl)
@[simp] theorem ap_is_not {ds : List D} : ap .not ds = ap_not ds := (rfl)
@[simp] theorem ap_is_len {ds : List D} : ap .len ds = ap_len ds := (rfl)
@[simp] theorem ap_is_list {ds : List D} : ap .list ds = ap_list ds := (rfl)
@[simp] theorem ap_is_tuple {ds : List D} : ap .tuple ds = ap_tuple ds := (rfl)
@[simp] theorem ap_is_dict {ds : List D} : ap .dict ds = ap_dict ds := (rfl)
@[simp] theorem ap_is_sorted {ds : List D} : ap .sorted ds = ap_sorted ds := (rfl)
@[simp] theorem ap_is_sum {ds : List D} : ap .sum ds = ap_sum ds := (rfl)
@[simp] theorem ap_is_max1 {ds : List D} : ap .max1 ds = ap_max1 ds := (rfl)
@[simp] theorem ap_is_min1 {ds : List D} : ap .min1 ds = ap_min1 ds := (rfl)
@[simp] theorem ap_is_max2 {ds : List D} : ap .max2 ds = ap_max2 ds := (rfl)
@[simp] theorem ap_is_min2 {ds : List D} : ap .min2 ds = ap_min2 ds := (rfl)
@[simp] theorem ap_is_abs {ds : List D} : ap .abs ds = ap_abs ds := (rfl)
@[simp] theorem ap_is_intb {ds : List D} : ap .intb ds = ap_intb ds := (rfl)
@[simp] theorem ap_is_isI {ds : List D} : ap .isI ds = ap_isI ds := (rfl)
@[simp] theorem ap_is_isB {ds : List D} : ap .isB ds = ap_isB ds := (rfl)
@[simp] theorem ap_is_isL {ds : List D} : ap .isL ds = ap_isL ds := (rfl)
@[simp] theorem ap_is_isT {ds : List D} : ap .isT ds = ap_isT ds := (rfl)
@[simp] theorem ap_is_isD {ds : List D} : ap .isD ds = ap_isD ds := (rfl)
@[simp] theorem ap_is_isS {ds : List D} : ap .isS ds = ap_isS ds := (rfl)
@[simp] theorem ap_is_idx {ds : List D} : ap .idx ds = ap_idx ds := (rfl)
@[simp] theorem ap_is_get {ds : List D} : ap .get ds = ap_get ds := (rfl)
@[simp] theorem ap_is_getL {ds : List D} : ap .getL ds = ap_getL ds := (rfl)
@[simp] theorem ap_is_sl {ds : List D} : ap .sl ds = ap_sl ds := (rfl)
@[simp] theorem ap_is_sl0 {ds : List D} : ap .sl0 ds = ap_sl0 ds := (rfl)
@[simp] theorem ap_is_slE {ds : List D} : ap .slE ds = ap_slE ds := (rfl)
@[simp] theorem ap_is_slA {ds : List D} : ap .slA ds = ap_slA ds := (rfl)
@[simp] theorem ap_is_rangeL {ds : List D} : ap .rangeL ds = ap_rangeL ds := (rfl)
@[simp] theorem ap_is_join {ds : List D} : ap .join ds = ap_join ds := (rfl)
@[simp] theorem ap_is_isTr {ds : List D} : ap .isTr ds = ap_isTr ds := (rfl)
@[simp] theorem pre_add {es : List IE} {ρ : List D} : preOk .add es ρ = true := (rfl)
@[simp] theorem pre_sub {es : List IE} {ρ : List D} : preOk .sub es ρ = true := (rfl)
@[simp] theorem pre_mul {es : List IE} {ρ : List D} : preOk .mul es ρ = true := (rfl)
@[simp] theorem pre_fdiv {es : List IE} {ρ : List D} : preOk .fdiv es ρ = true := (rfl)
@[simp] theorem pre_mod {es : List IE} {ρ : List D} : preOk .mod es ρ = true := (rfl)
@[simp] theorem pre_pow {es : List IE} {ρ : List D} : preOk .pow es ρ = true := (rfl)
@[simp] theorem pre_neg {es : List IE} {ρ : List D} : preOk .neg es ρ = true := (rfl)
@[simp] theorem pre_eq {es : List IE} {ρ : List D} : preOk .eq es ρ = true := (rfl)
@[simp] theorem pre_ne {es : List IE} {ρ : List D} : preOk .ne es ρ = true := (rfl)
@[simp] theorem pre_lt {es : List IE} {ρ : List D} : preOk .lt es ρ = true := (rfl)
@[simp] theorem pre_le {es : List IE} {ρ : List D} : preOk .le es ρ = true := (rfl)
@[simp] theorem pre_gt {es : List IE} {ρ : List D} : preOk .gt es ρ = true := (rfl)
@[simp] theorem pre_ge {es : List IE} {ρ : List D} : preOk .ge es ρ = true := (rfl)
@[simp] theorem pre_inn {es : List IE} {ρ : List D} : preOk .inn es ρ = true := (rfl)
@[simp] theorem pre_nin {es : List IE} {ρ : List D} : preOk .nin es ρ = true := (rfl)
@[simp] theorem pre_isN {es : List IE} {ρ : List D} : preOk .isN es ρ = true := (rfl)
@[simp] theorem pre_notN {es : List IE} {ρ : List D} : preOk .notN es ρ = true := (rfl)
@[simp] theorem pre_not {es : List IE} {ρ : List D} : preOk .not es ρ = true := (rfl)
@[simp] theorem pre_len {es : List IE} {ρ : List D} : preOk .len es ρ = true := (rfl)
@[simp] theorem pre_list {es : List IE} {ρ : List D} : preOk .list es ρ = true := (rfl)
@[simp] theorem pre_tuple {es : List IE} {ρ : List D} : preOk .tuple es ρ = true := (rfl)
@[simp] theorem pre_dict {es : List IE} {ρ : List D} : preOk .dict es ρ = true := (rfl)
@[simp] theorem pre_sorted {es : List IE} {ρ : List D} : preOk .sorted es ρ = true := (rfl)
@[simp] theorem pre_sum {es : List IE} {ρ : List D} : preOk .sum es ρ = true := (rfl)
@[simp] theorem pre_max1 {es : List IE} {ρ : List D} : preOk .max1 es ρ = true := (rfl)
@[simp] theorem pre_min1 {es : List IE} {ρ : List D} : preOk .min1 es ρ = true := (rfl)
@[simp] theorem pre_max2 {es : List IE} {ρ : List D} : preOk .max2 es ρ = true := (rfl)
@[simp] theorem pre_min2 {es : List IE} {ρ : List D} : preOk .min2 es ρ = true := (rfl)
@[simp] theorem pre_abs {es : List IE} {ρ : List D} : preOk .abs es ρ = true := (rfl)
@[simp] theorem pre_intb {es : List IE} {ρ : List D} : preOk .intb es ρ = true := (rfl)
@[simp] theorem pre_isI {es : List IE} {ρ : List D} : preOk .isI es ρ = true := (rfl)
@[simp] theorem pre_isB {es : List IE} {ρ : List D} : preOk .isB es ρ = true := (rfl)
@[simp] theorem pre_isL {es : List IE} {ρ : List D} : preOk .isL es ρ = true := (rfl)
@[simp] theorem pre_isT {es : List IE} {ρ : List D} : preOk .isT es ρ = true := (rfl)
@[simp] theorem pre_isD {es : List IE} {ρ : List D} : preOk .isD es ρ = true := (rfl)
@[simp] theorem pre_isS {es : List IE} {ρ : List D} : preOk .isS es ρ = true := (rfl)
@[simp] theorem pre_idx {es : List IE} {ρ : List D} : preOk .idx es ρ = true := (rfl)
@[simp] theorem pre_sl0 {es : List IE} {ρ : List D} : preOk .sl0 es ρ = true := (rfl)
@[simp] theorem pre_slE {es : List IE} {ρ : List D} : preOk .slE es ρ = true := (rfl)
@[simp] theorem pre_slA {es : List IE} {ρ : List D} : preOk .slA es ρ = true := (rfl)
@[simp] theorem pre_rangeL {es : List IE} {ρ : List D} : preOk .rangeL es ρ = true := (rfl)
@[simp] theorem pre_isTr {es : List IE} {ρ : List D} : preOk .isTr es ρ = true := (rfl)
@[simp] theorem pre_get {i : Nat} {es : List IE} {ρ : List D} : preOk .get (.var i :: es) ρ = isDct (ρ.getD i .und) := (rfl)
@[simp] theorem pre_getL {i : Nat} {es : List IE} {ρ : List D} : preOk .getL (.var i :: es) ρ = isDct (ρ.getD i .und) := (rfl)
@[simp] theorem pre_joinl {s : Str} {es : List IE} {ρ : List D} : preOk .join (.lit (.str s) :: es) ρ = true := (rfl)
@[simp] theorem ap_add_int {i j : Int} : ap_add [.int i, .int j] = some (.int (i + j)) := (rfl)
@[simp] theorem ap_sub_int {i j : Int} : ap_sub [.int i, .int j] = some (.int (i - j)) := (rfl)
@[simp] theorem ap_mul_int {i j : Int} : ap_mul [.int i, .int j] = if mulOk i j = true then some (.int (i * j)) else none := (rfl)
@[simp] theorem ap_fdiv_int {i j : Int} : ap_fdiv [.int i, .int j] = if divOk j = true then some (.int (i / j)) else none := (rfl)
@[simp] theorem ap_mod_int {i j : Int} : ap_mod [.int i, .int j] = if 0 < j then some (.int (i % j)) else none := (rfl)
@[simp] theorem ap_pow_int {i j : Int} : ap_pow [.int i, .int j] = if powOk i j = true then some (.int (i ^ j.toNat)) else none := (rfl)
@[simp] theorem ap_neg_int {i : Int} : ap_neg [.int i] = some (.int (-i)) := (rfl)
@[simp] theorem ap_lt_int {i j : Int} : ap_lt [.int i, .int j] = some (.bl (decide (i < j))) := (rfl)
@[simp] theorem ap_le_int {i j : Int} : ap_le [.int i, .int j] = some (.bl (decide (i ≤ j))) := (rfl)
@[simp] theorem ap_gt_int {i j : Int} : ap_gt [.int i, .int j] = some (.bl (decide (j < i))) := (rfl)
@[simp] theorem ap_ge_int {i j : Int} : ap_ge [.int i, .int j] = some (.bl (decide (j ≤ i))) := (rfl)
@[simp] theorem ap_max2_int {i j : Int} : ap_max2 [.int i, .int j] = some (.int (max i j)) := (rfl)
@[simp] theorem ap_min2_int {i j : Int} : ap_min2 [.int i, .int j] = some (.int (min i j)) := (rfl)
@[simp] theorem ap_not_int {b : Bool} : ap_not [.bl b] = some (.bl (!b)) := (rfl)
@[simp] theorem add_lst_r {w u : W} {xs ys : List D} : ap_add [.lst w xs, .lst u ys] = if (decide (w ≠ .scr) && decide (u ≠ .scr) && lenOk (xs.length + ys.length)) = true then some (.lst .own (xs ++ ys)) else none := (rfl)
@[simp] theorem mul_lst_r {w : W} {xs : List D} {k : Int} : ap_mul [.lst w xs, .int k] = if (decide (w ≠ .scr) && decide (-(2 ^ 62) ≤ k) && lenOk (xs.length * k.toNat) && decide (k < 2 ^ 62)) = true then some (.lst .own (repD k.toNat xs)) else none := (rfl)
@[simp] theorem len_lst_r {w : W} {xs : List D} : ap_len [.lst w xs] = some (.int xs.length) := (rfl)
@[simp] theorem len_tup_r {xs : List D} : ap_len [.tup xs] = some (.int xs.length) := (rfl)
@[simp] theorem list_lst_r {w : W} {xs : List D} : ap_list [.lst w xs] = some (.lst .own xs) := (rfl)
@[simp] theorem list_tup_r {xs : List D} : ap_list [.tup xs] = some (.lst .own xs) := (rfl)
@[simp] theorem tuple_lst_r {w : W} {xs : List D} : ap_tuple [.lst w xs] = some (.tup xs) := (rfl)
@[simp] theorem tuple_tup_r {xs : List D} : ap_tuple [.tup xs] = some (.tup xs) := (rfl)
@[simp] theorem dict_dct_r {w : W} {k : List (Key × D)} : ap_dict [.dct w k] = if lenOk k.length = true then some (.dct .own k) else none := (rfl)
@[simp] theorem slA_lst_r {w : W} {xs : List D} : ap_slA [.lst w xs] = some (.lst .own xs) := (rfl)
@[simp] theorem slE_lst_r {w : W} {xs : List D} {i : Int} : ap_slE [.lst w xs, .int i] = some (.lst .own (cutD xs (some i) none)) := (rfl)
@[simp] theorem sl0_lst_r {w : W} {xs : List D} {i : Int} : ap_sl0 [.lst w xs, .int i] = some (.lst .own (cutD xs none (some i))) := (rfl)
@[simp] theorem sl_lst_r {w : W} {xs : List D} {i j : Int} : ap_sl [.lst w xs, .int i, .int j] = some (.lst .own (cutD xs (some i) (some j))) := (rfl)
@[simp] theorem idx_lst_r {w : W} {xs : List D} {i : Int} : ap_idx [.lst w xs, .int i] = atI xs i := (rfl)
@[simp] theorem idx_tup_r {xs : List D} {i : Int} : ap_idx [.tup xs, .int i] = atI xs i := (rfl)
@[simp] theorem idx_dcti_r {w : W} {k : List (Key × D)} {i : Int} : ap_idx [.dct w k, .int i] = dget k (.inl i) := (rfl)
@[simp] theorem idx_dcts_r {w : W} {k : List (Key × D)} {x : Str} : ap_idx [.dct w k, .str x] = dget k (.inr x) := (rfl)
@[simp] theorem get_dcti_r {w : W} {k : List (Key × D)} {i : Int} {z : D} : ap_get [.dct w k, .int i, z] = if isOwn z = true then none else some ((dget k (.inl i)).getD z) := (rfl)
@[simp] theorem getL_dcti_r {w : W} {k : List (Key × D)} {i : Int} : ap_getL [.dct w k, .int i] = some ((dget k (.inl i)).getD (.lst .fz [])) := (rfl)
@[simp] theorem inn_dcti_r {w : W} {k : List (Key × D)} {i : Int} : ap_inn [.int i, .dct w k] = some (.bl (dget k (.inl i)).isSome) := (rfl)
@[simp] theorem nin_dcti_r {w : W} {k : List (Key × D)} {i : Int} : ap_nin [.int i, .dct w k] = some (.bl (!(dget k (.inl i)).isSome)) := (rfl)
@[simp] theorem inn_dlsi_r {k : List (Key × List D)} {i : Int} : ap_inn [.int i, .dls k] = some (.bl (lget (.inl i) k).isSome) := (rfl)
@[simp] theorem nin_dlsi_r {k : List (Key × List D)} {i : Int} : ap_nin [.int i, .dls k] = some (.bl (!(lget (.inl i) k).isSome)) := (rfl)
@[simp] theorem eq_int_r {i j : Int} : ap_eq [.int i, .int j] = some (.bl (decide (i = j))) := (rfl)
@[simp] theorem ne_int_r {i j : Int} : ap_ne [.int i, .int j] = some (.bl (!decide (i = j))) := (rfl)
@[simp] theorem eq_str_r {i j : Str} : ap_eq [.str i, .str j] = some (.bl (decide (i = j))) := (rfl)
@[simp] theorem ne_str_r {i j : Str} : ap_ne [.str i, .str j] = some (.bl (!decide (i = j))) := (rfl)
@[simp] theorem eq_bl_r {i j : Bool} : ap_eq [.bl i, .bl j] = some (.bl (decide (i = j))) := (rfl)
@[simp] theorem ne_bl_r {i j : Bool} : ap_ne [.bl i, .bl j] = some (.bl (!decide (i = j))) := (rfl)
@[simp] theorem isN_non_r  : ap_isN [.non] = some (.bl true) := (rfl)
@[simp] theorem notN_non_r  : ap_notN [.non] = some (.bl false) := (rfl)
@[simp] theorem isN_bl_r {b : Bool} : ap_isN [.bl b] = some (.bl false) := (rfl)
@[simp] theorem notN_bl_r {b : Bool} : ap_notN [.bl b] = some (.bl true) := (rfl)
@[simp] theorem isN_int_r {i : Int} : ap_isN [.int i] = some (.bl false) := (rfl)
@[simp] theorem notN_int_r {i : Int} : ap_notN [.int i] = some (.bl true) := (rfl)
@[simp] theorem isN_str_r {x : Str} : ap_isN [.str x] = some (.bl false) := (rfl)
@[simp] theorem notN_str_r {x : Str} : ap_notN [.str x] = some (.bl true) := (rfl)
@[simp] theorem isN_lfz_r {xs : List D} : ap_isN [.lst .fz xs] = some (.bl false) := (rfl)
@[simp] theorem notN_lfz_r {xs : List D} : ap_notN [.lst .fz xs] = some (.bl true) := (rfl)
@[simp] theorem isN_low_r {xs : List D} : ap_isN [.lst .own xs] = some (.bl false) := (rfl)
@[simp] theorem notN_low_r {xs : List D} : ap_notN [.lst .own xs] = some (.bl true) := (rfl)
@[simp] theorem isN_lsc_r {xs : List D} : ap_isN [.lst .scr xs] = some (.bl false) := (rfl)
@[simp] theorem notN_lsc_r {xs : List D} : ap_notN [.lst .scr xs] = some (.bl true) := (rfl)
@[simp] theorem isN_tup_r {xs : List D} : ap_isN [.tup xs] = some (.bl false) := (rfl)
@[simp] theorem notN_tup_r {xs : List D} : ap_notN [.tup xs] = some (.bl true) := (rfl)
@[simp] theorem isN_dfz_r {k : List (Key × D)} : ap_isN [.dct .fz k] = some (.bl false) := (rfl)
@[simp] theorem notN_dfz_r {k : List (Key × D)} : ap_notN [.dct .fz k] = some (.bl true) := (rfl)
@[simp] theorem isN_dow_r {k : List (Key × D)} : ap_isN [.dct .own k] = some (.bl false) := (rfl)
@[simp] theorem notN_dow_r {k : List (Key × D)} : ap_notN [.dct .own k] = some (.bl true) := (rfl)
@[simp] theorem isN_tfz_r {k : List (List Key × D)} : ap_isN [.dtt .fz k] = some (.bl false) := (rfl)
@[simp] theorem notN_tfz_r {k : List (List Key × D)} : ap_notN [.dtt .fz k] = some (.bl true) := (rfl)
@[simp] theorem isN_tow_r {k : List (List Key × D)} : ap_isN [.dtt .own k] = some (.bl false) := (rfl)
@[simp] theorem notN_tow_r {k : List (List Key × D)} : ap_notN [.dtt .own k] = some (.bl true) := (rfl)
@[simp] theorem isN_ofz_r {c : Nat} {fs : List (Nat × D)} : ap_isN [.obj .fz c fs] = some (.bl false) := (rfl)
@[simp] theorem notN_ofz_r {c : Nat} {fs : List (Nat × D)} : ap_notN [.obj .fz c fs] = some (.bl true) := (rfl)
@[simp] theorem isN_oow_r {c : Nat} {fs : List (Nat × D)} : ap_isN [.obj .own c fs] = some (.bl false) := (rfl)
@[simp] theorem notN_oow_r {c : Nat} {fs : List (Nat × D)} : ap_notN [.obj .own c fs] = some (.bl true) := (rfl)
@[simp] theorem isI_non_r  : ap_isI [.non] = some (.bl false) := (rfl)
@[simp] theorem isI_bl_r {b : Bool} : ap_isI [.bl b] = some (.bl true) := (rfl)
@[simp] theorem isI_int_r {i : Int} : ap_isI [.int i] = some (.bl true) := (rfl)
@[simp] theorem isI_str_r {x : Str} : ap_isI [.str x] = some (.bl false) := (rfl)
@[simp] theorem isI_lfz_r {xs : List D} : ap_isI [.lst .fz xs] = some (.bl false) := (rfl)
@[simp] theorem isI_low_r {xs : List D} : ap_isI [.lst .own xs] = some (.bl false) := (rfl)
@[simp] theorem isI_lsc_r {xs : List D} : ap_isI [.lst .scr xs] = some (.bl false) := (rfl)
@[simp] theorem isI_tup_r {xs : List D} : ap_isI [.tup xs] = some (.bl false) := (rfl)
@[simp] theorem isI_dfz_r {k : List (Key × D)} : ap_isI [.dct .fz k] = some (.bl false) := (rfl)
@[simp] theorem isI_dow_r {k : List (Key × D)} : ap_isI [.dct .own k] = some (.bl false) := (rfl)
@[simp] theorem isB_non_r  : ap_isB [.non] = some (.bl false) := (rfl)
@[simp] theorem isB_bl_r {b : Bool} : ap_isB [.bl b] = some (.bl true) := (rfl)
@[simp] theorem isB_int_r {i : Int} : ap_isB [.int i] = some (.bl false) := (rfl)
@[simp] theorem isB_str_r {x : Str} : ap_isB [.str x] = some (.bl false) := (rfl)
@[simp] theorem isB_lfz_r {xs : List D} : ap_isB [.lst .fz xs] = some (.bl false) := (rfl)
@[simp] theorem isB_low_r {xs : List D} : ap_isB [.lst .own xs] = some (.bl false) := (rfl)
@[simp] theorem isB_lsc_r {xs : List D} : ap_isB [.lst .scr xs] = some (.bl false) := (rfl)
@[simp] theorem isB_tup_r {xs : List D} : ap_isB [.tup xs] = some (.bl false) := (rfl)
@[simp] theorem isB_dfz_r {k : List (Key × D)} : ap_isB [.dct .fz k] = some (.bl false) := (rfl)
@[simp] theorem isB_dow_r {k : List (Key × D)} : ap_isB [.dct .own k] = some (.bl false) := (rfl)
@[simp] theorem isL_non_r  : ap_isL [.non] = some (.bl false) := (rfl)
@[simp] theorem isL_bl_r {b : Bool} : ap_isL [.bl b] = some (.bl false) := (rfl)
@[simp] theorem isL_int_r {i : Int} : ap_isL [.int i] = some (.bl false) := (rfl)
@[simp] theorem isL_str_r {x : Str} : ap_isL [.str x] = some (.bl false) := (rfl)
@[simp] theorem isL_lfz_r {xs : List D} : ap_isL [.lst .fz xs] = some (.bl true) := (rfl)
@[simp] theorem isL_low_r {xs : List D} : ap_isL [.lst .own xs] = some (.bl true) := (rfl)
@[simp] theorem isL_lsc_r {xs : List D} : ap_isL [.lst .scr xs] = some (.bl true) := (rfl)
@[simp] theorem isL_tup_r {xs : List D} : ap_isL [.tup xs] = some (.bl false) := (rfl)
@[simp] theorem isL_dfz_r {k : List (Key × D)} : ap_isL [.dct .fz k] = some (.bl false) := (rfl)
@[simp] theorem isL_dow_r {k : List (Key × D)} : ap_isL [.dct .own k] = some (.bl false) := (rfl)
@[simp] theorem isT_non_r  : ap_isT [.non] = some (.bl false) := (rfl)
@[simp] theorem isT_bl_r {b : Bool} : ap_isT [.bl b] = some (.bl false) := (rfl)
@[simp] theorem isT_int_r {i : Int} : ap_isT [.int i] = some (.bl false) := (rfl)
@[simp] theorem isT_str_r {x : Str} : ap_isT [.str x] = some (.bl false) := (rfl)
@[simp] theorem isT_lfz_r {xs : List D} : ap_isT [.lst .fz xs] = some (.bl false) := (rfl)
@[simp] theorem isT_low_r {xs : List D} : ap_isT [.lst .own xs] = some (.bl false) := (rfl)
@[simp] theorem isT_lsc_r {xs : List D} : ap_isT [.lst .scr xs] = some (.bl false) := (rfl)
@[simp] theorem isT_tup_r {xs : List D} : ap_isT [.tup xs] = some (.bl true) := (rfl)
@[simp] theorem isT_dfz_r {k : List (Key × D)} : ap_isT [.dct .fz k] = some (.bl false) := (rfl)
@[simp] theorem isT_dow_r {k : List (Key × D)} : ap_isT [.dct .own k] = some (.bl false) := (rfl)
@[simp] theorem isD_non_r  : ap_isD [.non] = some (.bl false) := (rfl)
@[simp] theorem isD_bl_r {b : Bool} : ap_isD [.bl b] = some (.bl false) := (rfl)
@[simp] theorem isD_int_r {i : Int} : ap_isD [.int i] = some (.bl false) := (rfl)
@[simp] theorem isD_str_r {x : Str} : ap_isD [.str x] = some (.bl false) := (rfl)
@[simp] theorem isD_lfz_r {xs : List D} : ap_isD [.lst .fz xs] = some (.bl false) := (rfl)
@[simp] theorem isD_low_r {xs : List D} : ap_isD [.lst .own xs] = some (.bl false) := (rfl)
@[simp] theorem isD_lsc_r {xs : List D} : ap_isD [.lst .scr xs] = some (.bl false) := (rfl)
@[simp] theorem isD_tup_r {xs : List D} : ap_isD [.tup xs] = some (.bl false) := (rfl)
@[simp] theorem isD_dfz_r {k : List (Key × D)} : ap_isD [.dct .fz k] = some (.bl true) := (rfl)
@[simp] theorem isD_dow_r {k : List (Key × D)} : ap_isD [.dct .own k] = some (.bl true) := (rfl)
@[simp] theorem isS_non_r  : ap_isS [.non] = some (.bl false) := (rfl)
@[simp] theorem isS_bl_r {b : Bool} : ap_isS [.bl b] = some (.bl false) := (rfl)
@[simp] theorem isS_int_r {i : Int} : ap_isS [.int i] = some (.bl false) := (rfl)
@[simp] theorem isS_str_r {x : Str} : ap_isS [.str x] = some (.bl true) := (rfl)
@[simp] theorem isS_lfz_r {xs : List D} : ap_isS [.lst .fz xs] = some (.bl false) := (rfl)
@[simp] theorem isS_low_r {xs : List D} : ap_isS [.lst .own xs] = some (.bl false) := (rfl)
@[simp] theorem isS_lsc_r {xs : List D} : ap_isS [.lst .scr xs] = some (.bl false) := (rfl)
@[simp] theorem isS_tup_r {xs : List D} : ap_isS [.tup xs] = some (.bl false) := (rfl)
@[simp] theorem isS_dfz_r {k : List (Key × D)} : ap_isS [.dct .fz k] = some (.bl false) := (rfl)
@[simp] theorem isS_dow_r {k : List (Key × D)} : ap_isS [.dct .own k] = some (.bl false) := (rfl)
@[simp] theorem push_own {xs : List D} {d : D} : pushD (.lst .own xs) d = if lenOk xs.length = true then some (.lst .own (xs ++ [d])) else none := (rfl)
@[simp] theorem put_lst {xs : List D} {n : Int} {d : D} : putAt (.lst .own xs) (.int n) d = match ixN xs.length n with | some j => some (.lst .own (xs.set j d)) | none => none := (rfl)
@[simp] theorem put_dcti {k : List (Key × D)} {n : Int} {d : D} : putAt (.dct .own k) (.int n) d = if lenOk k.length = true then some (.dct .own (dput k (.inl n) d)) else none := (rfl)
@[simp] theorem own_lst {xs : List D} {n : Int} : ownAt (.lst .own xs) (.int n) = atI xs n := (rfl)
@[simp] theorem own_dcti {k : List (Key × D)} {n : Int} : ownAt (.dct .own k) (.int n) = dget k (.inl n) := (rfl)
@[simp] theorem putL_i {k : List (Key × List D)} {n : Int} : putL (.dls k) (.int n) = if (lenOk k.length && (lget (.inl n) k).isNone) = true then some (.dls (k ++ [(.inl n, [])])) else none := (rfl)
@[simp] theorem growL_i {k : List (Key × List D)} {n : Int} {d : D} : growL (.dls k) (.int n) d = match lget (.inl n) k with | some xs => if lenOk xs.length = true then some (.dls (lset (.inl n) (xs ++ [d]) k)) else none | none => none := (rfl)
@[simp] theorem items_fz {xs : List D} {e : IE} : items2 e (.lst .fz xs) = some xs := (rfl)
@[simp] theorem items_scr {xs : List D} {e : IE} : items2 e (.lst .scr xs) = some xs := (rfl)
@[simp] theorem items_tup {xs : List D} {e : IE} : items2 e (.tup xs) = some xs := (rfl)
@[simp] theorem items_dctv {k : List (Key × D)} {i : Nat} : items2 (.var i) (.dct .fz k) = some (k.map fun p => keyD p.1) := (rfl)
@[simp] theorem items_dctf {k : List (Key × D)} {c i f : Nat} : items2 (.fld c (.var i) f) (.dct .fz k) = some (k.map fun p => keyD p.1) := (rfl)
@[simp] theorem items_str {z : Str} {e : IE} : items2 e (.str z) = some (z.cps.toList.map fun c => .str ⟨#[c]⟩) := (rfl)
@[simp] theorem itemsR_fz {xs : List D} : itemsR (.lst .fz xs) = some xs.reverse := (rfl)
@[simp] theorem storeU_tup {is : List Nat} {ds ρ : List D} : storeU is (.tup ds) ρ = storeT is ds ρ := (rfl)
@[simp] theorem storeU_lst {is : List Nat} {ds ρ : List D} : storeU is (.lst .fz ds) ρ = storeT is ds ρ := (rfl)
@[simp] theorem storeT_nil {ρ : List D} : storeT [] [] ρ = some ρ := (rfl)
@[simp] theorem storeT_cons {i : Nat} {is : List Nat} {d : D} {ds ρ : List D} : storeT (i :: is) (d :: ds) ρ = storeT is ds (ρ.set i d) := (rfl)
@[simp] theorem store1_one {i : Nat} {d : D} {ρ : List D} : store1 (.one i) d ρ = some (ρ.set i d) := (rfl)
@[simp] theorem store1_tup {is : List Nat} {ds ρ : List D} : store1 (.tup is) (.tup ds) ρ = storeT is ds ρ := (rfl)
@[simp] theorem slots_one {i : Nat} : slotsOf (.one i) = [i] := (rfl)
@[simp] theorem slots_tup {is : List Nat} : slotsOf (.tup is) = is := (rfl)
@[simp] theorem plain_nil {ρ : List D} : plainSlots [] ρ = true := (rfl)
@[simp] theorem plain_cons {i : Nat} {is : List Nat} {ρ : List D} : plainSlots (i :: is) ρ = ((match ρ[i]? with | some d => !isOwn d | none => false) && plainSlots is ρ) := (rfl)
@[simp] theorem wipe_nil {ρ : List D} : wipeD ρ [] = ρ := (rfl)
@[simp] theorem wipe_cons {i : Nat} {is : List Nat} {ρ : List D} : wipeD ρ (i :: is) = (wipeD ρ is).set i .und := (rfl)
@[simp] theorem back_nil {a ρ : List D} : backD a ρ [] = ρ := (rfl)
@[simp] theorem back_cons {i : Nat} {is : List Nat} {a ρ : List D} : backD a ρ (i :: is) = (backD a ρ is).set i (a.getD i .und) := (rfl)
@[simp] theorem pick_nil {ρ : List D} : pick [] ρ = [] := (rfl)
@[simp] theorem pick_cons {i : Nat} {is : List Nat} {ρ : List D} : pick (i :: is) ρ = ρ.getD i .und :: pick is ρ := (rfl)
@[simp] theorem settle_eq {r : D} {es : List IE} {ρ : List D} : settle r es ρ = if safe r = true then ρ else give es ρ := (rfl)
@[simp] theorem safe_non  : safe (.non) = true := (rfl)
@[simp] theorem safe1_non  : safe1 (.non) = true := (rfl)
@[simp] theorem safe_bl {b : Bool} : safe (.bl b) = true := (rfl)
@[simp] theorem safe1_bl {b : Bool} : safe1 (.bl b) = true := (rfl)
@[simp] theorem safe_int {i : Int} : safe (.int i) = true := (rfl)
@[simp] theorem safe1_int {i : Int} : safe1 (.int i) = true := (rfl)
@[simp] theorem safe_str {x : Str} : safe (.str x) = true := (rfl)
@[simp] theorem safe1_str {x : Str} : safe1 (.str x) = true := (rfl)
@[simp] theorem safe_tup {xs : List D} : safe (.tup xs) = safe1.safes xs := (rfl)
@[simp] theorem safe1_tup {xs : List D} : safe1 (.tup xs) = safe1.safes xs := (rfl)
@[simp] theorem safes_nil : safe1.safes [] = true := (rfl)
@[simp] theorem safes_cons {d : D} {r : List D} : safe1.safes (d :: r) = (safe1 d && safe1.safes r) := (rfl)
@[simp] theorem safe_low {xs : List D} : safe (.lst .own xs) = xs.all safe1 := (rfl)
@[simp] theorem safe_dow {k : List (Key × D)} : safe (.dct .own k) = k.all fun p => safe1 p.2 := (rfl)
@[simp] theorem safe_lfz {xs : List D} : safe (.lst .fz xs) = false := (rfl)
@[simp] theorem safe_dfz {k : List (Key × D)} : safe (.dct .fz k) = false := (rfl)
@[simp] theorem safe_ofz {c : Nat} {fs : List (Nat × D)} : safe (.obj .fz c fs) = false := (rfl)
@[simp] theorem safe_oow {c : Nat} {fs : List (Nat × D)} : safe (.obj .own c fs) = false := (rfl)
@[simp] theorem fldK_obj {c c2 f : Nat} {b : Bool} {w : W} {fs : List (Nat × D)} : fldK c f b (.obj w c2 fs) = if c2 = c ∧ (b = true → w = .fz) then (match fs.lookup f with | some d => if (isOwn d || isLck d) = true then none else some d | none => none) else none := (rfl)
end TL

namespace TL
open PySem PySem.Spec PyProof.Rows L2

/-! ### loops -/
def loopK (x : Out) (k : List D → Out) : Kt k Out := match x with
  | .nx ρ => k ρ
  | .ct ρ => k ρ
  | .bk ρ => .nx ρ
  | o => o
section
variable {ρ : List D} {d : D} {c : Nat} {k : List D → Out} {g : Tg} {f : List D → Out} {x : D} {xs : List D} {n : Nat} {t : List D → ER}
@[simp] theorem loopK_nx : loopK (.nx ρ) k = k ρ := rfl
@[simp] theorem loopK_ct : loopK (.ct ρ) k = k ρ := rfl
@[simp] theorem loopK_bk : loopK (.bk ρ) k = .nx ρ := rfl
@[simp] theorem loopK_rt : loopK (.rt ρ d) k = .rt ρ d := rfl
@[simp] theorem loopK_exn : loopK (.exn c ρ) k = .exn c ρ := rfl
@[simp] theorem loopK_stuck : loopK .stuck k = .stuck := rfl
@[simp] theorem loopK_ite {p : Prop} [Decidable p] {a b : Out} : loopK (if p then a else b) k = if p then loopK a k else loopK b k := by split <;> rfl
theorem forL_nil : forL g f [] ρ = .nx ρ := rfl
theorem forL_cons : forL g f (x :: xs) ρ = optO (store1 g x ρ) fun ρ1 => loopK (f ρ1) (forL g f xs) := by
  rw [forL]
  cases h : store1 g x ρ with
  | none => simp only [h]; rfl
  | some ρ1 =>
    simp only [h, optO_some]
    cases f ρ1 <;> rfl
theorem whileL_succ : whileL t f (n + 1) ρ = (t ρ).bO fun ρ1 d => d.tO (loopK (f ρ1) (whileL t f n)) (.nx ρ1) := by
  rw [whileL]
  cases h : t ρ with
  | ok ρ1 d =>
    simp only [h, bO_ok]
    cases d with
    | bl b =>
      cases b with
      | true => simp only [tO_bl, if_true]; cases f ρ1 <;> rfl
      | false => rfl
    | _ => rfl
  | exn c ρ1 => simp only [h]; rfl
  | stuck => simp only [h]; rfl
theorem forL_tab (σ : Nat → List D) (step : ∀ i (h : i < xs.length), ∃ ρ1, store1 g xs[i] (σ i) = some ρ1 ∧ (f ρ1 = .nx (σ (i + 1)) ∨ f ρ1 = .ct (σ (i + 1)))) : forL g f xs (σ 0) = .nx (σ xs.length) := by
  induction xs generalizing σ with
  | nil => rfl
  | cons x xs ih =>
    obtain ⟨ρ1, h1, h2⟩ := step 0 (Nat.succ_pos _)
    rw [forL_cons]
    have h1' : store1 g x (σ 0) = some ρ1 := h1
    rw [h1', optO_some]
    have h3 : loopK (f ρ1) (forL g f xs) = forL g f xs (σ 1) := by rcases h2 with h2 | h2 <;> rw [h2] <;> rfl
    rw [h3]
    exact ih (fun i => σ (i + 1)) fun i h => step (i + 1) (Nat.succ_lt_succ h)
theorem forL_inv (P : Nat → List D → Prop) (step : ∀ i (h : i < xs.length) ρ, P i ρ → ∃ ρ1 ρ2, store1 g xs[i] ρ = some ρ1 ∧ (f ρ1 = .nx ρ2 ∨ f ρ1 = .ct ρ2) ∧ P (i + 1) ρ2) (h0 : P 0 ρ) : ∃ ρ', forL g f xs ρ = .nx ρ' ∧ P xs.length ρ' := by
  induction xs generalizing P ρ with
  | nil => exact ⟨ρ, rfl, h0⟩
  | cons x xs ih =>
    obtain ⟨ρ1, ρ2, h1, h2, h3⟩ := step 0 (Nat.succ_pos _) ρ h0
    rw [forL_cons]
    have h1' : store1 g x ρ = some ρ1 := h1
    rw [h1', optO_some]
    have h4 : loopK (f ρ1) (forL g f xs) = forL g f xs ρ2 := by rcases h2 with h2 | h2 <;> rw [h2] <;> rfl
    rw [h4]
    exact ih (fun i => P (i + 1)) (fun i h ρ hp => step (i + 1) (Nat.succ_lt_succ h) ρ hp) h3
/-- .. left at a turn -/
theorem forL_out (P : Nat → List D → Prop) {m : Nat} (hm : m < xs.length) (step : ∀ i (h : i < xs.length) ρ, i < m → P i ρ → ∃ ρ1 ρ2, store1 g xs[i] ρ = some ρ1 ∧ (f ρ1 = .nx ρ2 ∨ f ρ1 = .ct ρ2) ∧ P (i + 1) ρ2) (h0 : P 0 ρ)
    {R : Out → Prop} (last : ∀ ρ, P m ρ → ∃ ρ1, store1 g xs[m] ρ = some ρ1 ∧ ((∃ ρ2 d, f ρ1 = .rt ρ2 d ∧ R (.rt ρ2 d)) ∨ (∃ c ρ2, f ρ1 = .exn c ρ2 ∧ R (.exn c ρ2)) ∨ ∃ ρ2, f ρ1 = .bk ρ2 ∧ R (.nx ρ2))) : R (forL g f xs ρ) := by
  induction xs generalizing P ρ m with
  | nil => exact absurd hm (Nat.not_lt_zero _)
  | cons x xs ih =>
    rw [forL_cons]
    cases m with
    | zero =>
      obtain ⟨ρ1, h1, h2⟩ := last ρ h0
      have h1' : store1 g x ρ = some ρ1 := h1
      rw [h1', optO_some]
      rcases h2 with ⟨ρ2, d, h2, r⟩ | ⟨c, ρ2, h2, r⟩ | ⟨ρ2, h2, r⟩ <;> rw [h2] <;> exact r
    | succ m =>
      obtain ⟨ρ1, ρ2, h1, h2, h3⟩ := step 0 (Nat.succ_pos _) ρ (Nat.succ_pos _) h0
      have h1' : store1 g x ρ = some ρ1 := h1
      rw [h1', optO_some]
      have h4 : loopK (f ρ1) (forL g f xs) = forL g f xs ρ2 := by rcases h2 with h2 | h2 <;> rw [h2] <;> rfl
      rw [h4]
      exact ih (fun i => P (i + 1)) (Nat.lt_of_succ_lt_succ hm) (fun i h ρ hi hp => step (i + 1) (Nat.succ_lt_succ h) ρ (Nat.succ_lt_succ hi) hp) h3 last
end
section
variable {T : Tbl} {C : List Nat} {g : Tg} {b : List IS} {xs ρ : List D} {t : IE} {n : Nat}
theorem fl_nil : fl T C g b [] ρ = .nx ρ := rfl
theorem fl_cons {x : D} : fl T C g b (x :: xs) ρ = optO (store1 g x ρ) fun ρ1 => loopK (execs T C b ρ1) (fl T C g b xs) := forL_cons
theorem wl_succ : wl T C t b (n + 1) ρ = (evE T t ρ).bO fun ρ1 d => d.tO (loopK (execs T C b ρ1) (wl T C t b n)) (.nx ρ1) := whileL_succ
theorem fl_tab (σ : Nat → List D) (step : ∀ i (h : i < xs.length), ∃ ρ1, store1 g xs[i] (σ i) = some ρ1 ∧ (execs T C b ρ1 = .nx (σ (i + 1)) ∨ execs T C b ρ1 = .ct (σ (i + 1)))) : fl T C g b xs (σ 0) = .nx (σ xs.length) := forL_tab σ step
theorem fl_inv (P : Nat → List D → Prop) (step : ∀ i (h : i < xs.length) ρ, P i ρ → ∃ ρ1 ρ2, store1 g xs[i] ρ = some ρ1 ∧ (execs T C b ρ1 = .nx ρ2 ∨ execs T C b ρ1 = .ct ρ2) ∧ P (i + 1) ρ2) (h0 : P 0 ρ) : ∃ ρ', fl T C g b xs ρ = .nx ρ' ∧ P xs.length ρ' := forL_inv P step h0
theorem fl_out (P : Nat → List D → Prop) {m : Nat} (hm : m < xs.length) (step : ∀ i (h : i < xs.length) ρ, i < m → P i ρ → ∃ ρ1 ρ2, store1 g xs[i] ρ = some ρ1 ∧ (execs T C b ρ1 = .nx ρ2 ∨ execs T C b ρ1 = .ct ρ2) ∧ P (i + 1) ρ2) (h0 : P 0 ρ)
    {R : Out → Prop} (last : ∀ ρ, P m ρ → ∃ ρ1, store1 g xs[m] ρ = some ρ1 ∧ ((∃ ρ2 d, execs T C b ρ1 = .rt ρ2 d ∧ R (.rt ρ2 d)) ∨ (∃ c ρ2, execs T C b ρ1 = .exn c ρ2 ∧ R (.exn c ρ2)) ∨ ∃ ρ2, execs T C b ρ1 = .bk ρ2 ∧ R (.nx ρ2))) : R (fl T C g b xs ρ) := forL_out P hm step h0 last
end
/-! ### comprehensions -/
section
variable {g : Tg} {c f : List D → ER} {xs : List D} {ρw : List D}
theorem compL_cons {x : D} {ρ acc : List D} : compL g c f (x :: xs) ρ acc = match store1 g x (wipeD ρ (slotsOf g)) with
    | none => .stuck
    | some ρ1 => match c ρ1 with
      | .ok ρ2 (.bl true) => match f ρ2 with
        | .ok ρ3 d => if isLck d then .stuck else compL g c f xs ρ3 (acc ++ [frz d])
        | _ => .stuck
      | .ok ρ2 (.bl false) => compL g c f xs ρ2 acc
      | _ => .stuck := by rw [compL] <;> rfl
theorem compL_all (p : D → Bool) (h : D → D) (step : ∀ x ∈ xs, ∃ ρ1, store1 g x ρw = some ρ1 ∧ wipeD ρ1 (slotsOf g) = ρw ∧ c ρ1 = .ok ρ1 (.bl (p x)) ∧ (p x = true → f ρ1 = .ok ρ1 (h x) ∧ isLck (h x) = false)) :
    ∀ ρ acc, wipeD ρ (slotsOf g) = ρw → ∃ ρ', wipeD ρ' (slotsOf g) = ρw ∧ compL g c f xs ρ acc = .ok ρ' (acc ++ (xs.filter p).map fun x => frz (h x)) := by
  induction xs with
  | nil => exact fun ρ acc hw => ⟨ρ, hw, by rw [compL]; simp⟩
  | cons x xs ih =>
    intro ρ acc hw
    obtain ⟨ρ1, h1, h2, h3, h4⟩ := step x List.mem_cons_self
    have ih' := ih fun y m => step y (List.mem_cons_of_mem _ m)
    rw [compL_cons, hw, h1]
    simp only [h3]
    cases hp : p x with
    | true =>
      obtain ⟨h5, h6⟩ := h4 hp
      simp only [h5, h6, Bool.false_eq_true, if_false]
      obtain ⟨ρ', q1, q2⟩ := ih' ρ1 (acc ++ [frz (h x)]) h2
      exact ⟨ρ', q1, by rw [q2, List.filter_cons_of_pos hp, List.map_cons, List.append_assoc]; rfl⟩
    | false =>
      simp only
      obtain ⟨ρ', q1, q2⟩ := ih' ρ1 acc h2
      exact ⟨ρ', q1, by rw [q2, List.filter_cons_of_neg (by rw [hp]; exact Bool.false_ne_true)]⟩
theorem comp_all (p : D → Bool) (h : D → D) {ρ : List D} {is : List Nat} (hs : slotsOf g = is) (step : ∀ x ∈ xs, ∃ ρ1, store1 g x (wipeD ρ is) = some ρ1 ∧ wipeD ρ1 is = wipeD ρ is ∧ c ρ1 = .ok ρ1 (.bl (p x)) ∧ (p x = true → f ρ1 = .ok ρ1 (h x) ∧ isLck (h x) = false)) :
    compK ρ is (compL g c f xs ρ []) = .ok (backD ρ (wipeD ρ is) is) (.lst .own ((xs.filter p).map fun x => frz (h x))) := by
  subst hs
  obtain ⟨ρ', q1, q2⟩ := compL_all p h step ρ [] rfl
  rw [q2, compK_ok, q1, List.nil_append]
theorem comp_map (h : D → D) {ρ : List D} {is : List Nat} (hs : slotsOf g = is) (hc : ∀ ρ, c ρ = .ok ρ (.bl true)) (step : ∀ x ∈ xs, ∃ ρ1, store1 g x (wipeD ρ is) = some ρ1 ∧ wipeD ρ1 is = wipeD ρ is ∧ f ρ1 = .ok ρ1 (h x) ∧ isLck (h x) = false) :
    compK ρ is (compL g c f xs ρ []) = .ok (backD ρ (wipeD ρ is) is) (.lst .own (xs.map fun x => frz (h x))) := by
  have := comp_all (c := c) (f := f) (xs := xs) (fun _ => true) h (ρ := ρ) hs fun x m => by
    obtain ⟨ρ1, h1, h2, h3, h4⟩ := step x m
    exact ⟨ρ1, h1, h2, hc ρ1, fun _ => ⟨h3, h4⟩⟩
  rw [this, List.filter_eq_self.mpr (fun _ _ => rfl)]
theorem cl_all {T : Tbl} {ifs : List IE} {elt : IE} (p : D → Bool) (h : D → D) {ρ : List D} {is : List Nat} (hs : slotsOf g = is) (step : ∀ x ∈ xs, ∃ ρ1, store1 g x (wipeD ρ is) = some ρ1 ∧ wipeD ρ1 is = wipeD ρ is ∧ evC T ifs ρ1 = .ok ρ1 (.bl (p x)) ∧ (p x = true → evE T elt ρ1 = .ok ρ1 (h x) ∧ isLck (h x) = false)) :
    compK ρ is (cl T g ifs elt xs ρ) = .ok (backD ρ (wipeD ρ is) is) (.lst .own ((xs.filter p).map fun x => frz (h x))) := comp_all p h hs step
theorem cl_map {T : Tbl} {elt : IE} (h : D → D) {ρ : List D} {is : List Nat} (hs : slotsOf g = is) (step : ∀ x ∈ xs, ∃ ρ1, store1 g x (wipeD ρ is) = some ρ1 ∧ wipeD ρ1 is = wipeD ρ is ∧ evE T elt ρ1 = .ok ρ1 (h x) ∧ isLck (h x) = false) :
    compK ρ is (cl T g [] elt xs ρ) = .ok (backD ρ (wipeD ρ is) is) (.lst .own (xs.map fun x => frz (h x))) := comp_map h hs (fun _ => rfl) step
end
end TL

namespace TL
open PySem PySem.Spec PyProof.Rows L2
/-- standing: 0 rows 1 where 2 at 3 cloth 4 seam -/
def ir_standing_b1 : List IS := [.ife (.op .nin [(.var 4), (.var 1)]) [.setIxL 1 4] [], .pushIx 1 4 2, .aug 2 (.lit (.int 1))]
def ir_standing_b2 : List IS := [.forE (.one 4) (.var 3) ir_standing_b1]
def ir_standing : Fn := ⟨1, 5, [], [.set 1 .dcL, .set 2 (.lit (.int 0)), .forE (.one 3) (.var 0) ir_standing_b2, .retM 1]⟩
/-- Tent.__init__: 0 self 1 rows 2 where 3 seam 4 cloth -/
def ir_Tent_init_b1 : List IS := [.ife (.or (.op .lt [(.var 3), (.lit (.int 0))]) (.or (.op .gt [(.var 3), (.con 0)]) (.op .gt [(.op .len [(.op .idx [(.var 2), (.var 3)])]), (.lit (.int 2))]))) [.raise 1] []]
def ir_Tent_init_e1 : IE := (.op .tuple [(.var 4)])
def ir_Tent_init : Fn := ⟨2, 5, [0], [.ife (.op .eq [(.op .len [(.var 1)]), (.lit (.int 0))]) [.raise 1] [], .set 2 (.call 0 [(.var 1)]), .forE (.one 3) (.var 2) ir_Tent_init_b1, .setF 0 0 0 (.cSeq ir_Tent_init_e1 (.one 4) (.var 1) []), .setF 0 0 1 (.var 2)]⟩
/-- Tent.seam_at: 0 self 1 place -/
def ir_Tent_seam_at : Fn := ⟨2, 2, [], [.ife (.or (.op .lt [(.var 1), (.lit (.int 0))]) (.op .ge [(.var 1), (.op .mul [(.lit (.int 3)), (.op .len [(.fld 0 (.var 0) 0)])])])) [.raise 2] [], .ret (.op .idx [(.op .idx [(.fld 0 (.var 0) 0), (.op .fdiv [(.var 1), (.lit (.int 3))])]), (.op .mod [(.var 1), (.lit (.int 3))])])]⟩
/-- Tent.mate: 0 self 1 place 2 both -/
def ir_Tent_mate : Fn := ⟨2, 3, [], [.set 2 (.op .idx [(.fld 0 (.var 0) 1), (.meth 21 (.var 0) [(.var 1)])]), .ife (.op .eq [(.op .len [(.var 2)]), (.lit (.int 1))]) [.ret (.lit .non)] [], .ife (.op .eq [(.op .idx [(.var 2), (.lit (.int 0))]), (.var 1)]) [.ret (.op .idx [(.var 2), (.lit (.int 1))])] [], .ret (.op .idx [(.var 2), (.lit (.int 0))])]⟩
/-- Tent.size: 0 self -/
def ir_Tent_size : Fn := ⟨1, 1, [], [.ret (.op .len [(.fld 0 (.var 0) 0)])]⟩
/-- plain: 0 tent 1 word 2 many 3 place 4 at 5 side -/
def ir_plain_b1 : List IS := [.ife (.or (.op .lt [(.var 3), (.lit (.int 0))]) (.op .ge [(.var 3), (.var 2)])) [.ret (.lit (.bl false))] [], .ife (.op .isN [(.meth 22 (.var 0) [(.var 3)])]) [.ret (.lit (.bl false))] []]
def ir_plain_b2 : List IS := [.set 5 (.meth 22 (.var 0) [(.op .idx [(.var 1), (.op .sub [(.var 4), (.lit (.int 1))])])]), .set 3 (.op .idx [(.var 1), (.var 4)]), .ife (.or (.op .ne [(.op .fdiv [(.var 5), (.lit (.int 3))]), (.op .fdiv [(.var 3), (.lit (.int 3))])]) (.op .eq [(.var 5), (.var 3)])) [.ret (.lit (.bl false))] []]
def ir_plain : Fn := ⟨2, 6, [], [.ife (.op .eq [(.op .len [(.var 1)]), (.lit (.int 0))]) [.ret (.lit (.bl false))] [], .set 2 (.op .mul [(.lit (.int 3)), (.meth 23 (.var 0) [])]), .forE (.one 3) (.var 1) ir_plain_b1, .forR 4 [(.op .len [(.var 1)])] ir_plain_b2, .ret (.lit (.bl true))]⟩
/-- look_thread: 0 tent 1 word -/
def ir_look_thread : Fn := ⟨2, 2, [], [.ife (.op .not [(.call 24 [(.var 0), (.var 1)])]) [.raise 7] []]⟩
/-- backward: 0 tent 1 word 2 place -/
def ir_backward_e1 : IE := (.meth 22 (.var 0) [(.var 2)])
def ir_backward : Fn := ⟨2, 3, [], [.expr (.call 28 [(.var 0), (.var 1)]), .ret (.cRev ir_backward_e1 (.one 2) (.var 1) [])]⟩
/-- turned: 0 word 1 by 2 start -/
def ir_turned : Fn := ⟨2, 3, [], [.ife (.op .eq [(.op .len [(.var 0)]), (.lit (.int 0))]) [.ret (.lst [])] [], .set 2 (.op .mod [(.var 1), (.op .len [(.var 0)])]), .ret (.op .add [(.op .list [(.op .slE [(.var 0), (.var 2)])]), (.op .list [(.op .sl0 [(.var 0), (.var 2)])])])]⟩
/-- least_turn: 0 word 1 best 2 by 3 row -/
def ir_least_turn_b1 : List IS := [.set 3 (.call 37 [(.var 0), (.var 2)]), .ife (.op .lt [(.var 3), (.var 1)]) [.set 1 (.var 3)] []]
def ir_least_turn : Fn := ⟨1, 4, [], [.set 1 (.op .list [(.var 0)]), .forR 2 [(.lit (.int 1)), (.op .len [(.var 0)])] ir_least_turn_b1, .retM 1]⟩
/-- least: 0 tent 1 word 2 there 3 back -/
def ir_least : Fn := ⟨2, 4, [], [.set 2 (.call 38 [(.var 1)]), .set 3 (.call 38 [(.call 36 [(.var 0), (.var 1)])]), .ife (.op .lt [(.var 3), (.var 2)]) [.retM 3] [], .retM 2]⟩
/-- _law_cell: 0 script 1 at -/
def ir_law_cell : Fn := ⟨2, 2, [], [.ife (.op .lt [(.var 1), (.op .len [(.var 0)])]) [.ret (.op .idx [(.var 0), (.var 1)])] [], .ife (.op .eq [(.op .len [(.var 0)]), (.lit (.int 0))]) [.ret (.op .add [(.op .mul [(.lit (.int 31)), (.var 1)]), (.lit (.int 7))])] [], .ret (.op .add [(.op .mod [(.op .idx [(.var 0), (.op .mod [(.var 1), (.op .len [(.var 0)])])]), (.lit (.int 1000003))]), (.op .mul [(.lit (.int 101)), (.var 1)])])]⟩
/-- _law_whole: 0 found -/
def ir_law_whole : Fn := ⟨1, 1, [], [.ret (.and (.op .isI [(.var 0)]) (.op .not [(.op .isB [(.var 0)])]))]⟩
/-- _law_list: 0 found 1 due 2 k -/
def ir_law_list_b1 : List IS := [.ife (.or (.op .not [(.call 108 [(.op .idx [(.var 0), (.var 2)])])]) (.op .ne [(.op .idx [(.var 0), (.var 2)]), (.op .idx [(.var 1), (.var 2)])])) [.ret (.lit (.bl false))] []]
def ir_law_list : Fn := ⟨2, 3, [], [.ife (.or (.op .not [(.op .isL [(.var 0)])]) (.op .ne [(.op .len [(.var 0)]), (.op .len [(.var 1)])])) [.ret (.lit (.bl false))] [], .forR 2 [(.op .len [(.var 1)])] ir_law_list_b1, .ret (.lit (.bl true))]⟩
/-- _law_numbers: 0 cell_here 1 many 2 row 3 rest 4 seed -/
def ir_law_numbers_t1 : IE := (.and (.op .gt [(.var 3), (.lit (.int 0))]) (.op .lt [(.op .len [(.var 2)]), (.var 1)]))
def ir_law_numbers_b1 : List IS := [.push 2 (.op .mod [(.var 3), (.lit (.int 1009))]), .set 3 (.op .fdiv [(.var 3), (.lit (.int 1009))])]
def ir_law_numbers_t2 : IE := (.op .lt [(.op .len [(.var 2)]), (.var 1)])
def ir_law_numbers_b2 : List IS := [.set 4 (.op .mod [(.op .add [(.op .add [(.op .mul [(.var 4), (.lit (.int 48271))]), (.lit (.int 12345))]), (.op .len [(.var 2)])]), (.lit (.int 2147483647))]), .push 2 (.op .mod [(.op .fdiv [(.op .mod [(.op .mul [(.var 4), (.lit (.int 69621))]), (.lit (.int 2147483629))]), (.lit (.int 7))]), (.lit (.int 1009))])]
def ir_law_numbers : Fn := ⟨2, 5, [], [.set 2 (.lst []), .set 3 (.op .sub [(.var 0), (.op .pow [(.lit (.int 10)), (.lit (.int 18))])]), .whl 1000000000 ir_law_numbers_t1 ir_law_numbers_b1, .set 4 (.op .mod [(.var 0), (.lit (.int 2147483629))]), .whl 1000000000 ir_law_numbers_t2 ir_law_numbers_b2, .retM 2]⟩
/-- _law_walk: 0 mates 1 nums 2 spots 3 row 4 pick 5 start 6 side 7 ways 8 stop 9 p 10 k -/
def ir_law_walk_i1 : List IE := [(.op .notN [(.op .idx [(.var 0), (.var 9)])])]
def ir_law_walk_e1 : IE := (.var 9)
def ir_law_walk_e2 : IE := (.op .add [(.op .sub [(.var 6), (.op .mod [(.var 6), (.lit (.int 3))])]), (.op .mod [(.op .add [(.op .add [(.var 6), (.lit (.int 1))]), (.var 10)]), (.lit (.int 3))])])
def ir_law_walk_i2 : List IE := [(.op .notN [(.op .idx [(.var 0), (.var 9)])])]
def ir_law_walk_e3 : IE := (.var 9)
def ir_law_walk_b1 : List IS := [.set 6 (.op .idx [(.var 0), (.op .idx [(.var 3), (.op .neg [(.lit (.int 1))])])]), .set 7 (.cRng ir_law_walk_e2 10 [(.lit (.int 2))] []), .set 7 (.cSeq ir_law_walk_e3 (.one 9) (.var 7) ir_law_walk_i2), .ife (.op .eq [(.op .len [(.var 7)]), (.lit (.int 0))]) [.brk] [], .push 3 (.op .idx [(.var 7), (.op .mod [(.var 4), (.op .len [(.var 7)])])])]
def ir_law_walk_b2 : List IS := [.ife (.op .eq [(.op .idx [(.var 3), (.var 5)]), (.op .idx [(.var 3), (.var 8)])]) [.ret (.op .sl [(.var 3), (.var 5), (.var 8)])] []]
def ir_law_walk_b3 : List IS := [.forV 8 [(.op .add [(.var 5), (.lit (.int 1))]), (.op .len [(.var 3)])] ir_law_walk_b2]
def ir_law_walk : Fn := ⟨2, 11, [], [.set 2 (.cRng ir_law_walk_e1 9 [(.op .len [(.var 0)])] ir_law_walk_i1), .ife (.op .eq [(.op .len [(.var 2)]), (.lit (.int 0))]) [.ret (.lst [])] [], .set 3 (.lst [(.op .idx [(.var 2), (.op .mod [(.op .idx [(.var 1), (.lit (.int 0))]), (.op .len [(.var 2)])])])]), .forE (.one 4) (.op .slE [(.var 1), (.lit (.int 1))]) ir_law_walk_b1, .forR 5 [(.op .len [(.var 3)])] ir_law_walk_b3, .ret (.lst [])]⟩
/-- _law_rows: 0 mates 1 start 2 step 3 flat 4 at 5 mate 6 k -/
def ir_law_rows_b1 : List IS := [.set 5 (.op .idx [(.var 0), (.var 4)]), .ife (.and (.op .notN [(.var 5)]) (.op .lt [(.var 5), (.var 4)])) [.push 3 (.op .idx [(.var 3), (.var 5)])] [.push 3 (.op .mod [(.op .add [(.var 1), (.op .mul [(.var 2), (.var 4)])]), (.lit (.int 10000))])]]
def ir_law_rows_e1 : IE := (.tup [(.op .idx [(.var 3), (.op .mul [(.lit (.int 3)), (.var 6)])]), (.op .idx [(.var 3), (.op .add [(.op .mul [(.lit (.int 3)), (.var 6)]), (.lit (.int 1))])]), (.op .idx [(.var 3), (.op .add [(.op .mul [(.lit (.int 3)), (.var 6)]), (.lit (.int 2))])])])
def ir_law_rows : Fn := ⟨3, 7, [], [.set 3 (.lst []), .forR 4 [(.op .len [(.var 0)])] ir_law_rows_b1, .ret (.cRng ir_law_rows_e1 6 [(.op .fdiv [(.op .len [(.var 0)]), (.lit (.int 3))])] [])]⟩
/-- _law_sewn: 0 nums 1 many 2 share 3 mates 4 free 5 at 6 one 7 pick 8 other -/
def ir_law_sewn_t1 : IE := (.op .gt [(.op .len [(.var 4)]), (.lit (.int 1))])
def ir_law_sewn_b1 : List IS := [.set 6 (.pop 4 [(.lit (.int 0))]), .set 7 (.op .idx [(.var 0), (.var 5)]), .set 5 (.op .add [(.var 5), (.lit (.int 1))]), .ife (.op .ge [(.op .mod [(.var 7), (.lit (.int 7))]), (.var 2)]) [.set 8 (.pop 4 [(.op .mod [(.op .fdiv [(.var 7), (.lit (.int 7))]), (.op .len [(.var 4)])])]), .setIx 3 (.var 6) (.var 8), .setIx 3 (.var 8) (.var 6)] []]
def ir_law_sewn : Fn := ⟨3, 9, [], [.set 3 (.op .mul [(.lst [(.lit .non)]), (.op .mul [(.lit (.int 3)), (.var 1)])]), .set 4 (.op .rangeL [(.op .mul [(.lit (.int 3)), (.var 1)])]), .set 5 (.lit (.int 0)), .whl 1000000000 ir_law_sewn_t1 ir_law_sewn_b1, .retM 3]⟩
/-- _law_least: 0 mates 1 word 2 back 3 rows_here 4 p 5 k -/
def ir_law_least_e1 : IE := (.op .idx [(.var 0), (.var 4)])
def ir_law_least_e2 : IE := (.op .add [(.op .slE [(.var 1), (.var 5)]), (.op .sl0 [(.var 1), (.var 5)])])
def ir_law_least_e3 : IE := (.op .add [(.op .slE [(.var 2), (.var 5)]), (.op .sl0 [(.var 2), (.var 5)])])
def ir_law_least : Fn := ⟨2, 6, [], [.set 2 (.cRev ir_law_least_e1 (.one 4) (.var 1) []), .set 3 (.cRng ir_law_least_e2 5 [(.op .len [(.var 1)])] []), .ret (.op .min1 [(.op .add [(.var 3), (.cRng ir_law_least_e3 5 [(.op .len [(.var 2)])] [])])])]⟩
/-- _law_tent: 0 script 1 head 2 many 3 names 4 share 5 mates 6 step -/
def ir_law_tent : Fn := ⟨1, 7, [], [.set 1 (.call 105 [(.var 0), (.lit (.int 0))]), .set 2 (.op .add [(.lit (.int 1)), (.op .mod [(.var 1), (.lit (.int 6))])]), .ife (.op .eq [(.op .mod [(.op .fdiv [(.var 1), (.lit (.int 6))]), (.lit (.int 9))]), (.lit (.int 4))]) [.set 2 (.op .add [(.lit (.int 7)), (.op .mod [(.op .fdiv [(.var 1), (.lit (.int 54))]), (.lit (.int 8))])])] [], .set 3 (.call 105 [(.var 0), (.lit (.int 2))]), .set 4 (.op .idx [(.tup [(.lit (.int 0)), (.lit (.int 0)), (.lit (.int 1)), (.lit (.int 3))]), (.op .mod [(.var 3), (.lit (.int 4))])]), .set 5 (.call 152 [(.call 113 [(.call 105 [(.var 0), (.lit (.int 1))]), (.lit (.int 60))]), (.var 2), (.var 4)]), .set 6 (.op .idx [(.tup [(.lit (.int 1)), (.lit (.int 3)), (.lit (.int 7)), (.lit (.int 9)), (.lit (.int 37)), (.lit (.int 1009)), (.lit (.int 3333)), (.lit (.int 9999))]), (.op .mod [(.op .fdiv [(.var 3), (.lit (.int 4))]), (.lit (.int 8))])]), .ret (.tup [(.var 5), (.call 151 [(.var 5), (.op .mod [(.op .fdiv [(.var 3), (.lit (.int 32))]), (.lit (.int 10000))]), (.var 6)])])]⟩
/-- _law_thread: 0 script 1 at 2 mates 3 cell_here -/
def ir_law_thread : Fn := ⟨3, 4, [], [.set 3 (.call 105 [(.var 0), (.var 1)]), .ret (.call 115 [(.var 2), (.call 113 [(.op .fdiv [(.var 3), (.lit (.int 50))]), (.op .add [(.lit (.int 4)), (.op .mod [(.var 3), (.lit (.int 50))])])])])]⟩
/-- law: 0 script 1 tent_here 2 word 3 pick 4 due 5 by 6 back 7 handed 8 mates 9 rows_here 10 p -/
def ir_law_k16_e1 : IE := (.op .idx [(.var 8), (.var 10)])
def ir_law_k16 : Fn := ⟨1, 11, [], [.setT [8, 9] (.call 206 [(.var 0)]), .set 1 (.make 0 1 [(.op .list [(.var 9)])]), .set 2 (.call 209 [(.var 0), (.lit (.int 3)), (.var 8)]), .ife (.op .eq [(.op .len [(.var 2)]), (.lit (.int 0))]) [.ret (.op .eq [(.meth 23 (.var 1) []), (.op .len [(.var 9)])])] [], .set 3 (.call 105 [(.var 0), (.lit (.int 4))]), .set 2 (.op .mul [(.var 2), (.op .idx [(.tup [(.lit (.int 1)), (.lit (.int 1)), (.lit (.int 1)), (.lit (.int 2)), (.lit (.int 3)), (.lit (.int 1))]), (.op .mod [(.var 3), (.lit (.int 6))])])]), .set 4 (.call 168 [(.var 8), (.var 2)]), .set 5 (.op .mod [(.op .fdiv [(.var 3), (.lit (.int 6))]), (.op .len [(.var 2)])]), .set 6 (.cRev ir_law_k16_e1 (.one 10) (.var 2) []), .set 7 (.op .list [(.var 2)]), .ife (.or (.op .not [(.call 109 [(.call 39 [(.var 1), (.var 7)]), (.var 4)])]) (.or (.op .not [(.call 109 [(.call 39 [(.var 1), (.var 6)]), (.var 4)])]) (.op .ne [(.var 7), (.var 2)]))) [.ret (.lit (.bl false))] [], .ret (.call 109 [(.call 39 [(.var 1), (.op .add [(.op .slE [(.var 2), (.var 5)]), (.op .sl0 [(.var 2), (.var 5)])])]), (.var 4)])]⟩
/-- after: 0 place -/
def ir_after : Fn := ⟨1, 1, [], [.ret (.op .add [(.op .sub [(.var 0), (.op .mod [(.var 0), (.lit (.int 3))])]), (.op .mod [(.op .add [(.var 0), (.lit (.int 1))]), (.lit (.int 3))])])]⟩
/-- before: 0 place -/
def ir_before : Fn := ⟨1, 1, [], [.ret (.op .add [(.op .sub [(.var 0), (.op .mod [(.var 0), (.lit (.int 3))])]), (.op .mod [(.op .add [(.var 0), (.lit (.int 2))]), (.lit (.int 3))])])]⟩
/-- _law_free: 0 mates 1 row 2 p -/
def ir_law_free_i1 : List IE := [(.and (.op .notN [(.op .idx [(.var 0), (.var 2)])]) (.op .lt [(.var 2), (.op .idx [(.var 0), (.var 2)])]))]
def ir_law_free_e1 : IE := (.var 2)
def ir_law_free_i2 : List IE := [(.op .ne [(.op .fdiv [(.var 2), (.lit (.int 3))]), (.op .fdiv [(.op .idx [(.var 0), (.var 2)]), (.lit (.int 3))])])]
def ir_law_free_e2 : IE := (.var 2)
def ir_law_free : Fn := ⟨1, 3, [], [.set 1 (.cRng ir_law_free_e1 2 [(.op .len [(.var 0)])] ir_law_free_i1), .ret (.cSeq ir_law_free_e2 (.one 2) (.var 1) ir_law_free_i2)]⟩
/-- _law_seam: 0 rows_here 1 place -/
def ir_law_seam : Fn := ⟨2, 2, [], [.ret (.op .idx [(.op .idx [(.var 0), (.op .fdiv [(.var 1), (.lit (.int 3))])]), (.op .mod [(.var 1), (.lit (.int 3))])])]⟩
/-- _law_around: 0 mates 1 place 2 row 3 side -/
def ir_law_around_b1 : List IS := [.push 2 (.op .add [(.op .sub [(.var 3), (.op .mod [(.var 3), (.lit (.int 3))])]), (.op .mod [(.op .add [(.var 3), (.lit (.int 1))]), (.lit (.int 3))])]), .push 2 (.op .add [(.op .sub [(.var 3), (.op .mod [(.var 3), (.lit (.int 3))])]), (.op .mod [(.op .add [(.var 3), (.lit (.int 2))]), (.lit (.int 3))])])]
def ir_law_around : Fn := ⟨2, 4, [], [.set 2 (.lst []), .forE (.one 3) (.lst [(.var 1), (.op .idx [(.var 0), (.var 1)])]) ir_law_around_b1, .retM 2]⟩
/-- Tent.places: 0 self 1 seam -/
def ir_Tent_places : Fn := ⟨2, 2, [], [.ife (.op .nin [(.var 1), (.fld 0 (.var 0) 1)]) [.raise 3] [], .ret (.op .list [(.op .idx [(.fld 0 (.var 0) 1), (.var 1)])])]⟩
/-- square: 0 tent 1 seam 2 both 3 one 4 other -/
def ir_square : Fn := ⟨2, 5, [], [.set 2 (.meth 3 (.var 0) [(.var 1)]), .ife (.op .eq [(.op .len [(.var 2)]), (.lit (.int 1))]) [.raise 4] [], .set 3 (.op .idx [(.var 2), (.lit (.int 0))]), .set 4 (.op .idx [(.var 2), (.lit (.int 1))]), .ife (.op .eq [(.op .fdiv [(.var 3), (.lit (.int 3))]), (.op .fdiv [(.var 4), (.lit (.int 3))])]) [.raise 5] [], .ret (.tup [(.call 32 [(.var 3)]), (.call 33 [(.var 3)]), (.call 32 [(.var 4)]), (.call 33 [(.var 4)])])]⟩
/-- _law_way: 0 left -/
def ir_law_way : Fn := ⟨1, 1, [], [.ife (.var 0) [.ret (.lit (.str "left"))] [], .ret (.lit (.str "right"))]⟩
/-- contrary: 0 way -/
def ir_contrary : Fn := ⟨1, 1, [], [.ife (.op .eq [(.var 0), (.lit (.str "left"))]) [.ret (.lit (.str "right"))] [], .ife (.op .eq [(.var 0), (.lit (.str "right"))]) [.ret (.lit (.str "left"))] [], .raise 6]⟩
/-- Tent.rows: 0 self -/
def ir_Tent_rows : Fn := ⟨1, 1, [], [.ret (.op .list [(.fld 0 (.var 0) 0)])]⟩
/-- shifts: 0 tent 1 seam 2 way 3 a 4 b 5 c 6 d -/
def ir_shifts : Fn := ⟨3, 7, [], [.ife (.and (.op .ne [(.var 2), (.lit (.str "left"))]) (.op .ne [(.var 2), (.lit (.str "right"))])) [.raise 6] [], .setT [3, 4, 5, 6] (.call 49 [(.var 0), (.var 1)]), .ife (.op .eq [(.var 2), (.lit (.str "left"))]) [.ret (.dct [(.var 3), (.var 6), (.var 6), (.var 5), (.var 5), (.var 4), (.var 4), (.var 3)])] [], .ret (.dct [(.var 3), (.var 4), (.var 4), (.var 5), (.var 5), (.var 6), (.var 6), (.var 3)])]⟩
/-- exchanged: 0 tent 1 seam 2 way 3 steps 4 many 5 flat 6 fresh 7 place 8 rows 9 at -/
def ir_exchanged_e1 : IE := (.meth 21 (.var 0) [(.var 7)])
def ir_exchanged_b1 : List IS := [.setIx 6 (.op .get [(.var 3), (.var 7), (.var 7)]) (.op .idx [(.var 5), (.var 7)])]
def ir_exchanged_b2 : List IS := [.push 8 (.tup [(.op .idx [(.var 6), (.op .mul [(.lit (.int 3)), (.var 9)])]), (.op .idx [(.var 6), (.op .add [(.op .mul [(.lit (.int 3)), (.var 9)]), (.lit (.int 1))])]), (.op .idx [(.var 6), (.op .add [(.op .mul [(.lit (.int 3)), (.var 9)]), (.lit (.int 2))])])])]
def ir_exchanged : Fn := ⟨3, 10, [], [.set 3 (.call 50 [(.var 0), (.var 1), (.var 2)]), .set 4 (.op .mul [(.lit (.int 3)), (.meth 23 (.var 0) [])]), .set 5 (.cRng ir_exchanged_e1 7 [(.var 4)] []), .set 6 (.op .list [(.var 5)]), .forR 7 [(.var 4)] ir_exchanged_b1, .set 8 (.lst []), .forR 9 [(.meth 23 (.var 0) [])] ir_exchanged_b2, .ret (.make 0 1 [(.var 8)])]⟩
/-- _law_goals: 0 mates 1 place 2 left 3 around_here 4 goals_here 5 k -/
def ir_law_goals_b1 : List IS := [.ife (.var 2) [.setIx 4 (.op .idx [(.var 3), (.var 5)]) (.op .idx [(.var 3), (.op .mod [(.op .add [(.var 5), (.lit (.int 3))]), (.lit (.int 4))])])] [.setIx 4 (.op .idx [(.var 3), (.var 5)]) (.op .idx [(.var 3), (.op .mod [(.op .add [(.var 5), (.lit (.int 1))]), (.lit (.int 4))])])]]
def ir_law_goals : Fn := ⟨3, 6, [], [.set 3 (.call 66 [(.var 0), (.var 1)]), .set 4 (.op .rangeL [(.op .len [(.var 0)])]), .forR 5 [(.lit (.int 4))] ir_law_goals_b1, .retM 4]⟩
/-- _law_cloths: 0 found 1 due 2 k -/
def ir_law_cloths_b1 : List IS := [.ife (.or (.op .not [(.op .isT [(.op .idx [(.var 0), (.var 2)])])]) (.op .not [(.call 109 [(.op .list [(.op .idx [(.var 0), (.var 2)])]), (.op .list [(.op .idx [(.var 1), (.var 2)])])])])) [.ret (.lit (.bl false))] []]
def ir_law_cloths : Fn := ⟨2, 3, [], [.ife (.or (.op .not [(.op .isL [(.var 0)])]) (.op .ne [(.op .len [(.var 0)]), (.op .len [(.var 1)])])) [.ret (.lit (.bl false))] [], .forR 2 [(.op .len [(.var 1)])] ir_law_cloths_b1, .ret (.lit (.bl true))]⟩
/-- moved: 0 tent 1 seam 2 way 3 place 4 steps -/
def ir_moved : Fn := ⟨4, 5, [], [.set 4 (.call 50 [(.var 0), (.var 1), (.var 2)]), .ife (.or (.op .lt [(.var 3), (.lit (.int 0))]) (.op .ge [(.var 3), (.op .mul [(.lit (.int 3)), (.meth 23 (.var 0) [])])])) [.raise 2] [], .ret (.op .get [(.var 4), (.var 3), (.var 3)])]⟩
/-- _law_outside: 0 tent_here 1 seam_here 2 way_here 3 place 4 told -/
def ir_law_outside_k06 : Fn := ⟨4, 5, [], [.set 4 (.lit (.str "")), .tr [.expr (.call 90 [(.var 0), (.var 1), (.var 2), (.var 3)])] [(2, 4, (.lit (.str "no place")))], .ret (.op .eq [(.var 4), (.lit (.str "no place"))])]⟩
/-- _law_shift: 0 mates 1 rows_here 2 goals_here 3 names 4 ties 5 p 6 k -/
def ir_law_shift_b1 : List IS := [.setIx 3 (.op .idx [(.var 2), (.var 5)]) (.op .idx [(.op .idx [(.var 1), (.op .fdiv [(.var 5), (.lit (.int 3))])]), (.op .mod [(.var 5), (.lit (.int 3))])]), .ife (.op .notN [(.op .idx [(.var 0), (.var 5)])]) [.setIx 4 (.op .idx [(.var 2), (.var 5)]) (.op .idx [(.var 2), (.op .idx [(.var 0), (.var 5)])])] []]
def ir_law_shift_e1 : IE := (.tup [(.op .idx [(.var 3), (.op .mul [(.lit (.int 3)), (.var 6)])]), (.op .idx [(.var 3), (.op .add [(.op .mul [(.lit (.int 3)), (.var 6)]), (.lit (.int 1))])]), (.op .idx [(.var 3), (.op .add [(.op .mul [(.lit (.int 3)), (.var 6)]), (.lit (.int 2))])])])
def ir_law_shift : Fn := ⟨3, 7, [], [.set 3 (.op .mul [(.lst [(.lit (.int 0))]), (.op .len [(.var 0)])]), .set 4 (.op .mul [(.lst [(.lit .non)]), (.op .len [(.var 0)])]), .forR 5 [(.op .len [(.var 0)])] ir_law_shift_b1, .ret (.tup [(.var 4), (.cRng ir_law_shift_e1 6 [(.op .len [(.var 1)])] [])])]⟩
/-- _law_truth: 0 found 1 due -/
def ir_law_truth : Fn := ⟨2, 2, [], [.ret (.and (.op .isB [(.var 0)]) (.op .eq [(.var 0), (.var 1)]))]⟩
/-- _law_plain: 0 mates 1 word 2 p 3 k 4 side -/
def ir_law_plain_b1 : List IS := [.ife (.or (.op .lt [(.var 2), (.lit (.int 0))]) (.or (.op .ge [(.var 2), (.op .len [(.var 0)])]) (.op .isN [(.op .idx [(.var 0), (.var 2)])]))) [.ret (.lit (.bl false))] []]
def ir_law_plain_b2 : List IS := [.set 4 (.op .idx [(.var 0), (.op .idx [(.var 1), (.op .sub [(.var 3), (.lit (.int 1))])])]), .ife (.or (.op .ne [(.op .fdiv [(.var 4), (.lit (.int 3))]), (.op .fdiv [(.op .idx [(.var 1), (.var 3)]), (.lit (.int 3))])]) (.op .eq [(.var 4), (.op .idx [(.var 1), (.var 3)])])) [.ret (.lit (.bl false))] []]
def ir_law_plain : Fn := ⟨2, 5, [], [.ife (.op .eq [(.op .len [(.var 1)]), (.lit (.int 0))]) [.ret (.lit (.bl false))] [], .forE (.one 2) (.var 1) ir_law_plain_b1, .forR 3 [(.op .len [(.var 1)])] ir_law_plain_b2, .ret (.lit (.bl true))]⟩
/-- _law_spoilt: 0 word 1 pick 2 place 3 row 4 at -/
def ir_law_spoilt : Fn := ⟨3, 5, [], [.set 3 (.op .list [(.var 0)]), .set 4 (.op .mod [(.op .fdiv [(.var 1), (.lit (.int 5))]), (.op .add [(.op .len [(.var 3)]), (.lit (.int 1))])]), .ife (.op .eq [(.op .mod [(.var 1), (.lit (.int 5))]), (.lit (.int 1))]) [.ins 3 (.var 4) (.var 2)] [.ife (.and (.op .eq [(.op .mod [(.var 1), (.lit (.int 5))]), (.lit (.int 2))]) (.op .lt [(.var 4), (.op .len [(.var 3)])])) [.expr (.pop 3 [(.var 4)])] [.ife (.and (.op .eq [(.op .mod [(.var 1), (.lit (.int 5))]), (.lit (.int 3))]) (.op .lt [(.var 4), (.op .len [(.var 3)])])) [.setIx 3 (.var 4) (.var 2)] [.ife (.op .eq [(.op .mod [(.var 1), (.lit (.int 5))]), (.lit (.int 4))]) [.set 3 (.op .add [(.op .sl0 [(.var 3), (.var 4)]), (.op .sl0 [(.var 3), (.var 4)])])] []]]], .retM 3]⟩
/-- pulled: 0 tent 1 seam 2 way 3 word 4 steps 5 kept 6 row 7 at 8 one 9 other 10 place 11 goal 12 side -/
def ir_pulled_i1 : List IE := [(.and (.op .ne [(.var 10), (.var 8)]) (.op .ne [(.var 10), (.var 9)]))]
def ir_pulled_e1 : IE := (.var 10)
def ir_pulled_b1 : List IS := [.set 10 (.op .idx [(.var 5), (.var 7)]), .set 11 (.op .idx [(.var 5), (.op .mod [(.op .add [(.var 7), (.lit (.int 1))]), (.op .len [(.var 5)])])]), .push 6 (.op .get [(.var 4), (.var 10), (.var 10)]), .set 12 (.meth 22 (.var 0) [(.var 10)]), .set 12 (.op .get [(.var 4), (.var 12), (.var 12)]), .set 11 (.op .get [(.var 4), (.var 11), (.var 11)]), .ife (.op .ne [(.op .fdiv [(.var 12), (.lit (.int 3))]), (.op .fdiv [(.var 11), (.lit (.int 3))])]) [.ife (.op .eq [(.op .fdiv [(.var 12), (.lit (.int 3))]), (.op .fdiv [(.var 8), (.lit (.int 3))])]) [.push 6 (.var 8)] [.push 6 (.var 9)]] []]
def ir_pulled : Fn := ⟨4, 13, [], [.set 4 (.call 50 [(.var 0), (.var 1), (.var 2)]), .expr (.call 28 [(.var 0), (.var 3)]), .setT [8, 9] (.meth 3 (.var 0) [(.var 1)]), .set 5 (.cSeq ir_pulled_e1 (.one 10) (.var 3) ir_pulled_i1), .set 6 (.lst []), .forR 7 [(.op .len [(.var 5)])] ir_pulled_b1, .retM 6]⟩
/-- _law_pull: 0 mates 1 place 2 goals_here 3 word 4 kept 5 row 6 k 7 side 8 goal 9 p -/
def ir_law_pull_i1 : List IE := [(.and (.op .ne [(.var 9), (.var 1)]) (.op .ne [(.var 9), (.op .idx [(.var 0), (.var 1)])]))]
def ir_law_pull_e1 : IE := (.var 9)
def ir_law_pull_b1 : List IS := [.push 5 (.op .idx [(.var 2), (.op .idx [(.var 4), (.var 6)])]), .set 7 (.op .idx [(.var 2), (.op .idx [(.var 0), (.op .idx [(.var 4), (.var 6)])])]), .set 8 (.op .idx [(.var 2), (.op .idx [(.var 4), (.op .mod [(.op .add [(.var 6), (.lit (.int 1))]), (.op .len [(.var 4)])])])]), .ife (.op .ne [(.op .fdiv [(.var 7), (.lit (.int 3))]), (.op .fdiv [(.var 8), (.lit (.int 3))])]) [.push 5 (.ite (.op .eq [(.op .fdiv [(.var 1), (.lit (.int 3))]), (.op .fdiv [(.var 7), (.lit (.int 3))])]) (.var 1) (.op .idx [(.var 0), (.var 1)]))] []]
def ir_law_pull : Fn := ⟨4, 10, [], [.set 4 (.cSeq ir_law_pull_e1 (.one 9) (.var 3) ir_law_pull_i1), .set 5 (.lst []), .forR 6 [(.op .len [(.var 4)])] ir_law_pull_b1, .retM 5]⟩
/-- Tent.seams: 0 self -/
def ir_Tent_seams : Fn := ⟨1, 1, [], [.ret (.op .sorted [(.fld 0 (.var 0) 1)])]⟩
/-- Tent.sort_of: 0 self 1 seam 2 both -/
def ir_Tent_sort_of : Fn := ⟨2, 3, [], [.set 2 (.meth 3 (.var 0) [(.var 1)]), .ife (.op .eq [(.op .len [(.var 2)]), (.lit (.int 1))]) [.ret (.lit (.str "rim"))] [], .ife (.op .eq [(.op .fdiv [(.op .idx [(.var 2), (.lit (.int 0))]), (.lit (.int 3))]), (.op .fdiv [(.op .idx [(.var 2), (.lit (.int 1))]), (.lit (.int 3))])]) [.ret (.lit (.str "locked"))] [], .ret (.lit (.str "free"))]⟩
/-- _law_sort: 0 spots -/
def ir_law_sort : Fn := ⟨1, 1, [], [.ife (.op .eq [(.op .len [(.var 0)]), (.lit (.int 1))]) [.ret (.lit (.str "rim"))] [], .ife (.op .eq [(.op .fdiv [(.op .idx [(.var 0), (.lit (.int 0))]), (.lit (.int 3))]), (.op .fdiv [(.op .idx [(.var 0), (.lit (.int 1))]), (.lit (.int 3))])]) [.ret (.lit (.str "locked"))] [], .ret (.lit (.str "free"))]⟩
/-- _law_outside: 0 tent_here 1 place 2 told 3 late -/
def ir_law_outside : Fn := ⟨2, 4, [], [.set 2 (.lit (.str "")), .set 3 (.lit (.str "")), .tr [.expr (.meth 21 (.var 0) [(.var 1)])] [(2, 2, (.lit (.str "no place")))], .tr [.expr (.meth 22 (.var 0) [(.var 1)])] [(2, 3, (.lit (.str "no place")))], .ret (.and (.op .eq [(.var 2), (.lit (.str "no place"))]) (.op .eq [(.var 3), (.lit (.str "no place"))]))]⟩
/-- _law_mate_right: 0 tent_here 1 mates 2 place 3 found -/
def ir_law_mate_right : Fn := ⟨3, 4, [], [.set 3 (.meth 22 (.var 0) [(.var 2)]), .ife (.op .isN [(.op .idx [(.var 1), (.var 2)])]) [.ret (.op .isN [(.var 3)])] [], .ret (.and (.call 108 [(.var 3)]) (.and (.op .eq [(.var 3), (.op .idx [(.var 1), (.var 2)])]) (.op .eq [(.meth 22 (.var 0) [(.var 3)]), (.var 2)])))]⟩
/-- _law_stranger: 0 tent_here 1 seam 2 first 3 second -/
def ir_law_stranger : Fn := ⟨2, 4, [], [.set 2 (.lit (.str "")), .set 3 (.lit (.str "")), .tr [.expr (.meth 3 (.var 0) [(.var 1)])] [(3, 2, (.lit (.str "no seam")))], .tr [.expr (.meth 5 (.var 0) [(.var 1)])] [(3, 3, (.lit (.str "no seam")))], .ret (.and (.op .eq [(.var 2), (.lit (.str "no seam"))]) (.op .eq [(.var 3), (.lit (.str "no seam"))]))]⟩
/-- driven: 0 tent 1 moves 2 seam 3 way -/
def ir_driven_b1 : List IS := [.set 0 (.call 51 [(.var 0), (.var 2), (.var 3)])]
def ir_driven : Fn := ⟨2, 4, [], [.forE (.tup [2, 3]) (.var 1) ir_driven_b1, .retM 0]⟩
/-- undoing: 0 moves 1 row 2 seam 3 way -/
def ir_undoing_b1 : List IS := [.push 1 (.tup [(.var 2), (.call 68 [(.var 3)])])]
def ir_undoing : Fn := ⟨1, 4, [], [.set 1 (.lst []), .forB (.tup [2, 3]) (.var 0) ir_undoing_b1, .retM 1]⟩
/-- letters: 0 tent 1 word 2 row 3 at 4 side 5 goal -/
def ir_letters_b1 : List IS := [.set 4 (.meth 22 (.var 0) [(.op .idx [(.var 1), (.var 3)])]), .set 5 (.op .idx [(.var 1), (.op .mod [(.op .add [(.var 3), (.lit (.int 1))]), (.op .len [(.var 1)])])]), .ife (.op .eq [(.var 5), (.call 32 [(.var 4)])]) [.push 2 (.lit (.str "R"))] [.push 2 (.lit (.str "L"))]]
def ir_letters : Fn := ⟨2, 6, [], [.expr (.call 28 [(.var 0), (.var 1)]), .set 2 (.lst []), .forR 3 [(.op .len [(.var 1)])] ir_letters_b1, .ret (.op .join [(.lit (.str "")), (.var 2)])]⟩
/-- _law_turns: 0 mates 1 word 2 row 3 k 4 side 5 goal -/
def ir_law_turns_b1 : List IS := [.set 4 (.op .idx [(.var 0), (.op .idx [(.var 1), (.var 3)])]), .set 5 (.op .idx [(.var 1), (.op .mod [(.op .add [(.var 3), (.lit (.int 1))]), (.op .len [(.var 1)])])]), .push 2 (.ite (.op .eq [(.var 5), (.op .add [(.op .sub [(.var 4), (.op .mod [(.var 4), (.lit (.int 3))])]), (.op .mod [(.op .add [(.var 4), (.lit (.int 1))]), (.lit (.int 3))])])]) (.lit (.str "R")) (.lit (.str "L")))]
def ir_law_turns : Fn := ⟨2, 6, [], [.set 2 (.lst []), .forR 3 [(.op .len [(.var 1)])] ir_law_turns_b1, .ret (.op .join [(.lit (.str "")), (.var 2)])]⟩
/-- walked: 0 tent 1 place 2 turns 3 row 4 turn 5 side -/
def ir_walked_b1 : List IS := [.set 5 (.meth 22 (.var 0) [(.op .idx [(.var 3), (.op .neg [(.lit (.int 1))])])]), .ife (.op .isN [(.var 5)]) [.raise 4] [], .ife (.op .eq [(.var 4), (.lit (.str "R"))]) [.push 3 (.call 32 [(.var 5)])] [.push 3 (.call 33 [(.var 5)])]]
def ir_walked : Fn := ⟨3, 6, [], [.ife (.or (.op .lt [(.var 1), (.lit (.int 0))]) (.op .ge [(.var 1), (.op .mul [(.lit (.int 3)), (.meth 23 (.var 0) [])])])) [.raise 2] [], .set 3 (.lst [(.var 1)]), .forE (.one 4) (.var 2) ir_walked_b1, .retM 3]⟩
/-- times: 0 tent 1 word 2 many 3 size -/
def ir_times_b1 : List IS := [.ife (.and (.op .eq [(.op .mod [(.var 2), (.var 3)]), (.lit (.int 0))]) (.op .eq [(.call 37 [(.var 1), (.var 3)]), (.op .list [(.var 1)])])) [.ret (.op .fdiv [(.var 2), (.var 3)])] []]
def ir_times : Fn := ⟨2, 4, [], [.expr (.call 28 [(.var 0), (.var 1)]), .set 2 (.op .len [(.var 1)]), .forR 3 [(.lit (.int 1)), (.var 2)] ir_times_b1, .ret (.lit (.int 1))]⟩
/-- _law_times: 0 word 1 best 2 count -/
def ir_law_times_b1 : List IS := [.ife (.and (.op .eq [(.op .mod [(.op .len [(.var 0)]), (.var 2)]), (.lit (.int 0))]) (.op .eq [(.op .mul [(.op .sl0 [(.var 0), (.op .fdiv [(.op .len [(.var 0)]), (.var 2)])]), (.var 2)]), (.var 0)])) [.set 1 (.var 2)] []]
def ir_law_times : Fn := ⟨1, 3, [], [.set 1 (.lit (.int 1)), .forR 2 [(.lit (.int 2)), (.op .add [(.op .len [(.var 0)]), (.lit (.int 1))])] ir_law_times_b1, .retM 1]⟩
end TL
namespace TL
open PySem PySem.Spec PyProof.Rows L2

/-! ### tables -/
def tabD (n : Nat) (f : Nat → D) : List D := (List.range n).map f
@[simp] theorem tabD_len {n : Nat} {f : Nat → D} : (tabD n f).length = n := by simp [tabD]
theorem tabD_get {n : Nat} {f : Nat → D} {i : Nat} (h : i < n) : (tabD n f)[i]? = some (f i) := by simp [tabD, h]
theorem atI_nat' {xs : List D} {i : Nat} : atI xs (i : Int) = xs[i]? := by
  unfold atI ixN
  rw [if_pos (Int.natCast_nonneg i)]
  by_cases h : (i : Int) < (xs.length : Nat)
  · rw [if_pos h]; rfl
  · rw [if_neg h]
    rw [List.getElem?_eq_none (by omega)]
    rfl
theorem atI_tab {n : Nat} {f : Nat → D} {i : Nat} (h : i < n) : atI (tabD n f) (i : Int) = some (f i) := by rw [atI_nat', tabD_get h]
theorem tabD_succ {n : Nat} {f : Nat → D} : tabD (n + 1) f = tabD n f ++ [f n] := by simp [tabD, List.range_succ]
theorem tabD_congr {n : Nat} {f g : Nat → D} (h : ∀ i, i < n → f i = g i) : tabD n f = tabD n g := by
  unfold tabD
  exact List.map_congr_left fun i m => h i (List.mem_range.mp m)
theorem tabD_set {n j : Nat} {f : Nat → D} {d : D} : (tabD n f).set j d = tabD n (fun i => if i = j then d else f i) := by
  apply List.ext_getElem?
  intro i
  rw [List.getElem?_set]
  by_cases hi : i < n
  · rw [tabD_get hi, tabD_get hi]
    by_cases h : j = i
    · subst h; simp [hi]
    · rw [if_neg h, if_neg (fun z => h z.symm)]
  · have h1 : (tabD n f)[i]? = none := List.getElem?_eq_none (by simp; omega)
    have h2 : (tabD n (fun i => if i = j then d else f i))[i]? = none := List.getElem?_eq_none (by simp; omega)
    rw [h1, h2]
    by_cases h : j = i
    · subst h; simp [hi]
    · rw [if_neg h]
theorem ixN_nat {n i : Nat} (h : i < n) : ixN n (i : Int) = some i := by
  unfold ixN
  rw [if_pos (Int.natCast_nonneg i), if_pos (by omega)]
  rfl
theorem lenOk_le {n : Nat} (h : n ≤ 1000000) : lenOk n = true := decide_eq_true h
theorem rangeD_tab {n : Nat} : rangeD 0 n = tabD n (fun i => .int (i : Int)) := by
  unfold rangeD tabD
  exact List.map_congr_left fun i _ => by rw [Int.zero_add]
theorem rng_one {n : Nat} (h : n ≤ 1000000) : rng [.int (n : Int)] = some (0, n) := by
  unfold rng
  simp only
  rw [if_pos (by omega)]
  simp
theorem rng_two {m n : Nat} (h : n ≤ 1000000) (hm : m ≤ n) : rng [.int (m : Int), .int (n : Int)] = some ((m : Int), n - m) := by
  unfold rng
  simp only
  rw [if_pos (by omega)]
  congr 2
  omega
/-! ### walks of coded lists -/
section
variable {T : Tbl} {C : List Nat} {α : Type} {i : Nat} {b : List IS} {elt : IE} {ρ : List D}
theorem fl_enc (enc : α → D) (l : List α) (P : Nat → List D → Prop) (step : ∀ k (h : k < l.length) ρ, P k ρ → ∃ ρ2, (execs T C b (ρ.set i (enc l[k])) = .nx ρ2 ∨ execs T C b (ρ.set i (enc l[k])) = .ct ρ2) ∧ P (k + 1) ρ2) (h0 : P 0 ρ) :
    ∃ ρ', fl T C (.one i) b (l.map enc) ρ = .nx ρ' ∧ P l.length ρ' := by
  have := fl_inv (T := T) (C := C) (g := .one i) (b := b) (xs := l.map enc) P (fun k h ρ p => by
    have hk : k < l.length := by simpa using h
    obtain ⟨ρ2, h1, h2⟩ := step k hk ρ p
    exact ⟨_, ρ2, by rw [store1_one, List.getElem_map], h1, h2⟩) h0
  rw [List.length_map] at this
  exact this
theorem rangeD_enc {n : Nat} : rangeD 0 n = (List.range n).map fun (k : Nat) => D.int (k : Int) := by
  unfold rangeD
  exact List.map_congr_left fun i _ => by rw [Int.zero_add]
theorem fl_range {n : Nat} (P : Nat → List D → Prop) (step : ∀ k, k < n → ∀ ρ, P k ρ → ∃ ρ2, (execs T C b (ρ.set i (.int (k : Int))) = .nx ρ2 ∨ execs T C b (ρ.set i (.int (k : Int))) = .ct ρ2) ∧ P (k + 1) ρ2) (h0 : P 0 ρ) :
    ∃ ρ', fl T C (.one i) b (rangeD 0 n) ρ = .nx ρ' ∧ P n ρ' := by
  rw [rangeD_enc]
  have := fl_enc (T := T) (C := C) (i := i) (b := b) (fun (k : Nat) => D.int (k : Int)) (List.range n) P (fun k h ρ p => by
    have hk : k < n := by simpa using h
    have := step k hk ρ p
    simpa using this) h0
  rw [List.length_range] at this
  exact this
theorem cl_encF {ifs : List IE} (enc : α → D) (l : List α) (p : α → Bool) (h : α → D) (step : ∀ a ∈ l, evC T ifs (ρ.set i (enc a)) = .ok (ρ.set i (enc a)) (.bl (p a)) ∧ (p a = true → evE T elt (ρ.set i (enc a)) = .ok (ρ.set i (enc a)) (h a) ∧ isLck (h a) = false)) :
    compK ρ [i] (cl T (.one i) ifs elt (l.map enc) ρ) = .ok (ρ.set i (ρ.getD i .und)) (.lst .own ((l.filter p).map fun a => frz (h a))) := by
  unfold cl
  have key : ∀ (l : List α) (ρ0 acc : List D), (∀ a ∈ l, evC T ifs (ρ.set i (enc a)) = .ok (ρ.set i (enc a)) (.bl (p a)) ∧ (p a = true → evE T elt (ρ.set i (enc a)) = .ok (ρ.set i (enc a)) (h a) ∧ isLck (h a) = false)) → ρ0.set i .und = ρ.set i .und →
      ∃ ρ', ρ'.set i .und = ρ.set i .und ∧ compL (.one i) (fun ρ => evC T ifs ρ) (fun ρ => evE T elt ρ) (l.map enc) ρ0 acc = .ok ρ' (acc ++ (l.filter p).map fun a => frz (h a)) := by
    intro l
    induction l with
    | nil => exact fun ρ0 acc _ e => ⟨ρ0, e, by simp [compL]⟩
    | cons a l ih =>
      intro ρ0 acc st e
      obtain ⟨h0, h12⟩ := st a List.mem_cons_self
      rw [List.map_cons, compL_cons]
      cases hp : p a with
      | true =>
        obtain ⟨h1, h2⟩ := h12 hp
        rw [hp] at h0
        obtain ⟨ρ', q1, q2⟩ := ih (ρ.set i (enc a)) (acc ++ [frz (h a)]) (fun b m => st b (List.mem_cons_of_mem _ m)) (by rw [List.set_set])
        refine ⟨ρ', q1, ?_⟩
        rw [List.filter_cons_of_pos hp]
        simp only [slots_one, wipe_cons, wipe_nil, store1_one, e, List.set_set, h0, h1, h2, Bool.false_eq_true, if_false, q2, List.map_cons, List.append_assoc, List.cons_append, List.nil_append]
      | false =>
        rw [hp] at h0
        obtain ⟨ρ', q1, q2⟩ := ih (ρ.set i (enc a)) acc (fun b m => st b (List.mem_cons_of_mem _ m)) (by rw [List.set_set])
        refine ⟨ρ', q1, ?_⟩
        rw [List.filter_cons_of_neg (by rw [hp]; exact Bool.false_ne_true)]
        simp only [slots_one, wipe_cons, wipe_nil, store1_one, e, List.set_set, h0, q2]
  obtain ⟨ρ', q1, q2⟩ := key l ρ [] step rfl
  rw [q2, compK_ok]
  simp only [wipe_cons, wipe_nil, back_cons, back_nil, q1, List.set_set, List.nil_append]
theorem cl_enc (enc : α → D) (l : List α) (h : α → D) (step : ∀ a ∈ l, evE T elt (ρ.set i (enc a)) = .ok (ρ.set i (enc a)) (h a) ∧ isLck (h a) = false) :
    compK ρ [i] (cl T (.one i) [] elt (l.map enc) ρ) = .ok (ρ.set i (ρ.getD i .und)) (.lst .own (l.map fun a => frz (h a))) := by
  have := cl_encF (ifs := []) enc l (fun _ => true) h fun a m => ⟨evC_nil, fun _ => step a m⟩
  rw [List.filter_eq_self.mpr (fun _ _ => rfl)] at this
  exact this
theorem cl_range {n : Nat} (h : Nat → D) (step : ∀ k, k < n → evE T elt (ρ.set i (.int (k : Int))) = .ok (ρ.set i (.int (k : Int))) (h k) ∧ isLck (h k) = false) :
    compK ρ [i] (cl T (.one i) [] elt (rangeD 0 n) ρ) = .ok (ρ.set i (ρ.getD i .und)) (.lst .own (tabD n fun k => frz (h k))) := by
  rw [rangeD_enc]
  exact cl_enc (fun (k : Nat) => D.int (k : Int)) (List.range n) h fun k m => step k (List.mem_range.mp m)
theorem cl_rangeF {n : Nat} {ifs : List IE} (p : Nat → Bool) (h : Nat → D) (step : ∀ k, k < n → evC T ifs (ρ.set i (.int (k : Int))) = .ok (ρ.set i (.int (k : Int))) (.bl (p k)) ∧ (p k = true → evE T elt (ρ.set i (.int (k : Int))) = .ok (ρ.set i (.int (k : Int))) (h k) ∧ isLck (h k) = false)) :
    compK ρ [i] (cl T (.one i) ifs elt (rangeD 0 n) ρ) = .ok (ρ.set i (ρ.getD i .und)) (.lst .own (((List.range n).filter p).map fun k => frz (h k))) := by
  rw [rangeD_enc]
  exact cl_encF (fun (k : Nat) => D.int (k : Int)) (List.range n) p h fun k m => step k (List.mem_range.mp m)
end
/-! ### sizes -/
theorem log2_lt_of {x k : Nat} (h : x < 2 ^ k) (hk : 0 < k) : x.log2 < k := by
  by_cases z : x = 0
  · rw [z]; simpa using hk
  · exact (Nat.log2_lt z).mpr h
theorem mulOk_of {x y : Int} {a b : Nat} (hx : x.natAbs < 2 ^ a) (hy : y.natAbs < 2 ^ b) (h : a + b < 1000000) (ha : 0 < a) (hb : 0 < b) : mulOk x y = true := by
  unfold mulOk
  have h1 := log2_lt_of hx ha
  have h2 := log2_lt_of hy hb
  exact decide_eq_true (by omega)
theorem mulOk_30 {x y : Int} (hx : x.natAbs < 2 ^ 100) (hy : y.natAbs < 2 ^ 100) : mulOk x y = true := mulOk_of hx hy (by decide) (by decide) (by decide)
theorem divOk_lit {j : Int} (h : 0 < j) (h2 : j < 2 ^ 100) : divOk j = true := by
  unfold divOk
  have : j.natAbs < 2 ^ 100 := by omega
  have := log2_lt_of this (by decide)
  exact decide_eq_true ⟨h, by omega⟩

/-! ### a law's cells -/
def cellF (ns : List Int) (i : Nat) : Int :=
  if i < ns.length then ns.getD i 0 else if ns = [] then 31 * (i : Int) + 7 else ns.getD (i % ns.length) 0 % 1000003 + 101 * (i : Int)
def Sp_cell (f : List D → FR) : Prop := ∀ (ns : List Int) (i : Nat), i < 1000 → f [script ns, .int i] = .ok [] (.int (cellF ns i))
theorem atI_ints {ns : List Int} {j : Nat} (h : j < ns.length) : atI (ns.map D.int) (j : Int) = some (.int (ns.getD j 0)) := by
  rw [atI_nat', List.getElem?_map, List.getElem?_eq_getElem h, List.getD_eq_getElem?_getD, List.getElem?_eq_getElem h]
  rfl
theorem ok_cell (T : Tbl) : Sp_cell (run T ir_law_cell) := fun ns i hi => by
  have m1 : mulOk 101 i = true := mulOk_30 (by decide) (by omega)
  have m2 : mulOk 31 i = true := mulOk_30 (by decide) (by omega)
  by_cases h : i < ns.length
  · have h3 := atI_ints h
    have hc : cellF ns i = ns.getD i 0 := by unfold cellF; rw [if_pos h]
    have h4 : (i : Int) < (ns.length : Nat) := by omega
    simp [run_eq, ir_law_cell, script, h3, h4, hc]
  · by_cases h0 : ns = []
    · subst h0
      have h4 : ¬ ((i : Int) < 0) := by omega
      simp [run_eq, ir_law_cell, script, h4, m2, cellF]
    · have hl : 0 < ns.length := by cases ns with | nil => exact absurd rfl h0 | cons _ _ => exact Nat.succ_pos _
      have h3 : atI (ns.map D.int) ((i : Int) % (ns.length : Nat)) = some (.int (ns.getD (i % ns.length) 0)) := by
        rw [← atI_ints (Nat.mod_lt _ hl)]
        congr 1
      have h4 : ¬ ((i : Int) < (ns.length : Nat)) := by omega
      have h5 : ¬ ((ns.length : Int) = 0) := by omega
      have h6 : (0 : Int) < (ns.length : Nat) := by omega
      have hc : cellF ns i = ns.getD (i % ns.length) 0 % 1000003 + 101 * (i : Int) := by unfold cellF; rw [if_neg h, if_neg h0]
      simp [run_eq, ir_law_cell, script, h3, h4, h5, h6, hl, h0, m1, hc]
end TL

namespace TL
open PySem PySem.Spec PyProof.Rows L2

/-! ### numbers drawn from a cell -/
def Sp_numbers (f : List D → FR) : Prop := ∀ (c : Int) (m : Nat), m ≤ 1000 → ∃ nums : List Int, nums.length = m ∧ (∀ x ∈ nums, 0 ≤ x ∧ x < 1009) ∧ f [.int c, .int m] = .ok [] (.lst .own (nums.map .int))
theorem numbers_l1 (T : Tbl) (c : Int) (m : Nat) (hm : m ≤ 1000) : ∀ (k fuel : Nat) (row : List Int) (rest : Int), m - row.length = k → k < fuel → row.length ≤ m → (∀ x ∈ row, 0 ≤ x ∧ x < 1009) →
    ∃ (row' : List Int) (rest' : Int), row'.length ≤ m ∧ (∀ x ∈ row', 0 ≤ x ∧ x < 1009) ∧ wl T [] ir_law_numbers_t1 ir_law_numbers_b1 fuel [.int c, .int m, .lst .own (row.map .int), .int rest, .und] = .nx [.int c, .int m, .lst .own (row'.map .int), .int rest', .und] := by
  intro k
  induction k with
  | zero =>
    intro fuel row rest hk hf hl hr
    obtain ⟨fuel, rfl⟩ : ∃ n, fuel = n + 1 := ⟨fuel - 1, by omega⟩
    have h1 : ¬ ((row.length : Int) < (m : Int)) := by omega
    refine ⟨row, rest, hl, hr, ?_⟩
    rw [wl_succ]
    by_cases h0 : 0 < rest <;> simp [ir_law_numbers_t1, h0, h1]
  | succ k ih =>
    intro fuel row rest hk hf hl hr
    obtain ⟨fuel, rfl⟩ : ∃ n, fuel = n + 1 := ⟨fuel - 1, by omega⟩
    have h1 : (row.length : Int) < (m : Int) := by omega
    rw [wl_succ]
    by_cases h0 : 0 < rest
    · obtain ⟨row', rest', q1, q2, q3⟩ := ih fuel (row ++ [rest % 1009]) (rest / 1009) (by simp; omega) (by omega) (by simp; omega) (fun x mx => by
        rcases List.mem_append.mp mx with mx | mx
        · exact hr x mx
        · rw [List.mem_singleton.mp mx]; omega)
      refine ⟨row', rest', q1, q2, ?_⟩
      have hd : divOk 1009 = true := divOk_lit (by decide) (by decide)
      have hlen : lenOk row.length = true := lenOk_le (by omega)
      simp [ir_law_numbers_t1, ir_law_numbers_b1, h0, h1, hd, hlen]
      simp at q3
      exact q3
    · refine ⟨row, rest, hl, hr, ?_⟩
      simp [ir_law_numbers_t1, h0]
theorem numbers_l2 (T : Tbl) (c : Int) (m : Nat) (hm : m ≤ 1000) (rest : Int) : ∀ (k fuel : Nat) (row : List Int) (seed : Int), m - row.length = k → k < fuel → row.length ≤ m → (∀ x ∈ row, 0 ≤ x ∧ x < 1009) → 0 ≤ seed ∧ seed < 2147483647 →
    ∃ (row' : List Int) (seed' : Int), row'.length = m ∧ (∀ x ∈ row', 0 ≤ x ∧ x < 1009) ∧ wl T [] ir_law_numbers_t2 ir_law_numbers_b2 fuel [.int c, .int m, .lst .own (row.map .int), .int rest, .int seed] = .nx [.int c, .int m, .lst .own (row'.map .int), .int rest, .int seed'] := by
  intro k
  induction k with
  | zero =>
    intro fuel row seed hk hf hl hr hs
    obtain ⟨fuel, rfl⟩ : ∃ n, fuel = n + 1 := ⟨fuel - 1, by omega⟩
    have h1 : ¬ ((row.length : Int) < (m : Int)) := by omega
    refine ⟨row, seed, by omega, hr, ?_⟩
    rw [wl_succ]
    simp [ir_law_numbers_t2, h1]
  | succ k ih =>
    intro fuel row seed hk hf hl hr hs
    obtain ⟨fuel, rfl⟩ : ∃ n, fuel = n + 1 := ⟨fuel - 1, by omega⟩
    have h1 : (row.length : Int) < (m : Int) := by omega
    rw [wl_succ]
    have hs2 : 0 ≤ (seed * 48271 + 12345 + (row.length : Int)) % 2147483647 ∧ (seed * 48271 + 12345 + (row.length : Int)) % 2147483647 < 2147483647 := by omega
    generalize hse : (seed * 48271 + 12345 + (row.length : Int)) % 2147483647 = s2 at hs2
    obtain ⟨row', rest', q1, q2, q3⟩ := ih fuel (row ++ [s2 * 69621 % 2147483629 / 7 % 1009]) s2 (by simp; omega) (by omega) (by simp; omega) (fun x mx => by
      rcases List.mem_append.mp mx with mx | mx
      · exact hr x mx
      · rw [List.mem_singleton.mp mx]; omega) hs2
    refine ⟨row', rest', q1, q2, ?_⟩
    have hd : divOk 7 = true := divOk_lit (by decide) (by decide)
    have hlen : lenOk row.length = true := lenOk_le (by omega)
    have m1 : mulOk seed 48271 = true := mulOk_30 (by omega) (by decide)
    have m2 : mulOk s2 69621 = true := mulOk_30 (by omega) (by decide)
    simp [ir_law_numbers_t2, ir_law_numbers_b2, h1, hd, hlen, m1, m2, hse]
    simp at q3
    exact q3
theorem ok_numbers (T : Tbl) : Sp_numbers (run T ir_law_numbers) := fun c m hm => by
  have hp : powOk 10 18 = true := by decide +kernel
  obtain ⟨row, rest, h1, h2, h3⟩ := numbers_l1 T c m hm m 1000000000 [] (c - 1000000000000000000) (by simp) (by omega) (by simp) (by simp)
  obtain ⟨row', seed', g1, g2, g3⟩ := numbers_l2 T c m hm rest (m - row.length) 1000000000 row (c % 2147483629) rfl (by omega) h1 h2 (by omega)
  refine ⟨row', g1, g2, ?_⟩
  simp at h3
  simp [run_eq, ir_law_numbers, hp, h3, g3]
end TL

namespace TL
open PySem PySem.Spec PyProof.Rows L2

/-! ### mates -/
def optD : Option Nat → D
  | none => .non
  | some q => .int (q : Int)
@[simp] theorem optD_none : optD none = .non := rfl
@[simp] theorem optD_some {q : Nat} : optD (some q) = .int (q : Int) := rfl
@[simp] theorem isLck_opt {o : Option Nat} : isLck (optD o) = false := by cases o <;> rfl
@[simp] theorem isOwn_opt {o : Option Nat} : isOwn (optD o) = false := by cases o <;> rfl
@[simp] theorem frz_opt {o : Option Nat} : frz (optD o) = optD o := by cases o <;> rfl
@[simp] theorem safe1_opt {o : Option Nat} : safe1 (optD o) = true := by cases o <;> rfl
def matesL (n : Nat) (mt : Nat → Option Nat) : List D := tabD n fun i => optD (mt i)
structure Mates (n : Nat) (mt : Nat → Option Nat) : Prop where
  lt : ∀ p q, mt p = some q → p < n ∧ q < n
  ne : ∀ p q, mt p = some q → p ≠ q
  sy : ∀ p q, mt p = some q → mt q = some p
def natsL (l : List Nat) : List D := l.map fun (p : Nat) => D.int (p : Int)
@[simp] theorem natsL_len {l : List Nat} : (natsL l).length = l.length := by simp [natsL]
@[simp] theorem natsL_cons {p : Nat} {l : List Nat} : natsL (p :: l) = .int (p : Int) :: natsL l := rfl
@[simp] theorem natsL_nil : natsL [] = [] := rfl
theorem natsL_get {l : List Nat} {j : Nat} (h : j < l.length) : (natsL l)[j]? = some (.int ((l[j] : Nat) : Int)) := by simp [natsL, h]
theorem natsL_erase {l : List Nat} {j : Nat} : (natsL l).eraseIdx j = natsL (l.eraseIdx j) := by
  induction l generalizing j with
  | nil => rfl
  | cons a l ih =>
    cases j with
    | zero => rfl
    | succ j => show _ :: (natsL l).eraseIdx j = _ :: natsL (l.eraseIdx j); rw [ih]
theorem natsL_append {l r : List Nat} : natsL (l ++ r) = natsL l ++ natsL r := by simp [natsL]
theorem rangeD_nats {n : Nat} : rangeD 0 n = natsL (List.range n) := by
  unfold rangeD natsL
  exact List.map_congr_left fun i _ => by rw [Int.zero_add]
def Sp_sewn (f : List D → FR) : Prop := ∀ (nums : List Int) (many : Nat) (share : Int), 3 * many ≤ nums.length → many ≤ 1000 → ∃ mt, Mates (3 * many) mt ∧ f [.lst .fz (nums.map .int), .int many, .int share] = .ok [] (.lst .own (matesL (3 * many) mt))
theorem mod_nat (x : Int) {m : Nat} (h : 0 < m) : ∃ j : Nat, x % (m : Int) = (j : Int) ∧ j < m := by
  have h1 := Int.emod_nonneg x (b := (m : Int)) (by omega)
  have h2 := Int.emod_lt_of_pos x (b := (m : Int)) (by omega)
  exact ⟨(x % (m : Int)).toNat, by omega, by omega⟩
theorem not_mem_erase : ∀ {l : List Nat} {j : Nat}, l.Nodup → (h : j < l.length) → l[j] ∉ l.eraseIdx j
  | a :: l, 0, nd, _, m => (List.nodup_cons.mp nd).1 m
  | a :: l, j + 1, nd, h, m => by
    obtain ⟨n1, n2⟩ := List.nodup_cons.mp nd
    have m : l[j]'(Nat.lt_of_succ_lt_succ h) ∈ a :: l.eraseIdx j := m
    rcases List.mem_cons.mp m with m | m
    · exact n1 (by rw [← m]; exact List.getElem_mem _)
    · exact not_mem_erase n2 (Nat.lt_of_succ_lt_succ h) m
theorem sewn_l (T : Tbl) (nums : List Int) (many n : Nat) (share : Int) (hn : n ≤ nums.length) (hn2 : n ≤ 3000) : ∀ (k fuel : Nat) (free : List Nat) (mt : Nat → Option Nat) (at_ : Nat) (d6 d7 d8 : D), free.length ≤ k → k < fuel → free.Nodup → (∀ p ∈ free, p < n) → at_ + free.length ≤ n →
    Mates n mt → (∀ p q, mt p = some q → p ∉ free) →
    ∃ mt' d4 d5 d6' d7' d8', Mates n mt' ∧ wl T [] ir_law_sewn_t1 ir_law_sewn_b1 fuel [.lst .fz (nums.map .int), .int many, .int share, .lst .own (matesL n mt), .lst .own (natsL free), .int at_, d6, d7, d8] = .nx [.lst .fz (nums.map .int), .int many, .int share, .lst .own (matesL n mt'), d4, d5, d6', d7', d8'] := by
  intro k
  induction k with
  | zero =>
    intro fuel free mt at_ d6 d7 d8 hk hf nd hlt hat hm ho
    obtain ⟨fuel, rfl⟩ : ∃ n, fuel = n + 1 := ⟨fuel - 1, by omega⟩
    have : free = [] := List.length_eq_zero_iff.mp (by omega)
    subst this
    refine ⟨mt, .lst .own [], .int at_, d6, d7, d8, hm, ?_⟩
    rw [wl_succ]
    simp [ir_law_sewn_t1]
  | succ k ih =>
    intro fuel free mt at_ d6 d7 d8 hk hf nd hlt hat hm ho
    obtain ⟨fuel, rfl⟩ : ∃ n, fuel = n + 1 := ⟨fuel - 1, by omega⟩
    rw [wl_succ]
    by_cases h1 : 1 < free.length
    · match free, h1 with
      | one :: rest, h1 =>
        have hr : 0 < rest.length := by simp only [List.length_cons] at h1; omega
        obtain ⟨nr, ndr⟩ := List.nodup_cons.mp nd
        simp only [List.length_cons] at hk hat
        have ha : at_ < nums.length := by omega
        have hat2 : atI (nums.map D.int) (at_ : Int) = some (.int (nums.getD at_ 0)) := atI_ints ha
        generalize hpk : nums.getD at_ 0 = pick at hat2
        have hlen : lenOk (rest.length + 1) = true := lenOk_le (by omega)
        have hlen2 : lenOk rest.length = true := lenOk_le (by omega)
        have hd : divOk 7 = true := divOk_lit (by decide) (by decide)
        have h1' : (0 : Int) < (rest.length : Nat) := by omega
        have h1c : (1 : Int) < (rest.length : Int) + 1 := by omega
        have e0 : ixN (rest.length + 1) 0 = some 0 := ixN_nat (n := rest.length + 1) (i := 0) (by omega)
        have e1 : ((at_ + 1 : Nat) : Int) = ((at_ : Int) + 1) := by omega
        by_cases hs : share ≤ pick % 7
        · obtain ⟨j, hj, hjl⟩ := mod_nat (pick / 7) hr
          have e2 : ixN rest.length (pick / 7 % (rest.length : Int)) = some j := by rw [hj]; exact ixN_nat hjl
          have e3 := natsL_get hjl
          have mo : rest[j] ∈ rest := List.getElem_mem hjl
          have on : one < n := hlt one List.mem_cons_self
          have rn : rest[j] < n := hlt _ (List.mem_cons_of_mem _ mo)
          have ne : one ≠ rest[j] := fun z => nr (by rw [z]; exact mo)
          have hnone : ∀ p, p ∈ one :: rest → mt p = none := fun p m => by
            cases q : mt p with
            | none => rfl
            | some x => exact absurd m (ho p x q)
          have hn1 := hnone one List.mem_cons_self
          have hn2 := hnone _ (List.mem_cons_of_mem _ mo)
          obtain ⟨mt', d4, d5, d6', d7', d8', q1, q2⟩ := ih fuel (rest.eraseIdx j) (fun i => if i = rest[j] then some one else if i = one then some rest[j] else mt i) (at_ + 1) (.int one) (.int pick) (.int (rest[j] : Nat))
            (by rw [List.length_eraseIdx_of_lt hjl]; omega) (by omega) (ndr.eraseIdx j) (fun p m => hlt p (List.mem_cons_of_mem _ (List.mem_of_mem_eraseIdx m))) (by rw [List.length_eraseIdx_of_lt hjl]; omega)
            ⟨fun p q h => by
              split at h
              · cases h; rename_i z; subst z; exact ⟨rn, on⟩
              · split at h
                · cases h; rename_i z; subst z; exact ⟨on, rn⟩
                · exact hm.lt p q h,
             fun p q h => by
              split at h
              · cases h; rename_i z; subst z; exact ne.symm
              · split at h
                · cases h; rename_i z; subst z; exact ne
                · exact hm.ne p q h,
             fun p q h => by
              split at h
              · cases h; rename_i z; subst z; rw [if_neg ne, if_pos rfl]
              · split at h
                · cases h; rename_i z; subst z; rw [if_pos rfl]
                · have hq := hm.sy p q h
                  have z1 : q ≠ rest[j] := fun z => by rw [z, hn2] at hq; cases hq
                  have z2 : q ≠ one := fun z => by rw [z, hn1] at hq; cases hq
                  rw [if_neg z1, if_neg z2]; exact hq⟩
            (fun p q h m => by
              have mr := List.mem_of_mem_eraseIdx m
              split at h
              · rename_i z
                subst z
                exact not_mem_erase ndr hjl m
              · split at h
                · rename_i z; subst z; exact nr mr
                · exact ho p q h (List.mem_cons_of_mem _ mr))
          refine ⟨mt', d4, d5, d6', d7', d8', q1, ?_⟩
          have es : (tabD n fun i => optD (mt i)).set one (.int (rest[j] : Nat)) = tabD n fun i => optD (if i = one then some rest[j] else mt i) := by
            rw [tabD_set]
            exact tabD_congr fun i _ => by by_cases z : i = one <;> simp [z]
          have es2 : (tabD n fun i => optD (if i = one then some rest[j] else mt i)).set rest[j] (.int (one : Nat)) = tabD n fun i => optD (if i = rest[j] then some one else if i = one then some rest[j] else mt i) := by
            rw [tabD_set]
            exact tabD_congr fun i _ => by by_cases z : i = rest[j] <;> simp [z]
          simp [ir_law_sewn_t1, ir_law_sewn_b1, h1c, hlen, hlen2, e0, hat2, hs, hd, h1', e2, e3, natsL_erase, matesL, ixN_nat on, ixN_nat rn, es, es2, hr]
          rw [← e1]; exact q2
        · obtain ⟨mt', d4, d5, d6', d7', d8', q1, q2⟩ := ih fuel rest mt (at_ + 1) (.int one) (.int pick) d8 (by omega) (by omega) ndr (fun p m => hlt p (List.mem_cons_of_mem _ m)) (by omega) hm (fun p q h m => ho p q h (List.mem_cons_of_mem _ m))
          refine ⟨mt', d4, d5, d6', d7', d8', q1, ?_⟩
          simp [ir_law_sewn_t1, ir_law_sewn_b1, h1c, hlen, e0, hat2, hs, matesL]
          rw [← e1]; exact q2
    · refine ⟨mt, .lst .own (natsL free), .int at_, d6, d7, d8, hm, ?_⟩
      have h2 : ¬ ((1 : Int) < (free.length : Nat)) := by omega
      simp [ir_law_sewn_t1, h2]
theorem rangeL_of {es : List D} {lo : Int} {n : Nat} (h1 : rng es = some (lo, n)) (h2 : lenOk n = true) : ap_rangeL es = some (.lst .own (rangeD lo n)) := by
  unfold ap_rangeL
  simp only [h1, h2, if_true]
theorem rangeL_nat {n : Nat} (h : n ≤ 1000000) : ap_rangeL [.int (n : Int)] = some (.lst .own (natsL (List.range n))) := by
  rw [rangeL_of (rng_one h) (lenOk_le h), rangeD_nats]
theorem repD_one {n : Nat} {d : D} : repD n [d] = tabD n fun _ => d := by
  unfold repD tabD
  rw [List.flatten_replicate_singleton]
  apply List.ext_getElem?
  intro i
  by_cases h : i < n
  · simp [h]
  · rw [List.getElem?_eq_none (by simp; omega), List.getElem?_eq_none (by simp; omega)]
theorem ok_sewn (T : Tbl) : Sp_sewn (run T ir_law_sewn) := fun nums many share h1 h2 => by
  have m1 : mulOk 3 (many : Int) = true := mulOk_30 (by decide) (by omega)
  have e3 : (3 * (many : Int)).toNat = 3 * many := by omega
  have l1 : lenOk (3 * many) = true := lenOk_le (by omega)
  have c1 : -4611686018427387904 ≤ 3 * (many : Int) := by omega
  have c2 : 3 * (many : Int) < 4611686018427387904 := by omega
  have r1 : ap_rangeL [.int (3 * (many : Int))] = some (.lst .own (natsL (List.range (3 * many)))) := by
    have h3 : (3 * (many : Int)) = ((3 * many : Nat) : Int) := by omega
    rw [h3]
    exact rangeL_nat (by omega)
  have r2 : repD (3 * many) [D.non] = tabD (3 * many) fun _ => .non := repD_one
  obtain ⟨mt, d4, d5, d6, d7, d8, hm, hw⟩ := sewn_l T nums many (3 * many) share h1 (by omega) (3 * many) 1000000000 (List.range (3 * many)) (fun _ => none) 0 .und .und .und (by simp) (by omega) List.nodup_range (by simp) (by simp) ⟨by simp, by simp, by simp⟩ (by simp)
  refine ⟨mt, hm, ?_⟩
  simp [matesL] at hw
  simp -implicitDefEqProofs [run_eq, ir_law_sewn, m1, e3, l1, c1, c2, r1, r2, hw, matesL]
end TL

namespace TL
open PySem PySem.Spec PyProof.Rows L2

/-! ### names of seams -/
def repF (mt : Nat → Option Nat) (p : Nat) : Nat := match mt p with
  | some q => if q < p then q else p
  | none => p
def nmF (mt : Nat → Option Nat) (start step : Int) (p : Nat) : Int := (start + step * (repF mt p : Nat)) % 10000
def rowD (nm : Nat → Int) (k : Nat) : D := .tup [.int (nm (3 * k)), .int (nm (3 * k + 1)), .int (nm (3 * k + 2))]
def rowsL (n : Nat) (nm : Nat → Int) : List D := tabD n (rowD nm)
@[simp] theorem matesL_len {n : Nat} {mt : Nat → Option Nat} : (matesL n mt).length = n := tabD_len
@[simp] theorem rowsL_len {n : Nat} {nm : Nat → Int} : (rowsL n nm).length = n := tabD_len
theorem matesL_at {n : Nat} {mt : Nat → Option Nat} {p : Nat} (h : p < n) : atI (matesL n mt) (p : Int) = some (optD (mt p)) := atI_tab h
theorem rowsL_at {n : Nat} {nm : Nat → Int} {p : Nat} (h : p < n) : atI (rowsL n nm) (p : Int) = some (rowD nm p) := atI_tab h
def Sp_rows (f : List D → FR) : Prop := ∀ (n : Nat) (mt : Nat → Option Nat) (start step : Int), Mates n mt → n ≤ 1000 → step.natAbs < 2 ^ 90 → f [.lst .fz (matesL n mt), .int start, .int step] = .ok [] (.lst .own (rowsL (n / 3) (nmF mt start step)))
theorem ok_rows (T : Tbl) : Sp_rows (run T ir_law_rows) := fun n mt start step hm hn hs => by
  obtain ⟨ρ', h1, d4, d5, h2⟩ := fl_range (T := T) (C := []) (i := 4) (b := ir_law_rows_b1) (n := n) (ρ := [.lst .fz (matesL n mt), .int start, .int step, .lst .own [], .und, .und, .und])
    (fun k ρ => ∃ d4 d5, ρ = [.lst .fz (matesL n mt), .int start, .int step, .lst .own (tabD k fun i => .int (nmF mt start step i)), d4, d5, .und]) (fun k hk ρ ⟨d4, d5, e⟩ => by
      subst e
      have h3 := matesL_at (mt := mt) hk
      have l1 : lenOk k = true := lenOk_le (by omega)
      have m1 : mulOk step (k : Int) = true := mulOk_30 (by omega) (by omega)
      have e0 : (k : Int) = ((k : Nat) : Int) := rfl
      cases q : mt k with
      | none =>
        have hv : nmF mt start step k = (start + step * (k : Int)) % 10000 := by unfold nmF repF; rw [q]
        rw [q] at h3
        refine ⟨_, .inl ?_, .int k, .non, rfl⟩
        rw [tabD_succ, hv]
        simp -implicitDefEqProofs [ir_law_rows_b1, h3, l1, m1]
      | some r =>
        rw [q] at h3
        have h3' : atI (matesL n mt) (k : Int) = some (.int (r : Int)) := h3
        by_cases hr : r < k
        · have hv : nmF mt start step k = nmF mt start step r := by
            have hq := hm.sy k r q
            unfold nmF repF
            rw [q, hq]
            simp only [hr, if_true]
            rw [if_neg (by omega)]
          have h4 : atI (tabD k fun i => D.int (nmF mt start step i)) (r : Int) = some (.int (nmF mt start step r)) := atI_tab hr
          refine ⟨_, .inl ?_, .int k, .int r, rfl⟩
          rw [tabD_succ, hv]
          simp -implicitDefEqProofs [ir_law_rows_b1, h3', l1, hr, h4]
        · have hv : nmF mt start step k = (start + step * (k : Int)) % 10000 := by unfold nmF repF; rw [q]; simp only [hr, if_false]
          refine ⟨_, .inl ?_, .int k, .int r, rfl⟩
          rw [tabD_succ, hv]
          simp -implicitDefEqProofs [ir_law_rows_b1, h3', l1, hr, m1]) ⟨.und, .und, rfl⟩
  have r1 := rng_one (n := n) (by omega)
  have r2 : rng [.int ((n : Int) / 3)] = some (0, n / 3) := by
    have : (n : Int) / 3 = ((n / 3 : Nat) : Int) := by omega
    rw [this]; exact rng_one (by omega)
  have hd : divOk 3 = true := divOk_lit (by decide) (by decide)
  have l3 : lenOk (n / 3) = true := lenOk_le (by omega)
  have hc := cl_range (T := T) (i := 6) (elt := ir_law_rows_e1) (n := n / 3) (ρ := [.lst .fz (matesL n mt), .int start, .int step, .lst .own (tabD n fun i => .int (nmF mt start step i)), d4, d5, .und]) (rowD (nmF mt start step)) (fun k hk => by
    have a0 : atI (tabD n fun i => D.int (nmF mt start step i)) (3 * (k : Int)) = some (.int (nmF mt start step (3 * k))) := by
      have : 3 * (k : Int) = ((3 * k : Nat) : Int) := by omega
      rw [this]; exact atI_tab (by omega)
    have a1 : atI (tabD n fun i => D.int (nmF mt start step i)) (3 * (k : Int) + 1) = some (.int (nmF mt start step (3 * k + 1))) := by
      have : 3 * (k : Int) + 1 = ((3 * k + 1 : Nat) : Int) := by omega
      rw [this]; exact atI_tab (by omega)
    have a2 : atI (tabD n fun i => D.int (nmF mt start step i)) (3 * (k : Int) + 2) = some (.int (nmF mt start step (3 * k + 2))) := by
      have : 3 * (k : Int) + 2 = ((3 * k + 2 : Nat) : Int) := by omega
      rw [this]; exact atI_tab (by omega)
    have m1 : mulOk 3 (k : Int) = true := mulOk_30 (by decide) (by omega)
    refine ⟨?_, rfl⟩
    simp -implicitDefEqProofs [ir_law_rows_e1, m1, a0, a1, a2, rowD])
  subst h2
  simp -implicitDefEqProofs [run_eq, ir_law_rows, r1, h1, hd, r2, l3]
  simp at hc
  rw [hc]
  simp -implicitDefEqProofs
  rfl
end TL

namespace TL
open PySem PySem.Spec PyProof.Rows L2

/-! ### a law's tent -/
@[simp] theorem isLck_script {ns : List Int} : isLck (script ns) = false := (rfl)
@[simp] theorem isOwn_script {ns : List Int} : isOwn (script ns) = false := (rfl)
@[simp] theorem isOwn1_script {ns : List Int} : isOwn1 (script ns) = false := (rfl)
@[simp] theorem frz_script {ns : List Int} : frz (script ns) = script ns := (rfl)
structure TentOk (m : Nat) (mt : Nat → Option Nat) (nm : Nat → Int) : Prop where
  pos : 0 < m
  le : m ≤ 14
  mates : Mates (3 * m) mt
  nm0 : ∀ p, 0 ≤ nm p ∧ nm p ≤ 9999
  eq : ∀ p q, p < 3 * m → q < 3 * m → (nm p = nm q ↔ p = q ∨ mt p = some q)
def Sp_tent (f : List D → FR) : Prop := ∀ ns, ∃ m mt nm, TentOk m mt nm ∧ f [script ns] = .ok [] (.tup [.lst .fz (matesL (3 * m) mt), .lst .fz (rowsL m nm)])
theorem repF_eq {n : Nat} {mt : Nat → Option Nat} (h : Mates n mt) (p q : Nat) : repF mt p = repF mt q ↔ p = q ∨ mt p = some q := by
  have key : ∀ p, (mt p = none ∧ repF mt p = p) ∨ ∃ r, mt p = some r ∧ mt r = some p ∧ r ≠ p ∧ repF mt p = min p r := fun p => by
    cases e : mt p with
    | none => exact .inl ⟨rfl, by unfold repF; rw [e]⟩
    | some r =>
      refine .inr ⟨r, rfl, h.sy _ _ e, (h.ne _ _ e).symm, ?_⟩
      unfold repF
      rw [e]
      simp only
      split <;> omega
  constructor
  · intro e
    rcases key p with ⟨h1, h2⟩ | ⟨r, h1, h2, h3, h4⟩ <;> rcases key q with ⟨g1, g2⟩ | ⟨s, g1, g2, g3, g4⟩
    · left; omega
    · rw [h2, g4] at e
      by_cases z : q ≤ s
      · left; omega
      · have : p = s := by omega
        subst this
        rw [h1] at g2; cases g2
    · rw [h4, g2] at e
      by_cases z : p ≤ r
      · left; omega
      · have : r = q := by omega
        subst this
        rw [g1] at h2; cases h2
    · rw [h4, g4] at e
      by_cases z : p ≤ r <;> by_cases y : q ≤ s
      · left; omega
      · have : p = s := by omega
        subst this
        right; exact g2
      · have : r = q := by omega
        subst this
        right; exact h1
      · have : r = s := by omega
        subst this
        rw [h2] at g2
        cases g2
        left; rfl
  · rintro (e | e)
    · rw [e]
    · rcases key p with ⟨h1, h2⟩ | ⟨r, h1, h2, h3, h4⟩
      · rw [h1] at e; cases e
      · rw [h1] at e; cases e
        rcases key q with ⟨g1, g2⟩ | ⟨s, g1, g2, g3, g4⟩
        · rw [g1] at h2; cases h2
        · rw [g1] at h2; cases h2
          omega
theorem repF_lt {n : Nat} {mt : Nat → Option Nat} (h : Mates n mt) {p : Nat} (hp : p < n) : repF mt p < n := by
  unfold repF
  cases e : mt p with
  | none => exact hp
  | some r =>
    have := (h.lt _ _ e).2
    simp only
    split <;> omega
theorem nmF_inj {start step : Int} {a b : Nat} (hs : step = 1 ∨ step = 3 ∨ step = 7 ∨ step = 9 ∨ step = 37 ∨ step = 1009 ∨ step = 3333 ∨ step = 9999) (ha : a < 42) (hb : b < 42) (e : (start + step * (a : Int)) % 10000 = (start + step * (b : Int)) % 10000) : a = b := by
  rcases hs with rfl | rfl | rfl | rfl | rfl | rfl | rfl | rfl <;> omega
theorem tent_ok {m : Nat} {mt : Nat → Option Nat} {start step : Int} (h1 : 0 < m) (h2 : m ≤ 14) (hm : Mates (3 * m) mt) (hs : step = 1 ∨ step = 3 ∨ step = 7 ∨ step = 9 ∨ step = 37 ∨ step = 1009 ∨ step = 3333 ∨ step = 9999) : TentOk m mt (nmF mt start step) := by
  refine ⟨h1, h2, hm, fun p => ?_, fun p q hp hq => ?_⟩
  · unfold nmF; omega
  · rw [← repF_eq hm p q]
    constructor
    · intro e
      unfold nmF at e
      have a := repF_lt hm hp
      have b := repF_lt hm hq
      exact nmF_inj hs (by omega) (by omega) e
    · intro e; unfold nmF; rw [e]
theorem atI_lit {xs : List D} {i : Int} {j : Nat} (h : i = (j : Int)) : atI xs i = xs[j]? := by rw [h, atI_nat']
theorem many_of (hd : Int) : ∃ m : Nat, 0 < m ∧ m ≤ 14 ∧ (if hd / 6 % 9 = 4 then 7 + hd / 54 % 8 else 1 + hd % 6) = (m : Int) := by
  split
  · exact ⟨(7 + hd / 54 % 8).toNat, by omega, by omega, by omega⟩
  · exact ⟨(1 + hd % 6).toNat, by omega, by omega, by omega⟩
theorem ok_tent (T : Tbl) (h105 : Sp_cell (T.F 105)) (h113 : Sp_numbers (T.F 113)) (h152 : Sp_sewn (T.F 152)) (h151 : Sp_rows (T.F 151)) (u105 : T.muts 105 = []) (u113 : T.muts 113 = []) (u152 : T.muts 152 = []) (u151 : T.muts 151 = []) : Sp_tent (run T ir_law_tent) := fun ns => by
  have c0 := h105 ns 0 (by decide)
  have c1 := h105 ns 1 (by decide)
  have c2 := h105 ns 2 (by decide)
  generalize cellF ns 0 = x0 at c0
  generalize cellF ns 1 = x1 at c1
  generalize cellF ns 2 = x2 at c2
  obtain ⟨nums, l1, l2, e1⟩ := h113 x1 60 (by decide)
  obtain ⟨j, hj, jl⟩ := mod_nat x2 (m := 4) (by decide)
  obtain ⟨k, hk, kl⟩ := mod_nat (x2 / 4) (m := 8) (by decide)
  have hj : x2 % 4 = (j : Int) := hj
  have hk : x2 / 4 % 8 = (k : Int) := hk
  obtain ⟨share, es⟩ : ∃ share : Int, atI [D.int 0, .int 0, .int 1, .int 3] (x2 % 4) = some (.int share) := by
    rw [hj, atI_nat']
    rcases (by omega : j = 0 ∨ j = 1 ∨ j = 2 ∨ j = 3) with rfl | rfl | rfl | rfl <;> exact ⟨_, rfl⟩
  obtain ⟨step, hs, et⟩ : ∃ step : Int, (step = 1 ∨ step = 3 ∨ step = 7 ∨ step = 9 ∨ step = 37 ∨ step = 1009 ∨ step = 3333 ∨ step = 9999) ∧ atI [D.int 1, .int 3, .int 7, .int 9, .int 37, .int 1009, .int 3333, .int 9999] (x2 / 4 % 8) = some (.int step) := by
    rw [hk, atI_nat']
    rcases (by omega : k = 0 ∨ k = 1 ∨ k = 2 ∨ k = 3 ∨ k = 4 ∨ k = 5 ∨ k = 6 ∨ k = 7) with rfl | rfl | rfl | rfl | rfl | rfl | rfl | rfl <;> exact ⟨_, by decide, rfl⟩
  obtain ⟨m, m1, m2, hm⟩ := many_of x0
  obtain ⟨mt, mm, e2⟩ := h152 nums m share (by omega) (by omega)
  have e3 := h151 (3 * m) mt (x2 / 32 % 10000) step mm (by omega) (by rcases hs with rfl | rfl | rfl | rfl | rfl | rfl | rfl | rfl <;> decide)
  have e3' : (3 * m) / 3 = m := by omega
  rw [e3'] at e3
  refine ⟨m, mt, nmF mt (x2 / 32 % 10000) step, tent_ok m1 m2 mm hs, ?_⟩
  have d1 : divOk 6 = true := divOk_lit (by decide) (by decide)
  have d2 : divOk 54 = true := divOk_lit (by decide) (by decide)
  have d3 : divOk 4 = true := divOk_lit (by decide) (by decide)
  have d4 : divOk 32 = true := divOk_lit (by decide) (by decide)
  simp at c0 c1 c2 e1 e2
  by_cases hc : x0 / 6 % 9 = 4
  · rw [if_pos hc] at hm
    simp -implicitDefEqProofs [run_eq, ir_law_tent, u105, u113, u152, u151, c0, c1, c2, e1, d1, d2, d3, d4, es, et, hc, hm, e2, e3]
  · rw [if_neg hc] at hm
    simp -implicitDefEqProofs [run_eq, ir_law_tent, u105, u113, u152, u151, c0, c1, c2, e1, d1, d2, d3, d4, es, et, hc, hm, e2, e3]
end TL

namespace TL
open PySem PySem.Spec PyProof.Rows L2

/-! ### a comprehension's tests -/
def iffK : ER → ER
  | .ok ρ (.bl b) => .ok ρ (.bl b)
  | _ => .stuck
@[simp] theorem iffK_ok {ρ : List D} {b : Bool} : iffK (.ok ρ (.bl b)) = .ok ρ (.bl b) := rfl
@[simp] theorem iffK_ite {p : Prop} [Decidable p] {x y : ER} : iffK (if p then x else y) = if p then iffK x else iffK y := by split <;> rfl
@[simp] theorem evC_one {T : Tbl} {e : IE} {ρ : List D} : evC T [e] ρ = iffK (evE T e ρ) := by
  rw [evC]
  cases evE T e ρ with
  | ok ρ1 d =>
    cases d with
    | bl b => cases b <;> rfl
    | _ => rfl
  | _ => rfl
/-! ### seams that turn -/
def nxt (p : Nat) : Nat := p - p % 3 + (p + 1) % 3
def prv (p : Nat) : Nat := p - p % 3 + (p + 2) % 3
theorem nxt_i (p : Nat) : (p : Int) - (p : Int) % 3 + ((p : Int) + 1) % 3 = (nxt p : Nat) := by unfold nxt; omega
theorem prv_i (p : Nat) : (p : Int) - (p : Int) % 3 + ((p : Int) + 2) % 3 = (prv p : Nat) := by unfold prv; omega
def Sp_after (f : List D → FR) : Prop := ∀ p : Nat, f [.int p] = .ok [] (.int (nxt p : Nat))
theorem ok_after (T : Tbl) : Sp_after (run T ir_after) := fun p => by
  simp -implicitDefEqProofs [run_eq, ir_after]
  exact nxt_i p
def Sp_before (f : List D → FR) : Prop := ∀ p : Nat, f [.int p] = .ok [] (.int (prv p : Nat))
theorem ok_before (T : Tbl) : Sp_before (run T ir_before) := fun p => by
  simp -implicitDefEqProofs [run_eq, ir_before]
  exact prv_i p
def lowB (mt : Nat → Option Nat) (p : Nat) : Bool := match mt p with
  | some q => decide (p < q)
  | none => false
def freeB (mt : Nat → Option Nat) (p : Nat) : Bool := match mt p with
  | some q => decide (p / 3 ≠ q / 3)
  | none => false
def freeL (n : Nat) (mt : Nat → Option Nat) : List Nat := ((List.range n).filter (lowB mt)).filter (freeB mt)
def Sp_free (f : List D → FR) : Prop := ∀ n mt, n ≤ 1000 → f [.lst .fz (matesL n mt)] = .ok [] (.lst .own (natsL (freeL n mt)))
theorem len_filter_range {n : Nat} {p : Nat → Bool} : ((List.range n).filter p).length ≤ n := by
  have := List.length_filter_le p (List.range n)
  simpa using this
theorem ok_free (T : Tbl) : Sp_free (run T ir_law_free) := fun n mt hn => by
  have d3 : divOk 3 = true := divOk_lit (by decide) (by decide)
  have r1 := rng_one (n := n) (by omega)
  have l1 : lenOk n = true := lenOk_le (by omega)
  have l2 : lenOk ((List.range n).filter (lowB mt)).length = true := lenOk_le (by have := len_filter_range (n := n) (p := lowB mt); omega)
  have h1 := cl_rangeF (T := T) (i := 2) (elt := ir_law_free_e1) (ifs := ir_law_free_i1) (n := n) (ρ := [.lst .fz (matesL n mt), .und, .und]) (lowB mt) (fun k => .int (k : Int)) (fun k hk => by
    have h3 := matesL_at (mt := mt) hk
    unfold lowB
    cases e : mt k with
    | none => rw [e] at h3; exact ⟨by simp [ir_law_free_i1, h3], fun z => by cases z⟩
    | some q =>
      rw [e] at h3
      have h3 : atI (matesL n mt) (k : Int) = some (.int (q : Int)) := h3
      exact ⟨by by_cases z : k < q <;> simp [ir_law_free_i1, h3, z], fun _ => ⟨by simp [ir_law_free_e1], rfl⟩⟩)
  have h2 := cl_encF (T := T) (i := 2) (elt := ir_law_free_e2) (ifs := ir_law_free_i2) (ρ := [.lst .fz (matesL n mt), .lst .fz (natsL ((List.range n).filter (lowB mt))), .und]) (fun (k : Nat) => D.int (k : Int)) ((List.range n).filter (lowB mt)) (freeB mt) (fun k => .int (k : Int)) (fun k hk => by
    have hk2 : k < n := List.mem_range.mp (List.mem_filter.mp hk).1
    have hlow : lowB mt k = true := (List.mem_filter.mp hk).2
    have h3 := matesL_at (mt := mt) hk2
    unfold lowB at hlow
    unfold freeB
    cases e : mt k with
    | none => rw [e] at hlow; cases hlow
    | some q =>
      rw [e] at h3
      have h3 : atI (matesL n mt) (k : Int) = some (.int (q : Int)) := h3
      refine ⟨?_, fun _ => ⟨by simp [ir_law_free_e2], rfl⟩⟩
      by_cases z : k / 3 = q / 3
      · have z' : (k : Int) / 3 = (q : Int) / 3 := by omega
        simp [ir_law_free_i2, h3, d3, z, z']
      · have z' : ¬ ((k : Int) / 3 = (q : Int) / 3) := by omega
        simp [ir_law_free_i2, h3, d3, z, z'])
  simp at h1 h2
  have e1 : (((List.range n).filter (lowB mt)).map fun (k : Nat) => D.int (k : Int)) = natsL ((List.range n).filter (lowB mt)) := rfl
  rw [e1] at h1 h2
  simp -implicitDefEqProofs [run_eq, ir_law_free, r1, l1, l2, h1, h2]
  rw [← List.filter_filter]
  rfl
def Sp_seam (f : List D → FR) : Prop := ∀ m nm p, p < 3 * m → f [.lst .fz (rowsL m nm), .int (p : Nat)] = .ok [] (.int (nm p))
theorem rowD_at {nm : Nat → Int} {p : Nat} : atI [D.int (nm (3 * (p / 3))), .int (nm (3 * (p / 3) + 1)), .int (nm (3 * (p / 3) + 2))] ((p : Int) % 3) = some (.int (nm p)) := by
  have e : (p : Int) % 3 = ((p % 3 : Nat) : Int) := by omega
  rw [e, atI_nat']
  rcases (by omega : p % 3 = 0 ∨ p % 3 = 1 ∨ p % 3 = 2) with z | z | z <;> rw [z]
  · have : 3 * (p / 3) = p := by omega
    rw [this]; rfl
  · have : 3 * (p / 3) + 1 = p := by omega
    rw [this]; rfl
  · have : 3 * (p / 3) + 2 = p := by omega
    rw [this]; rfl
theorem rowsL_div {m : Nat} {nm : Nat → Int} {p : Nat} (h : p < 3 * m) : atI (rowsL m nm) ((p : Int) / 3) = some (rowD nm (p / 3)) := by
  have e : (p : Int) / 3 = ((p / 3 : Nat) : Int) := by omega
  rw [e, rowsL_at (by omega)]
theorem ok_seam (T : Tbl) : Sp_seam (run T ir_law_seam) := fun m nm p hp => by
  have d3 : divOk 3 = true := divOk_lit (by decide) (by decide)
  have h1 := rowsL_div (nm := nm) hp
  have h2 := rowD_at (nm := nm) (p := p)
  unfold rowD at h1
  simp -implicitDefEqProofs [run_eq, ir_law_seam, d3, h1, h2]
structure Whole (f : List D → FR) : Prop where
  int : ∀ i, f [.int i] = .ok [] (.bl true)
  bl : ∀ b, f [.bl b] = .ok [] (.bl false)
  non : f [.non] = .ok [] (.bl false)
def Sp_whole (f : List D → FR) : Prop := Whole f
theorem ok_whole (T : Tbl) : Sp_whole (run T ir_law_whole) :=
  ⟨fun i => by simp -implicitDefEqProofs [run_eq, ir_law_whole], fun b => by simp -implicitDefEqProofs [run_eq, ir_law_whole], by simp -implicitDefEqProofs [run_eq, ir_law_whole]⟩
def AllInt (xs : List D) : Prop := ∀ x ∈ xs, ∃ i, x = .int i
theorem allInt_nats {l : List Nat} : AllInt (natsL l) := fun x m => by
  obtain ⟨a, _, e⟩ := List.mem_map.mp m
  exact ⟨_, e.symm⟩
theorem allInt_ints {l : List Int} : AllInt (l.map .int) := fun x m => by
  obtain ⟨a, _, e⟩ := List.mem_map.mp m
  exact ⟨_, e.symm⟩
theorem AllInt.at {xs : List D} (h : AllInt xs) {k : Nat} (hk : k < xs.length) : ∃ i, atI xs (k : Int) = some (.int i) := by
  obtain ⟨i, e⟩ := h _ (List.getElem_mem hk)
  exact ⟨i, by rw [atI_nat', List.getElem?_eq_getElem hk, e]⟩
def Sp_list (f : List D → FR) : Prop := ∀ xs : List D, AllInt xs → xs.length ≤ 1000000 → f [.lst .fz xs, .lst .fz xs] = .ok [] (.bl true)
theorem ok_list (T : Tbl) (h108 : Sp_whole (T.F 108)) (u108 : T.muts 108 = []) : Sp_list (run T ir_law_list) := fun xs hx hl => by
  obtain ⟨ρ', h1, d, h2⟩ := fl_range (T := T) (C := []) (i := 2) (b := ir_law_list_b1) (n := xs.length) (ρ := [.lst .fz xs, .lst .fz xs, .und])
    (fun k ρ => ∃ d, ρ = [.lst .fz xs, .lst .fz xs, d]) (fun k hk ρ ⟨d, e⟩ => by
      subst e
      obtain ⟨i, hi⟩ := hx.at hk
      have w := h108.int i
      refine ⟨_, .inl ?_, .int k, rfl⟩
      simp -implicitDefEqProofs [ir_law_list_b1, hi, u108, w]) ⟨.und, rfl⟩
  subst h2
  have r1 := rng_one (n := xs.length) hl
  simp -implicitDefEqProofs [run_eq, ir_law_list, r1, h1]
def Sp_around (f : List D → FR) : Prop := ∀ n mt p q, p < n → mt p = some q → f [.lst .fz (matesL n mt), .int (p : Nat)] = .ok [] (.lst .own (natsL [nxt p, prv p, nxt q, prv q]))
theorem ok_around (T : Tbl) : Sp_around (run T ir_law_around) := fun n mt p q hp e => by
  have h3 := matesL_at (mt := mt) hp
  rw [e] at h3
  have h3 : atI (matesL n mt) (p : Int) = some (.int (q : Int)) := h3
  have l1 : lenOk 1 = true := by decide
  have l2 : lenOk 2 = true := by decide
  have l3 : lenOk 3 = true := by decide
  have l0 : lenOk 0 = true := by decide
  simp -implicitDefEqProofs [run_eq, ir_law_around, h3, fl_cons, fl_nil, ir_law_around_b1, l0, l1, l2, l3, nxt_i, prv_i]
end TL

namespace TL
open PySem PySem.Spec PyProof.Rows L2

/-! ### where seams stand -/
def firsts (l : List Int) : List Int := l.foldl (fun acc s => if s ∈ acc then acc else acc ++ [s]) []
def placesL (s : Int) (l : List Int) : List Nat := (List.range l.length).filter fun p => decide (l.getD p 0 = s)
def whereL (l : List Int) : List (Key × List D) := (firsts l).map fun s => (.inl s, natsL (placesL s l))
theorem firsts_snoc {l : List Int} {s : Int} : firsts (l ++ [s]) = if s ∈ firsts l then firsts l else firsts l ++ [s] := by
  unfold firsts
  rw [List.foldl_append]
  rfl
theorem snoc_ind {α : Type} {P : List α → Prop} (h0 : P []) (h1 : ∀ l a, P l → P (l ++ [a])) (l : List α) : P l := by
  rw [← List.reverse_reverse l]
  induction l.reverse with
  | nil => exact h0
  | cons a r ih => rw [List.reverse_cons]; exact h1 _ _ ih
theorem firsts_mem {l : List Int} {s : Int} : s ∈ firsts l ↔ s ∈ l := by
  induction l using snoc_ind with
  | h0 => exact Iff.rfl
  | h1 l a ih =>
    rw [firsts_snoc]
    split
    · rename_i h
      rw [ih, List.mem_append, List.mem_singleton]
      constructor
      · exact .inl
      · rintro (h1 | h1)
        · exact h1
        · subst h1; exact ih.mp h
    · rw [List.mem_append, List.mem_append, ih]
theorem firsts_nodup {l : List Int} : (firsts l).Nodup := by
  induction l using snoc_ind with
  | h0 => exact List.nodup_nil
  | h1 l a ih =>
    rw [firsts_snoc]
    split
    · exact ih
    · rename_i h
      exact List.nodup_append.mpr ⟨ih, (by simp), fun x m y n e => h (by rw [← List.mem_singleton.mp n, ← e]; exact m)⟩
theorem firsts_len {l : List Int} : (firsts l).length ≤ l.length := by
  induction l using snoc_ind with
  | h0 => exact Nat.le_refl _
  | h1 l a ih =>
    rw [firsts_snoc]
    split <;> simp <;> omega
theorem placesL_snoc {s a : Int} {l : List Int} : placesL s (l ++ [a]) = placesL s l ++ if a = s then [l.length] else [] := by
  unfold placesL
  rw [List.length_append, List.length_singleton, List.range_succ, List.filter_append]
  congr 1
  · refine List.filter_congr fun p m => ?_
    have hp : p < l.length := List.mem_range.mp m
    rw [List.getD_eq_getElem?_getD, List.getElem?_append_left hp, ← List.getD_eq_getElem?_getD]
  · have e : (l ++ [a]).getD l.length 0 = a := by simp
    by_cases h : a = s
    · rw [if_pos h, List.filter_cons_of_pos (by rw [e]; exact decide_eq_true h)]; rfl
    · rw [if_neg h, List.filter_cons_of_neg (by rw [e]; simpa using h)]; rfl
theorem placesL_mem {s : Int} {l : List Int} {p : Nat} : p ∈ placesL s l ↔ p < l.length ∧ l.getD p 0 = s := by
  unfold placesL
  rw [List.mem_filter, List.mem_range, decide_eq_true_iff]
theorem placesL_nodup {s : Int} {l : List Int} : (placesL s l).Nodup := List.Pairwise.filter _ List.nodup_range
theorem placesL_none {s : Int} {l : List Int} (h : s ∉ l) : placesL s l = [] := by
  unfold placesL
  rw [List.filter_eq_nil_iff]
  intro p m
  have hp : p < l.length := List.mem_range.mp m
  rw [decide_eq_true_iff]
  intro e
  apply h
  rw [← e, List.getD_eq_getElem?_getD, List.getElem?_eq_getElem hp]
  exact List.getElem_mem hp
theorem placesL_len {s : Int} {l : List Int} : (placesL s l).length ≤ l.length := len_filter_range
theorem lget_map {β : Type} {l : List Int} {f : Int → β} {s : Int} : lget (Sum.inl s : Key) (l.map fun t => (.inl t, f t)) = if s ∈ l then some (f s) else none := by
  induction l with
  | nil => rfl
  | cons a l ih =>
    rw [List.map_cons, lget]
    by_cases h : a = s
    · subst h
      rw [if_pos rfl, if_pos List.mem_cons_self]
    · rw [if_neg (fun e => h (Sum.inl.inj e)), ih]
      by_cases h2 : s ∈ l
      · rw [if_pos h2, if_pos (List.mem_cons_of_mem _ h2)]
      · rw [if_neg h2, if_neg (fun e => (List.mem_cons.mp e).elim (fun z => h z.symm) h2)]
theorem lset_map {β : Type} {l : List Int} {f : Int → β} {s : Int} {v : β} (nd : l.Nodup) : lset (Sum.inl s : Key) v (l.map fun t => (.inl t, f t)) = l.map fun t => (.inl t, if t = s then v else f t) := by
  induction l with
  | nil => rfl
  | cons a l ih =>
    obtain ⟨n1, n2⟩ := List.nodup_cons.mp nd
    rw [List.map_cons, lset, List.map_cons]
    by_cases h : a = s
    · subst h
      rw [if_pos rfl, if_pos rfl]
      congr 1
      refine List.map_congr_left fun t m => ?_
      rw [if_neg (fun e => n1 (by rw [← e]; exact m))]
    · rw [if_neg (fun e => h (Sum.inl.inj e)), if_neg h, ih n2]
theorem whereL_get {l : List Int} {s : Int} : lget (Sum.inl s : Key) (whereL l) = if s ∈ l then some (natsL (placesL s l)) else none := by
  unfold whereL
  rw [lget_map]
  simp only [firsts_mem]
theorem whereL_old {l : List Int} {s : Int} (h : s ∈ l) : lset (Sum.inl s : Key) (natsL (placesL s l) ++ [.int (l.length : Nat)]) (whereL l) = whereL (l ++ [s]) := by
  unfold whereL
  rw [lset_map firsts_nodup, firsts_snoc, if_pos (firsts_mem.mpr h)]
  refine List.map_congr_left fun t m => ?_
  rw [placesL_snoc]
  by_cases e : t = s
  · subst e
    rw [if_pos rfl, if_pos rfl, natsL_append]; rfl
  · rw [if_neg e, if_neg (fun z => e z.symm), List.append_nil]
theorem whereL_new {l : List Int} {s : Int} (h : s ∉ l) : lset (Sum.inl s : Key) [.int (l.length : Nat)] (whereL l ++ [(.inl s, [])]) = whereL (l ++ [s]) := by
  have h' : s ∉ firsts l := fun m => h (firsts_mem.mp m)
  have e : whereL l ++ [(Sum.inl s, [])] = (firsts (l ++ [s])).map fun t => ((Sum.inl t : Key), natsL (placesL t l)) := by
    rw [firsts_snoc, if_neg h', List.map_append, List.map_cons, List.map_nil, placesL_none h]
    rfl
  rw [e, lset_map firsts_nodup]
  unfold whereL
  refine List.map_congr_left fun t m => ?_
  rw [placesL_snoc]
  by_cases e : t = s
  · subst e
    rw [if_pos rfl, if_pos rfl, placesL_none h]; rfl
  · rw [if_neg e, if_neg (fun z => e z.symm), List.append_nil]
theorem whereL_len {l : List Int} : (whereL l).length ≤ l.length := by
  unfold whereL
  rw [List.length_map]
  exact firsts_len
/-! ### cloths -/
/-- a cloth, as a tuple or as a list -/
abbrev Cl := List Int × Bool
def encCl (c : Cl) : D := if c.2 then .tup (c.1.map .int) else .lst .fz (c.1.map .int)
def flat (cs : List Cl) : List Int := (cs.map (·.1)).flatten
theorem flat_snoc {cs : List Cl} {c : Cl} : flat (cs ++ [c]) = flat cs ++ c.1 := by simp [flat]
theorem flat_take {cs : List Cl} {k : Nat} (h : k < cs.length) : flat (cs.take (k + 1)) = flat (cs.take k) ++ cs[k].1 := by
  rw [List.take_succ_eq_append_getElem h, flat_snoc]
def Sp_standing (f : List D → FR) : Prop := ∀ cs : List Cl, (flat cs).length ≤ 1000000 → f [.lst .fz (cs.map encCl)] = .ok [] (.dls (whereL (flat cs)))
theorem items_encCl {c : Cl} {e : IE} : items2 e (frz (encCl c)) = some (c.1.map .int) := by
  unfold encCl
  split <;> rfl
theorem isLck_encCl {c : Cl} : isLck (encCl c) = false := by unfold encCl; split <;> rfl
@[simp] theorem isOwn_encCl {c : Cl} : isOwn (encCl c) = false := by unfold encCl; split <;> rfl
@[simp] theorem frz_encCl {c : Cl} : frz (encCl c) = encCl c := by unfold encCl; split <;> rfl
theorem items_encCl' {c : Cl} {e : IE} : items2 e (encCl c) = some (c.1.map .int) := by
  unfold encCl
  split <;> rfl
theorem flat_len_take {cs : List Cl} {k : Nat} : (flat (cs.take k)).length ≤ (flat cs).length := by
  have e : flat cs = flat (cs.take k) ++ flat (cs.drop k) := by
    unfold flat
    rw [← List.flatten_append, ← List.map_append, List.take_append_drop]
  rw [e, List.length_append]
  omega
theorem standing_in (T : Tbl) (r : D) (pre l : List Int) (d3 d4 : D) (hl : (pre ++ l).length ≤ 1000000) :
    ∃ d4', fl T [] (.one 4) ir_standing_b1 (l.map .int) [r, .dls (whereL pre), .int (pre.length : Nat), d3, d4] = .nx [r, .dls (whereL (pre ++ l)), .int ((pre ++ l).length : Nat), d3, d4'] := by
  induction l generalizing pre d4 with
  | nil => exact ⟨d4, by rw [List.append_nil]; rfl⟩
  | cons s l ih =>
    have e1 : pre ++ s :: l = (pre ++ [s]) ++ l := by simp
    rw [e1] at hl ⊢
    obtain ⟨d4', q⟩ := ih (pre ++ [s]) (.int s) hl
    refine ⟨d4', ?_⟩
    rw [List.map_cons, fl_cons]
    have l1 : lenOk (whereL pre).length = true := lenOk_le (by have := whereL_len (l := pre); simp at hl; omega)
    have l2 : lenOk (placesL s pre).length = true := lenOk_le (by have := placesL_len (s := s) (l := pre); simp at hl; omega)
    have l0 : lenOk 0 = true := by decide
    have e2 : ((pre ++ [s]).length : Int) = (pre.length : Int) + 1 := by simp
    rw [e2] at q
    by_cases h : s ∈ pre
    · have g1 : lget (Sum.inl s : Key) (whereL pre) = some (natsL (placesL s pre)) := by rw [whereL_get, if_pos h]
      have g2 := whereL_old h
      simp -implicitDefEqProofs [ir_standing_b1, g1, l1, l2, g2]
      simp at q
      exact q
    · have g1 : lget (Sum.inl s : Key) (whereL pre) = none := by rw [whereL_get, if_neg h]
      have g3 : lget (Sum.inl s : Key) (whereL pre ++ [(.inl s, [])]) = some [] := by
        have e : ∀ k : List (Key × List D), lget (Sum.inl s : Key) k = none → lget (Sum.inl s : Key) (k ++ [(.inl s, [])]) = some [] := by
          intro k
          induction k with
          | nil => intro _; simp [lget]
          | cons a k ih =>
            intro hk
            obtain ⟨a1, a2⟩ := a
            rw [List.cons_append, lget]
            rw [lget] at hk
            split at hk
            · cases hk
            · rename_i z; rw [if_neg z]; exact ih hk
        exact e _ g1
      have g2 := whereL_new h
      simp -implicitDefEqProofs [ir_standing_b1, g1, g3, l1, l0, g2]
      simp at q
      exact q
theorem ok_standing (T : Tbl) : Sp_standing (run T ir_standing) := fun cs hl => by
  obtain ⟨ρ', h1, d3, d4, h2⟩ := fl_enc (T := T) (C := []) (i := 3) (b := ir_standing_b2) (ρ := [.lst .fz (cs.map encCl), .dls [], .int 0, .und, .und]) encCl cs
    (fun k ρ => ∃ d3 d4, ρ = [.lst .fz (cs.map encCl), .dls (whereL (flat (cs.take k))), .int ((flat (cs.take k)).length : Nat), d3, d4]) (fun k hk ρ ⟨d3, d4, e⟩ => by
      subst e
      obtain ⟨d4', q⟩ := standing_in T (.lst .fz (cs.map encCl)) (flat (cs.take k)) cs[k].1 (encCl cs[k]) d4 (by rw [← flat_take hk]; have := flat_len_take (cs := cs) (k := k + 1); omega)
      rw [← flat_take hk] at q
      refine ⟨_, .inl ?_, encCl cs[k], d4', rfl⟩
      simp -implicitDefEqProofs [ir_standing_b2, isLck_encCl, items_encCl', q]) ⟨.und, .und, rfl⟩
  subst h2
  rw [List.take_of_length_le (Nat.le_refl _)] at h1
  simp -implicitDefEqProofs [run_eq, ir_standing, h1]
end TL

namespace TL
open PySem PySem.Spec PyProof.Rows L2

@[simp] theorem atI_0 {x : D} {xs : List D} : atI (x :: xs) 0 = some x := atI_nat' (i := 0)
@[simp] theorem atI_1 {x y : D} {xs : List D} : atI (x :: y :: xs) 1 = some y := atI_nat' (i := 1)
@[simp] theorem atI_2 {x y z : D} {xs : List D} : atI (x :: y :: z :: xs) 2 = some z := atI_nat' (i := 2)
@[simp] theorem atI_3 {x y z u : D} {xs : List D} : atI (x :: y :: z :: u :: xs) 3 = some u := atI_nat' (i := 3)
/-! ### a tent -/
def whereD (l : List Int) : List (Key × D) := (firsts l).map fun s => (.inl s, .lst .fz (natsL (placesL s l)))
theorem whereD_of {l : List Int} : (whereL l).map (fun p => (p.1, D.lst .fz p.2)) = whereD l := by
  unfold whereL whereD
  rw [List.map_map]
  rfl
theorem whereD_keys {l : List Int} : (whereD l).map (fun p => keyD p.1) = (firsts l).map .int := by
  unfold whereD
  rw [List.map_map]
  rfl
theorem dget_map {l : List Int} {f : Int → D} {s : Int} : dget (l.map fun t => ((Sum.inl t : Key), f t)) (Sum.inl s) = if s ∈ l then some (f s) else none := by
  induction l with
  | nil => rfl
  | cons a l ih =>
    rw [List.map_cons, dget]
    by_cases h : a = s
    · subst h
      rw [if_pos rfl, if_pos List.mem_cons_self]
    · rw [if_neg (fun e => h (Sum.inl.inj e)), ih]
      by_cases h2 : s ∈ l
      · rw [if_pos h2, if_pos (List.mem_cons_of_mem _ h2)]
      · rw [if_neg h2, if_neg (fun e => (List.mem_cons.mp e).elim (fun z => h z.symm) h2)]
theorem whereD_get {l : List Int} {s : Int} : dget (whereD l) (Sum.inl s : Key) = if s ∈ l then some (.lst .fz (natsL (placesL s l))) else none := by
  unfold whereD
  rw [dget_map]
  simp only [firsts_mem]
theorem whereD_len {l : List Int} : (whereD l).length ≤ l.length := by
  unfold whereD
  rw [List.length_map]
  exact firsts_len
def tupCl (c : Cl) : D := .tup (c.1.map .int)
def tentO (w : W) (cs : List Cl) : D := .obj w 0 [(0, .lst .fz (cs.map tupCl)), (1, .dct .fz (whereD (flat cs)))]
@[simp] theorem frz_tentO {w : W} {cs : List Cl} : frz (tentO w cs) = tentO .fz cs := (rfl)
@[simp] theorem isLck_tentO {w : W} {cs : List Cl} : isLck (tentO w cs) = false := (rfl)
@[simp] theorem isOwn_tentO {cs : List Cl} : isOwn (tentO .fz cs) = false := (rfl)
@[simp] theorem isOwn_tentO' {cs : List Cl} : isOwn (tentO .own cs) = true := (rfl)
@[simp] theorem isObj_tentO {w : W} {cs : List Cl} : isObj 0 (tentO w cs) = true := (rfl)
@[simp] theorem fld0_tentO {w : W} {cs : List Cl} : fldK 0 0 false (tentO w cs) = some (.lst .fz (cs.map tupCl)) := (rfl)
@[simp] theorem fld1_tentO {w : W} {cs : List Cl} : fldK 0 1 false (tentO w cs) = some (.dct .fz (whereD (flat cs))) := (rfl)
@[simp] theorem safe_tentO {w : W} {cs : List Cl} : safe (tentO w cs) = false := (rfl)
def GoodS (l : List Int) (s : Int) : Prop := 0 ≤ s ∧ s ≤ 9999 ∧ (placesL s l).length ≤ 2
instance {l : List Int} {s : Int} : Decidable (GoodS l s) := by unfold GoodS; infer_instance
def GoodT (cs : List Cl) : Prop := cs ≠ [] ∧ ∀ s ∈ flat cs, GoodS (flat cs) s
instance {cs : List Cl} : Decidable (GoodT cs) := by unfold GoodT; infer_instance
structure Init (f : List D → FR) : Prop where
  good : ∀ cs, (flat cs).length ≤ 1000000 → cs.length ≤ 1000000 → GoodT cs → f [.obj .own 0 [], .lst .fz (cs.map encCl)] = .ok [tentO .own cs] .non
  bad : ∀ cs, (flat cs).length ≤ 1000000 → cs.length ≤ 1000000 → ¬ GoodT cs → ∃ ms, f [.obj .own 0 [], .lst .fz (cs.map encCl)] = .exn 1 ms
def Sp_Tent_init (f : List D → FR) : Prop := Init f
theorem init_in (T : Tbl) (hc : T.con 0 = .int 9999) (a b d4 : D) (l : List Int) : ∀ (ks : List Int) (d3 : D), (∀ s ∈ ks, s ∈ l) → ((∀ s ∈ ks, GoodS l s) → ∃ d3', fl T [0] (.one 3) ir_Tent_init_b1 (ks.map .int) [a, b, .dct .fz (whereD l), d3, d4] = .nx [a, b, .dct .fz (whereD l), d3', d4]) ∧
    (¬ (∀ s ∈ ks, GoodS l s) → ∃ ρ, fl T [0] (.one 3) ir_Tent_init_b1 (ks.map .int) [a, b, .dct .fz (whereD l), d3, d4] = .exn 1 ρ) := by
  intro ks
  induction ks with
  | nil => exact fun d3 _ => ⟨fun _ => ⟨d3, rfl⟩, fun h => absurd (fun s m => by cases m) h⟩
  | cons s ks ih =>
    intro d3 hm
    have ih' := ih (.int s) fun t m => hm t (List.mem_cons_of_mem _ m)
    have hs := hm s List.mem_cons_self
    have g1 : dget (whereD l) (Sum.inl s : Key) = some (.lst .fz (natsL (placesL s l))) := by rw [whereD_get, if_pos hs]
    by_cases hg : GoodS l s
    · obtain ⟨q1, q2, q3⟩ := hg
      have z1 : ¬ (s < 0) := by omega
      have z2 : ¬ (9999 < s) := by omega
      have z3 : ¬ (2 < ((placesL s l).length : Int)) := by omega
      have step : fl T [0] (.one 3) ir_Tent_init_b1 ((s :: ks).map .int) [a, b, .dct .fz (whereD l), d3, d4] = fl T [0] (.one 3) ir_Tent_init_b1 (ks.map .int) [a, b, .dct .fz (whereD l), .int s, d4] := by
        rw [List.map_cons, fl_cons]
        simp -implicitDefEqProofs [ir_Tent_init_b1, g1, hc, z1, z2, z3]
      rw [step]
      refine ⟨fun h => ih'.1 fun t m => h t (List.mem_cons_of_mem _ m), fun h => ih'.2 fun h2 => h fun t m => ?_⟩
      rcases List.mem_cons.mp m with rfl | m
      · exact ⟨q1, q2, q3⟩
      · exact h2 t m
    · refine ⟨fun h => absurd (h s List.mem_cons_self) hg, fun _ => ⟨[a, b, .dct .fz (whereD l), .int s, d4], ?_⟩⟩
      rw [List.map_cons, fl_cons]
      by_cases z1 : s < 0
      · simp -implicitDefEqProofs [ir_Tent_init_b1, z1]
      · by_cases z2 : 9999 < s
        · simp -implicitDefEqProofs [ir_Tent_init_b1, g1, hc, z1, z2]
        · have z3 : 2 < ((placesL s l).length : Int) := by
            unfold GoodS at hg
            omega
          simp -implicitDefEqProofs [ir_Tent_init_b1, g1, hc, z1, z2, z3]
theorem tuple_encCl {c : Cl} : ap_tuple [encCl c] = some (tupCl c) := by
  unfold encCl tupCl
  split <;> rfl
theorem ok_Tent_init (T : Tbl) (h0 : Sp_standing (T.F 0)) (u0 : T.muts 0 = []) (hc : T.con 0 = .int 9999) : Sp_Tent_init (run T ir_Tent_init) := by
  have core : ∀ cs : List Cl, (flat cs).length ≤ 1000000 → cs.length ≤ 1000000 → cs ≠ [] → _ := fun cs h1 h2 h3 => init_in T hc (.obj .own 0 []) (.lst .fz (cs.map encCl)) .und (flat cs) (firsts (flat cs)) .und fun s m => firsts_mem.mp m
  refine ⟨fun cs h1 h2 h3 => ?_, fun cs h1 h2 h3 => ?_⟩
  · obtain ⟨d3, e⟩ := (core cs h1 h2 h3.1).1 fun s m => h3.2 s (firsts_mem.mp m)
    have s0 := h0 cs h1
    have hl : ¬ ((cs.length : Int) = 0) := by
      have := List.length_pos_iff.mpr h3.1
      omega
    have hl' : cs.length ≠ 0 := by omega
    have l1 : lenOk cs.length = true := lenOk_le h2
    have cm := cl_enc (T := T) (i := 4) (elt := ir_Tent_init_e1) (ρ := [.obj .own 0 [], .lst .fz (cs.map encCl), .dct .fz (whereD (flat cs)), d3, .und]) encCl cs tupCl (fun c m => by
      refine ⟨?_, rfl⟩
      have l0 := isLck_encCl (c := c)
      simp -implicitDefEqProofs [ir_Tent_init_e1, tuple_encCl, l0])
    simp at cm
    have ec : (cs.map fun a => frz (tupCl a)) = cs.map tupCl := List.map_congr_left fun c _ => rfl
    rw [ec] at cm
    simp -implicitDefEqProofs [run_eq, ir_Tent_init, hl, h3.1, u0, s0, whereD_of, whereD_keys, e, cm, l1]
    rfl
  · by_cases hn : cs = []
    · subst hn
      refine ⟨[.obj .own 0 []], ?_⟩
      simp -implicitDefEqProofs [run_eq, ir_Tent_init]
    · obtain ⟨ρ, e⟩ := (core cs h1 h2 hn).2 fun h => h3 ⟨hn, fun s m => h s (firsts_mem.mpr m)⟩
      have s0 := h0 cs h1
      refine ⟨pick [0] ρ, ?_⟩
      simp -implicitDefEqProofs [run_eq, ir_Tent_init, hn, u0, s0, whereD_of, whereD_keys, e]
structure Places (f : List D → FR) : Prop where
  yes : ∀ cs s, s ∈ flat cs → f [tentO .fz cs, .int s] = .ok [] (.lst .own (natsL (placesL s (flat cs))))
  no : ∀ cs s, s ∉ flat cs → f [tentO .fz cs, .int s] = .exn 3 []
def Sp_Tent_places (f : List D → FR) : Prop := Places f
theorem ok_Tent_places (T : Tbl) : Sp_Tent_places (run T ir_Tent_places) := by
  refine ⟨fun cs s h => ?_, fun cs s h => ?_⟩
  · have g1 : dget (whereD (flat cs)) (Sum.inl s : Key) = some (.lst .fz (natsL (placesL s (flat cs)))) := by rw [whereD_get, if_pos h]
    simp -implicitDefEqProofs [run_eq, ir_Tent_places, g1]
  · have g1 : dget (whereD (flat cs)) (Sum.inl s : Key) = none := by rw [whereD_get, if_neg h]
    simp -implicitDefEqProofs [run_eq, ir_Tent_places, g1]
structure Square (f : List D → FR) : Prop where
  no : ∀ cs s, s ∉ flat cs → f [tentO .fz cs, .int s] = .exn 3 []
  rim : ∀ cs s p, placesL s (flat cs) = [p] → f [tentO .fz cs, .int s] = .exn 4 []
  lock : ∀ cs s p q, placesL s (flat cs) = [p, q] → p / 3 = q / 3 → f [tentO .fz cs, .int s] = .exn 5 []
  yes : ∀ cs s p q, placesL s (flat cs) = [p, q] → p / 3 ≠ q / 3 → f [tentO .fz cs, .int s] = .ok [] (.tup [.int (nxt p : Nat), .int (prv p : Nat), .int (nxt q : Nat), .int (prv q : Nat)])
def Sp_square (f : List D → FR) : Prop := Square f
theorem mem_of_places {s : Int} {l : List Int} {p : Nat} (h : p ∈ placesL s l) : s ∈ l := by
  obtain ⟨h1, h2⟩ := placesL_mem.mp h
  rw [← h2, List.getD_eq_getElem?_getD, List.getElem?_eq_getElem h1]
  exact List.getElem_mem h1
theorem ok_square (T : Tbl) (h3 : Sp_Tent_places (T.F 3)) (h32 : Sp_after (T.F 32)) (h33 : Sp_before (T.F 33)) (m3 : T.mc 3 = 0) (u3 : T.muts 3 = []) (u32 : T.muts 32 = []) (u33 : T.muts 33 = []) : Sp_square (run T ir_square) := by
  have d3 : divOk 3 = true := divOk_lit (by decide) (by decide)
  refine ⟨fun cs s h => ?_, fun cs s p h => ?_, fun cs s p q h z => ?_, fun cs s p q h z => ?_⟩
  · have e := h3.no cs s h
    simp -implicitDefEqProofs [run_eq, ir_square, m3, u3, e]
  · have e := h3.yes cs s (mem_of_places (p := p) (by rw [h]; exact List.mem_cons_self))
    rw [h] at e
    simp at e
    simp -implicitDefEqProofs [run_eq, ir_square, m3, u3, e]
  · have e := h3.yes cs s (mem_of_places (p := p) (by rw [h]; exact List.mem_cons_self))
    rw [h] at e
    simp at e
    have z' : (p : Int) / 3 = (q : Int) / 3 := by omega
    simp -implicitDefEqProofs [run_eq, ir_square, m3, u3, e, d3, z']
  · have e := h3.yes cs s (mem_of_places (p := p) (by rw [h]; exact List.mem_cons_self))
    rw [h] at e
    simp at e
    have z' : ¬ ((p : Int) / 3 = (q : Int) / 3) := by omega
    have a1 := h32 p
    have a2 := h33 p
    have a3 := h32 q
    have a4 := h33 q
    simp -implicitDefEqProofs [run_eq, ir_square, m3, u3, u32, u33, e, d3, z', a1, a2, a3, a4]
end TL

namespace TL
open PySem PySem.Spec PyProof.Rows L2

/-! ### a law's tent, made -/
theorem filter_range_none {n : Nat} {f : Nat → Bool} (h : ∀ i, i < n → f i = false) : (List.range n).filter f = [] := by
  rw [List.filter_eq_nil_iff]
  intro i m
  rw [h i (List.mem_range.mp m)]
  exact Bool.false_ne_true
theorem filter_range_one {p : Nat} {f : Nat → Bool} : ∀ {n : Nat}, p < n → (∀ i, i < n → (f i = true ↔ i = p)) → (List.range n).filter f = [p]
  | n + 1, hp, h => by
    rw [List.range_succ, List.filter_append]
    by_cases e : n = p
    · subst e
      rw [filter_range_none (fun i hi => by
        cases e : f i with
        | false => rfl
        | true => have := (h i (by omega)).mp e; omega), List.filter_cons_of_pos ((h n (by omega)).mpr rfl)]
      rfl
    · rw [filter_range_one (by omega) (fun i hi => h i (by omega)), List.filter_cons_of_neg (fun z => e ((h n (by omega)).mp z))]
      rfl
theorem filter_range_two {p q : Nat} {f : Nat → Bool} : ∀ {n : Nat}, p < q → q < n → (∀ i, i < n → (f i = true ↔ i = p ∨ i = q)) → (List.range n).filter f = [p, q]
  | n + 1, hpq, hq, h => by
    rw [List.range_succ, List.filter_append]
    by_cases e : n = q
    · subst e
      rw [filter_range_one (p := p) hpq (fun i hi => by rw [h i (by omega)]; omega), List.filter_cons_of_pos ((h n (by omega)).mpr (.inr rfl))]
      rfl
    · rw [filter_range_two hpq (by omega) (fun i hi => h i (by omega)), List.filter_cons_of_neg (fun z => by have := (h n (by omega)).mp z; omega)]
      rfl
def csOf (m : Nat) (nm : Nat → Int) : List Cl := (List.range m).map fun k => ([nm (3 * k), nm (3 * k + 1), nm (3 * k + 2)], true)
@[simp] theorem csOf_len {m : Nat} {nm : Nat → Int} : (csOf m nm).length = m := by simp [csOf]
theorem rowsL_cs {m : Nat} {nm : Nat → Int} : rowsL m nm = (csOf m nm).map encCl := by
  unfold rowsL csOf tabD
  rw [List.map_map]
  rfl
theorem cs_tup {m : Nat} {nm : Nat → Int} : (csOf m nm).map tupCl = rowsL m nm := by
  unfold rowsL csOf tabD
  rw [List.map_map]
  rfl
theorem flat_cs {m : Nat} {nm : Nat → Int} : flat (csOf m nm) = (List.range (3 * m)).map nm := by
  induction m with
  | zero => rfl
  | succ m ih =>
    have e : csOf (m + 1) nm = csOf m nm ++ [([nm (3 * m), nm (3 * m + 1), nm (3 * m + 2)], true)] := by
      unfold csOf
      rw [List.range_succ, List.map_append]
      rfl
    have e2 : 3 * (m + 1) = 3 * m + 1 + 1 + 1 := by omega
    rw [e, flat_snoc, ih, e2, List.range_succ, List.range_succ, List.range_succ]
    simp
theorem flat_cs_len {m : Nat} {nm : Nat → Int} : (flat (csOf m nm)).length = 3 * m := by rw [flat_cs]; simp
theorem flat_cs_get {m : Nat} {nm : Nat → Int} {p : Nat} (h : p < 3 * m) : (flat (csOf m nm)).getD p 0 = nm p := by
  rw [flat_cs]
  simp [h]
theorem flat_cs_mem {m : Nat} {nm : Nat → Int} {s : Int} : s ∈ flat (csOf m nm) ↔ ∃ p, p < 3 * m ∧ nm p = s := by
  rw [flat_cs]
  simp
section
variable {m : Nat} {mt : Nat → Option Nat} {nm : Nat → Int}
theorem places_fun {s : Int} : placesL s (flat (csOf m nm)) = (List.range (3 * m)).filter fun i => decide (nm i = s) := by
  unfold placesL
  rw [flat_cs_len]
  refine List.filter_congr fun p hp => ?_
  rw [flat_cs_get (List.mem_range.mp hp)]
theorem TentOk.rim (h : TentOk m mt nm) {p : Nat} (hp : p < 3 * m) (e : mt p = none) : placesL (nm p) (flat (csOf m nm)) = [p] := by
  rw [places_fun]
  refine filter_range_one hp fun i hi => ?_
  rw [decide_eq_true_iff]
  constructor
  · intro z
    rcases (h.eq p i hp hi).mp z.symm with z | z
    · exact z.symm
    · rw [e] at z; cases z
  · intro z; rw [z]
theorem TentOk.two (h : TentOk m mt nm) {p q : Nat} (e : mt p = some q) (hpq : p < q) : placesL (nm p) (flat (csOf m nm)) = [p, q] := by
  rw [places_fun]
  obtain ⟨hp, hq⟩ := h.mates.lt p q e
  refine filter_range_two hpq hq fun i hi => ?_
  rw [decide_eq_true_iff]
  constructor
  · intro z
    rcases (h.eq p i hp hi).mp z.symm with z | z
    · exact .inl z.symm
    · rw [e] at z; cases z; exact .inr rfl
  · rintro (z | z)
    · rw [z]
    · rw [z]; exact ((h.eq p q hp hq).mpr (.inr e)).symm
theorem TentOk.same (h : TentOk m mt nm) {p q : Nat} (e : mt p = some q) : nm q = nm p := by
  obtain ⟨hp, hq⟩ := h.mates.lt p q e
  exact ((h.eq p q hp hq).mpr (.inr e)).symm
theorem TentOk.two' (h : TentOk m mt nm) {p q : Nat} (e : mt p = some q) (hpq : q < p) : placesL (nm p) (flat (csOf m nm)) = [q, p] := by
  have e2 := h.mates.sy p q e
  have := h.two e2 hpq
  rw [h.same e] at this
  exact this
theorem TentOk.good (h : TentOk m mt nm) : GoodT (csOf m nm) := by
  refine ⟨?_, fun s hs => ?_⟩
  · intro z
    have : (csOf m nm).length = 0 := by rw [z]; rfl
    rw [csOf_len] at this
    have := h.pos
    omega
  · obtain ⟨p, hp, e⟩ := flat_cs_mem.mp hs
    subst e
    refine ⟨(h.nm0 p).1, (h.nm0 p).2, ?_⟩
    cases e : mt p with
    | none => rw [h.rim hp e]; simp
    | some q =>
      have ne := h.mates.ne p q e
      rcases Nat.lt_or_gt_of_ne ne with z | z
      · rw [h.two e z]; exact Nat.le_refl _
      · rw [h.two' e z]; exact Nat.le_refl _
/-- what a law's Tent(list(rows)) answers -/
theorem TentOk.make (h : TentOk m mt nm) {f : List D → FR} (hf : Sp_Tent_init f) : f [.obj .own 0 [], .lst .fz (rowsL m nm)] = .ok [tentO .own (csOf m nm)] .non := by
  rw [rowsL_cs]
  have hl := h.le
  exact hf.good _ (by rw [flat_cs_len]; omega) (by rw [csOf_len]; omega) h.good
end
theorem freeL_mem {n : Nat} {mt : Nat → Option Nat} {p : Nat} : p ∈ freeL n mt ↔ p < n ∧ ∃ q, mt p = some q ∧ p < q ∧ p / 3 ≠ q / 3 := by
  unfold freeL
  rw [List.mem_filter, List.mem_filter, List.mem_range]
  unfold lowB freeB
  cases e : mt p with
  | none => simp
  | some q => simp; omega
theorem freeL_len {n : Nat} {mt : Nat → Option Nat} : (freeL n mt).length ≤ n := by
  unfold freeL
  exact Nat.le_trans (List.length_filter_le _ _) len_filter_range
end TL

namespace TL
open PySem PySem.Spec PyProof.Rows L2

/-! ### a loop that may be left with an answer -/
theorem fl_or {T : Tbl} {C : List Nat} {g : Tg} {b : List IS} {xs ρ : List D} (P : Nat → List D → Prop) (R : D → Prop)
    (step : ∀ i (h : i < xs.length) ρ, P i ρ → ∃ ρ1, store1 g xs[i] ρ = some ρ1 ∧ ((∃ ρ2, (execs T C b ρ1 = .nx ρ2 ∨ execs T C b ρ1 = .ct ρ2) ∧ P (i + 1) ρ2) ∨ ∃ ρ2 d, execs T C b ρ1 = .rt ρ2 d ∧ R d)) (h0 : P 0 ρ) :
    (∃ ρ', fl T C g b xs ρ = .nx ρ' ∧ P xs.length ρ') ∨ ∃ ρ' d, fl T C g b xs ρ = .rt ρ' d ∧ R d := by
  induction xs generalizing P ρ with
  | nil => exact .inl ⟨ρ, rfl, h0⟩
  | cons x xs ih =>
    obtain ⟨ρ1, h1, h2⟩ := step 0 (Nat.succ_pos _) ρ h0
    have h1' : store1 g x ρ = some ρ1 := h1
    rw [fl_cons, h1', optO_some]
    rcases h2 with ⟨ρ2, h2, h3⟩ | ⟨ρ2, d, h2, h3⟩
    · have h4 : loopK (execs T C b ρ1) (fl T C g b xs) = fl T C g b xs ρ2 := by rcases h2 with h2 | h2 <;> rw [h2] <;> rfl
      rw [h4]
      exact ih (fun i => P (i + 1)) (fun i h ρ hp => step (i + 1) (Nat.succ_lt_succ h) ρ hp) h3
    · exact .inr ⟨ρ2, d, by rw [h2]; rfl, h3⟩
theorem rangeD_encF {lo : Nat} {n : Nat} : rangeD (lo : Int) n = (List.range n).map fun (k : Nat) => D.int ((lo + k : Nat) : Int) := by
  unfold rangeD
  exact List.map_congr_left fun i _ => by congr 1
/-! ### places that turn about a square -/
def turnF (a b c d : Nat) (l : Bool) (x : Nat) : Nat :=
  if l = true then (if x = a then d else if x = d then c else if x = c then b else if x = b then a else x)
  else (if x = a then b else if x = b then c else if x = c then d else if x = d then a else x)
structure Four (n a b c d : Nat) : Prop where
  an : a < n
  bn : b < n
  cn : c < n
  dn : d < n
  ab : a ≠ b
  ac : a ≠ c
  ad : a ≠ d
  bc : b ≠ c
  bd : b ≠ d
  cd : c ≠ d
theorem Four.lt {n a b c d x : Nat} (h : Four n a b c d) (l : Bool) (hx : x < n) : turnF a b c d l x < n := by
  obtain ⟨h1, h2, h3, h4, _⟩ := h
  unfold turnF
  cases l <;> simp only [if_true, if_false, Bool.false_eq_true] <;> (repeat' split) <;> omega
theorem Four.inv {n a b c d : Nat} (h : Four n a b c d) (l : Bool) (x : Nat) : turnF a b c d (!l) (turnF a b c d l x) = x := by
  obtain ⟨h1, h2, h3, h4, h5, h6, h7, h8, h9, h10⟩ := h
  unfold turnF
  cases l <;> simp only [if_true, if_false, Bool.false_eq_true, Bool.not_true, Bool.not_false] <;> (repeat' split) <;> omega
theorem Four.inv' {n a b c d : Nat} (h : Four n a b c d) (l : Bool) (x : Nat) : turnF a b c d l (turnF a b c d (!l) x) = x := by
  have := h.inv (!l) x
  rw [Bool.not_not] at this
  exact this
theorem Four.iff {n a b c d : Nat} (h : Four n a b c d) (l : Bool) (x y : Nat) : y = turnF a b c d l x ↔ turnF a b c d (!l) y = x := by
  constructor
  · intro e; rw [e]; exact h.inv l x
  · intro e; rw [← e]; exact (h.inv' l y).symm
def turnP (p q : Nat) (l : Bool) (x : Nat) : Nat := turnF (nxt p) (prv p) (nxt q) (prv q) l x
theorem four_of {m p q : Nat} (hp : p < 3 * m) (hq : q < 3 * m) (h : p / 3 ≠ q / 3) : Four (3 * m) (nxt p) (prv p) (nxt q) (prv q) := by
  unfold nxt prv
  constructor <;> omega
theorem turnP_symm {p q : Nat} (h : p / 3 ≠ q / 3) (l : Bool) (x : Nat) : turnP p q l x = turnP q p l x := by
  obtain ⟨h1, h2, h3, h4, h5, h6, h7, h8, h9, h10⟩ := four_of (m := p + q + 1) (p := p) (q := q) (by omega) (by omega) h
  unfold turnP turnF
  cases l <;> simp only [if_true, if_false, Bool.false_eq_true] <;> (repeat' split) <;> omega
/-- a tent's places, moved -/
theorem TentOk.moved {m : Nat} {mt : Nat → Option Nat} {nm : Nat → Int} (t : TentOk m mt nm) (g h : Nat → Nat) (hl : ∀ x, x < 3 * m → g x < 3 * m) (hl2 : ∀ x, x < 3 * m → h x < 3 * m) (i1 : ∀ x, h (g x) = x) (i2 : ∀ x, g (h x) = x) : TentOk m (fun y => (mt (h y)).map g) (fun y => nm (h y)) := by
  have key : ∀ y r, (mt (h y)).map g = some r ↔ mt (h y) = some (h r) := fun y r => by
    cases e : mt (h y) with
    | none => simp
    | some z =>
      simp only [Option.map_some, Option.some.injEq]
      constructor
      · intro e2; rw [← e2, i1]
      · intro e2; rw [e2, i2]
  have bnd : ∀ y, h y < 3 * m → y < 3 * m := fun y hy => by
    have := hl _ hy
    rw [i2] at this
    exact this
  refine ⟨t.pos, t.le, ⟨fun p q e => ?_, fun p q e => ?_, fun p q e => ?_⟩, fun p => t.nm0 _, fun p q hp hq => ?_⟩
  · have := t.mates.lt _ _ ((key p q).mp e)
    exact ⟨bnd _ this.1, bnd _ this.2⟩
  · intro z
    exact t.mates.ne _ _ ((key p q).mp e) (by rw [z])
  · exact (key q p).mpr (t.mates.sy _ _ ((key p q).mp e))
  · show nm (h p) = nm (h q) ↔ _
    rw [t.eq _ _ (hl2 _ hp) (hl2 _ hq)]
    show _ ↔ p = q ∨ (mt (h p)).map g = some q
    rw [key p q]
    constructor
    · rintro (e | e)
      · left; rw [← i2 p, e, i2]
      · exact .inr e
    · rintro (e | e)
      · left; rw [e]
      · exact .inr e
def mtT (p q : Nat) (l : Bool) (mt : Nat → Option Nat) (y : Nat) : Option Nat := (mt (turnP p q (!l) y)).map (turnP p q l)
def nmT (p q : Nat) (l : Bool) (nm : Nat → Int) (y : Nat) : Int := nm (turnP p q (!l) y)
theorem TentOk.turn {m : Nat} {mt : Nat → Option Nat} {nm : Nat → Int} (t : TentOk m mt nm) {p q : Nat} (e : mt p = some q) (h : p / 3 ≠ q / 3) (l : Bool) : TentOk m (mtT p q l mt) (nmT p q l nm) := by
  obtain ⟨hp, hq⟩ := t.mates.lt p q e
  have f := four_of hp hq h
  exact t.moved (turnP p q l) (turnP p q (!l)) (fun x => f.lt l) (fun x => f.lt (!l)) (fun x => f.inv l x) (fun x => f.inv' l x)
/-! ### ways -/
def wayD (l : Bool) : D := if l = true then .str "left" else .str "right"
@[simp] theorem isLck_way {l : Bool} : isLck (wayD l) = false := by cases l <;> rfl
@[simp] theorem isOwn_way {l : Bool} : isOwn (wayD l) = false := by cases l <;> rfl
@[simp] theorem frz_way {l : Bool} : frz (wayD l) = wayD l := by cases l <;> rfl
@[simp] theorem safe_way {l : Bool} : safe (wayD l) = true := by cases l <;> rfl
def Sp_way (f : List D → FR) : Prop := ∀ l, f [.bl l] = .ok [] (wayD l)
theorem ok_way (T : Tbl) : Sp_way (run T ir_law_way) := fun l => by
  cases l <;> simp -implicitDefEqProofs [run_eq, ir_law_way, wayD]
def Sp_contrary (f : List D → FR) : Prop := ∀ l, f [wayD l] = .ok [] (wayD (!l))
theorem ok_contrary (T : Tbl) : Sp_contrary (run T ir_contrary) := fun l => by
  cases l <;> simp -implicitDefEqProofs [run_eq, ir_contrary, wayD]
/-! ### a tent asked -/
def Sp_Tent_size (f : List D → FR) : Prop := ∀ cs, f [tentO .fz cs] = .ok [] (.int (cs.length : Nat))
theorem ok_Tent_size (T : Tbl) : Sp_Tent_size (run T ir_Tent_size) := fun cs => by
  simp -implicitDefEqProofs [run_eq, ir_Tent_size]
def Sp_Tent_rows (f : List D → FR) : Prop := ∀ cs, f [tentO .fz cs] = .ok [] (.lst .own (cs.map tupCl))
theorem ok_Tent_rows (T : Tbl) : Sp_Tent_rows (run T ir_Tent_rows) := fun cs => by
  simp -implicitDefEqProofs [run_eq, ir_Tent_rows]
structure SeamAt (f : List D → FR) : Prop where
  yes : ∀ m nm p, m ≤ 1000 → p < 3 * m → f [tentO .fz (csOf m nm), .int (p : Nat)] = .ok [] (.int (nm p))
  no : ∀ (m : Nat) nm (i : Int), m ≤ 1000 → (i < 0 ∨ 3 * (m : Int) ≤ i) → f [tentO .fz (csOf m nm), .int i] = .exn 2 []
def Sp_Tent_seam_at (f : List D → FR) : Prop := SeamAt f
theorem ok_Tent_seam_at (T : Tbl) : Sp_Tent_seam_at (run T ir_Tent_seam_at) := by
  refine ⟨fun m nm p hm hp => ?_, fun m nm i hm hi => ?_⟩
  · have d3 : divOk 3 = true := divOk_lit (by decide) (by decide)
    have m1 : mulOk 3 (m : Int) = true := mulOk_30 (by decide) (by omega)
    have h1 := rowsL_div (nm := nm) hp
    have h2 := rowD_at (nm := nm) (p := p)
    unfold rowD at h1
    have z1 : ¬ ((p : Int) < 0) := by omega
    have z2 : ¬ (3 * (m : Int) ≤ (p : Int)) := by omega
    simp -implicitDefEqProofs [run_eq, ir_Tent_seam_at, m1, d3, cs_tup, h1, h2, z1, z2]
  · have m1 : mulOk 3 (m : Int) = true := mulOk_30 (by decide) (by omega)
    by_cases z1 : i < 0
    · simp -implicitDefEqProofs [run_eq, ir_Tent_seam_at, z1]
    · have z2 : 3 * (m : Int) ≤ i := by omega
      simp -implicitDefEqProofs [run_eq, ir_Tent_seam_at, m1, cs_tup, z1, z2]
def Sp_Tent_mate (f : List D → FR) : Prop := ∀ m mt nm p, TentOk m mt nm → p < 3 * m → f [tentO .fz (csOf m nm), .int (p : Nat)] = .ok [] (optD (mt p))
theorem ok_Tent_mate (T : Tbl) (h21 : Sp_Tent_seam_at (T.F 21)) (m21 : T.mc 21 = 0) (u21 : T.muts 21 = []) : Sp_Tent_mate (run T ir_Tent_mate) := fun m mt nm p t hp => by
  have hl := t.le
  have e := h21.yes m nm p (by omega) hp
  have g1 : dget (whereD (flat (csOf m nm))) (Sum.inl (nm p) : Key) = some (.lst .fz (natsL (placesL (nm p) (flat (csOf m nm))))) := by rw [whereD_get, if_pos (flat_cs_mem.mpr ⟨p, hp, rfl⟩)]
  cases h : mt p with
  | none =>
    rw [t.rim hp h] at g1
    simp at g1
    simp -implicitDefEqProofs [run_eq, ir_Tent_mate, m21, u21, e, g1]
  | some q =>
    have ne := t.mates.ne p q h
    rcases Nat.lt_or_gt_of_ne ne with z | z
    · rw [t.two h z] at g1
      simp at g1
      simp -implicitDefEqProofs [run_eq, ir_Tent_mate, m21, u21, e, g1]
    · rw [t.two' h z] at g1
      simp at g1
      have ne' : ¬ ((q : Int) = (p : Int)) := by omega
      simp -implicitDefEqProofs [run_eq, ir_Tent_mate, m21, u21, e, g1, ne']
end TL

namespace TL
open PySem PySem.Spec PyProof.Rows L2

/-! ### exchanges -/
/-- the dict of a square's turn -/
def turnK (a b c d : Nat) (l : Bool) : List (Key × D) :=
  if l = true then [(.inl (a : Int), .int (d : Int)), (.inl (d : Int), .int (c : Int)), (.inl (c : Int), .int (b : Int)), (.inl (b : Int), .int (a : Int))]
  else [(.inl (a : Int), .int (b : Int)), (.inl (b : Int), .int (c : Int)), (.inl (c : Int), .int (d : Int)), (.inl (d : Int), .int (a : Int))]
theorem inl_nat {a b : Nat} : ((Sum.inl (a : Int) : Key) = Sum.inl (b : Int)) ↔ a = b := by
  constructor
  · intro h
    have := Sum.inl.inj h
    omega
  · intro h; rw [h]
theorem turnK_get {n a b c d : Nat} (h : Four n a b c d) (l : Bool) (x : Nat) : (dget (turnK a b c d l) (Sum.inl (x : Int) : Key)).getD (.int (x : Int)) = .int (turnF a b c d l x : Nat) := by
  obtain ⟨h1, h2, h3, h4, h5, h6, h7, h8, h9, h10⟩ := h
  unfold turnK turnF
  cases l <;> simp only [if_true, if_false, Bool.false_eq_true, dget, inl_nat] <;> (repeat' split) <;> first | rfl | (exfalso; omega)
theorem pairs4 {a b c d : Int} {x y z w : D} : pairsOf [.int a, x, .int b, y, .int c, z, .int d, w] = some [((.inl a : Key), x), (.inl b, y), (.inl c, z), (.inl d, w)] := rfl
theorem put4 {a b c d : Key} {x y z w : D} (h1 : a ≠ b) (h2 : a ≠ c) (h3 : a ≠ d) (h4 : b ≠ c) (h5 : b ≠ d) (h6 : c ≠ d) : List.foldl (fun (e : List (Key × D)) p => dput e p.1 p.2) [] [(a, x), (b, y), (c, z), (d, w)] = [(a, x), (b, y), (c, z), (d, w)] := by
  simp [dput, dget, h1, h2, h3, h4, h5, h6]
theorem put4i {a b c d : Nat} {x y z w : D} (h1 : a ≠ b) (h2 : a ≠ c) (h3 : a ≠ d) (h4 : b ≠ c) (h5 : b ≠ d) (h6 : c ≠ d) : List.foldl (fun (e : List (Key × D)) p => dput e p.1 p.2) [] [((.inl (a : Int) : Key), x), (.inl (b : Int), y), (.inl (c : Int), z), (.inl (d : Int), w)] = [(.inl (a : Int), x), (.inl (b : Int), y), (.inl (c : Int), z), (.inl (d : Int), w)] :=
  put4 (fun z => h1 (inl_nat.mp z)) (fun z => h2 (inl_nat.mp z)) (fun z => h3 (inl_nat.mp z)) (fun z => h4 (inl_nat.mp z)) (fun z => h5 (inl_nat.mp z)) (fun z => h6 (inl_nat.mp z))
theorem left_ne : ¬ (Str.ofString "right" = Str.ofString "left") := by decide
structure Shifts (f : List D → FR) : Prop where
  way : ∀ cs s z, z ≠ Str.ofString "left" → z ≠ Str.ofString "right" → f [tentO .fz cs, .int s, .str z] = .exn 6 []
  no : ∀ cs s l, s ∉ flat cs → f [tentO .fz cs, .int s, wayD l] = .exn 3 []
  rim : ∀ cs s l p, placesL s (flat cs) = [p] → f [tentO .fz cs, .int s, wayD l] = .exn 4 []
  lock : ∀ cs s l p q, placesL s (flat cs) = [p, q] → p / 3 = q / 3 → f [tentO .fz cs, .int s, wayD l] = .exn 5 []
  yes : ∀ cs s l p q, placesL s (flat cs) = [p, q] → p / 3 ≠ q / 3 → f [tentO .fz cs, .int s, wayD l] = .ok [] (.dct .own (turnK (nxt p) (prv p) (nxt q) (prv q) l))
def Sp_shifts (f : List D → FR) : Prop := Shifts f
theorem ok_shifts (T : Tbl) (h49 : Sp_square (T.F 49)) (u49 : T.muts 49 = []) : Sp_shifts (run T ir_shifts) := by
  refine ⟨fun cs s z z1 z2 => ?_, fun cs s l h => ?_, fun cs s l p h => ?_, fun cs s l p q h z => ?_, fun cs s l p q h z => ?_⟩
  · simp -implicitDefEqProofs [run_eq, ir_shifts, z1, z2]
  · have e := h49.no cs s h
    cases l <;> simp -implicitDefEqProofs [run_eq, ir_shifts, wayD, u49, e]
  · have e := h49.rim cs s p h
    cases l <;> simp -implicitDefEqProofs [run_eq, ir_shifts, wayD, u49, e]
  · have e := h49.lock cs s p q h z
    cases l <;> simp -implicitDefEqProofs [run_eq, ir_shifts, wayD, u49, e]
  · have e := h49.yes cs s p q h z
    obtain ⟨h1, h2, h3, h4, h5, h6, h7, h8, h9, h10⟩ := four_of (m := p + q + 1) (p := p) (q := q) (by omega) (by omega) z
    cases l
    · have g := put4i (x := .int (prv p : Nat)) (y := .int (nxt q : Nat)) (z := .int (prv q : Nat)) (w := .int (nxt p : Nat)) h5 h6 h7 h8 h9 h10
      simp -implicitDefEqProofs [run_eq, ir_shifts, wayD, u49, e, turnK, pairs4, g, left_ne]
    · have g := put4i (x := .int (prv q : Nat)) (y := .int (nxt q : Nat)) (z := .int (prv p : Nat)) (w := .int (nxt p : Nat)) h7 h6 h5 h10.symm h9.symm h8.symm
      simp -implicitDefEqProofs [run_eq, ir_shifts, wayD, u49, e, turnK, pairs4, g]
end TL

namespace TL
open PySem PySem.Spec PyProof.Rows L2

@[simp] theorem isLck_int' {i : Int} : isLck (.int i) = false := (rfl)
/-- a free seam's places, in the program's order -/
structure Free (m : Nat) (mt : Nat → Option Nat) (nm : Nat → Int) (p q : Nat) : Prop where
  ok : TentOk m mt nm
  e : mt p = some q
  ne : p / 3 ≠ q / 3
theorem Free.places {m : Nat} {mt : Nat → Option Nat} {nm : Nat → Int} {p q : Nat} (h : Free m mt nm p q) : (p < q ∧ placesL (nm p) (flat (csOf m nm)) = [p, q]) ∨ (q < p ∧ placesL (nm p) (flat (csOf m nm)) = [q, p]) := by
  have := h.ok.mates.ne p q h.e
  rcases Nat.lt_or_gt_of_ne this with z | z
  · exact .inl ⟨z, h.ok.two h.e z⟩
  · exact .inr ⟨z, h.ok.two' h.e z⟩
theorem Free.turns {m : Nat} {mt : Nat → Option Nat} {nm : Nat → Int} {p q : Nat} (h : Free m mt nm p q) {f : List D → FR} (hf : Sp_shifts f) (l : Bool) :
    ∃ kvs, f [tentO .fz (csOf m nm), .int (nm p), wayD l] = .ok [] (.dct .own kvs) ∧ ∀ x : Nat, (dget kvs (Sum.inl (x : Int) : Key)).getD (.int (x : Int)) = .int (turnP p q l x : Nat) := by
  obtain ⟨hp, hq⟩ := h.ok.mates.lt p q h.e
  rcases h.places with ⟨z, e⟩ | ⟨z, e⟩
  · exact ⟨_, hf.yes _ _ l p q e h.ne, fun x => turnK_get (four_of hp hq h.ne) l x⟩
  · refine ⟨_, hf.yes _ _ l q p e (fun y => h.ne y.symm), fun x => ?_⟩
    rw [turnP_symm h.ne]
    exact turnK_get (four_of hq hp (fun y => h.ne y.symm)) l x
theorem Free.lt {m : Nat} {mt : Nat → Option Nat} {nm : Nat → Int} {p q : Nat} (h : Free m mt nm p q) : p < 3 * m ∧ q < 3 * m := h.ok.mates.lt p q h.e
theorem Free.four {m : Nat} {mt : Nat → Option Nat} {nm : Nat → Int} {p q : Nat} (h : Free m mt nm p q) : Four (3 * m) (nxt p) (prv p) (nxt q) (prv q) := four_of h.lt.1 h.lt.2 h.ne
theorem Free.turn {m : Nat} {mt : Nat → Option Nat} {nm : Nat → Int} {p q : Nat} (h : Free m mt nm p q) (l : Bool) : TentOk m (mtT p q l mt) (nmT p q l nm) := h.ok.turn h.e h.ne l
/-- names written to the places where they go -/
def wroteF (g : Nat → Nat) (h : Nat → Nat) (k : Nat) {α : Type} (old new : Nat → α) (y : Nat) : α := if h y < k then new (h y) else old y
theorem wrote_step {g h : Nat → Nat} {k : Nat} {α : Type} {old new : Nat → α} (i1 : ∀ x, h (g x) = x) (i2 : ∀ x, g (h x) = x) (y : Nat) : (if y = g k then new k else wroteF g h k old new y) = wroteF g h (k + 1) old new y := by
  unfold wroteF
  by_cases e : y = g k
  · subst e
    rw [if_pos rfl, if_pos (by rw [i1]; omega), i1]
  · rw [if_neg e]
    have : h y ≠ k := fun z => e (by rw [← z, i2])
    by_cases z : h y < k
    · rw [if_pos z, if_pos (by omega)]
    · rw [if_neg z, if_neg (by omega)]
theorem dget_get {kvs : List (Key × D)} {x : Int} {z : D} (h : isOwn z = false) : ap_get [.dct .own kvs, .int x, z] = some ((dget kvs (.inl x)).getD z) := by
  show (if isOwn z = true then none else some ((dget kvs (.inl x)).getD z)) = _
  rw [h]; rfl
theorem tab3 {n : Nat} {f : Nat → Int} {k : Nat} (h : 3 * k + 2 < n) : atI (tabD n fun i => .int (f i)) (3 * (k : Int)) = some (.int (f (3 * k))) ∧ atI (tabD n fun i => .int (f i)) (3 * (k : Int) + 1) = some (.int (f (3 * k + 1))) ∧ atI (tabD n fun i => .int (f i)) (3 * (k : Int) + 2) = some (.int (f (3 * k + 2))) := by
  have e0 : 3 * (k : Int) = ((3 * k : Nat) : Int) := by omega
  have e1 : 3 * (k : Int) + 1 = ((3 * k + 1 : Nat) : Int) := by omega
  have e2 : 3 * (k : Int) + 2 = ((3 * k + 2 : Nat) : Int) := by omega
  exact ⟨by rw [e0]; exact atI_tab (by omega), by rw [e1]; exact atI_tab (by omega), by rw [e2]; exact atI_tab (by omega)⟩
structure Exch (f : List D → FR) : Prop where
  yes : ∀ m mt nm p q l, Free m mt nm p q → f [tentO .fz (csOf m nm), .int (nm p), wayD l] = .ok [] (tentO .own (csOf m (nmT p q l nm)))
def Sp_exchanged (f : List D → FR) : Prop := Exch f
theorem ok_exchanged (T : Tbl) (h1 : Sp_Tent_init (T.F 1)) (h50 : Sp_shifts (T.F 50)) (h23 : Sp_Tent_size (T.F 23)) (h21 : Sp_Tent_seam_at (T.F 21)) (u50 : T.muts 50 = []) (u23 : T.muts 23 = []) (u21 : T.muts 21 = []) (m23 : T.mc 23 = 0) (m21 : T.mc 21 = 0) : Sp_exchanged (run T ir_exchanged) := ⟨fun m mt nm p q l h => by
  have hl := h.ok.le
  obtain ⟨kvs, e1, e2⟩ := h.turns h50 l
  have e3 := h23 (csOf m nm)
  rw [csOf_len] at e3
  have m1 : mulOk 3 (m : Int) = true := mulOk_30 (by decide) (by omega)
  have l1 : lenOk (3 * m) = true := lenOk_le (by omega)
  have l2 : lenOk m = true := lenOk_le (by omega)
  have r1 : rng [.int (3 * (m : Int))] = some (0, 3 * m) := by
    have : 3 * (m : Int) = ((3 * m : Nat) : Int) := by omega
    rw [this]; exact rng_one (by omega)
  have r2 := rng_one (n := m) (by omega)
  have c1 := cl_range (T := T) (i := 7) (elt := ir_exchanged_e1) (n := 3 * m) (ρ := [tentO .fz (csOf m nm), .int (nm p), wayD l, .dct .own kvs, .int (3 * (m : Int)), .und, .und, .und, .und, .und]) (fun k => .int (nm k)) (fun k hk => by
    have a := h21.yes m nm k (by omega) hk
    refine ⟨?_, rfl⟩
    simp -implicitDefEqProofs [ir_exchanged_e1, m21, u21, a])
  simp at c1
  have f4 := h.four
  have i1 : ∀ x, turnP p q (!l) (turnP p q l x) = x := fun x => f4.inv l x
  have i2 : ∀ x, turnP p q l (turnP p q (!l) x) = x := fun x => f4.inv' l x
  obtain ⟨ρ1, w1, d7, w2⟩ := fl_range (T := T) (C := []) (i := 7) (b := ir_exchanged_b1) (n := 3 * m) (ρ := [tentO .fz (csOf m nm), .int (nm p), wayD l, .dct .own kvs, .int (3 * (m : Int)), .lst .own (tabD (3 * m) fun k => .int (nm k)), .lst .own (tabD (3 * m) fun k => .int (nm k)), .und, .und, .und])
    (fun k ρ => ∃ d7, ρ = [tentO .fz (csOf m nm), .int (nm p), wayD l, .dct .own kvs, .int (3 * (m : Int)), .lst .own (tabD (3 * m) fun k => .int (nm k)), .lst .own (tabD (3 * m) fun y => .int (wroteF (turnP p q l) (turnP p q (!l)) k nm nm y)), d7, .und, .und]) (fun k hk ρ ⟨d7, e⟩ => by
      subst e
      have a1 : atI (tabD (3 * m) fun k => D.int (nm k)) (k : Int) = some (.int (nm k)) := atI_tab hk
      have a2 := e2 k
      have a3 : ixN (3 * m) ((turnP p q l k : Nat) : Int) = some (turnP p q l k) := ixN_nat (f4.lt l hk)
      refine ⟨_, .inl ?_, .int k, rfl⟩
      have a4 : (tabD (3 * m) fun y => D.int (wroteF (turnP p q l) (turnP p q (!l)) k nm nm y)).set (turnP p q l k) (.int (nm k)) = tabD (3 * m) fun y => .int (wroteF (turnP p q l) (turnP p q (!l)) (k + 1) nm nm y) := by
        rw [tabD_set]
        refine tabD_congr fun i _ => ?_
        rw [← wrote_step (k := k) (old := nm) (new := nm) i1 i2]
        split <;> rfl
      simp -implicitDefEqProofs [ir_exchanged_b1, a1, a2, a3, a4]) ⟨.und, by
        congr 7
        ⟩
  subst w2
  have w3 : (tabD (3 * m) fun y => D.int (wroteF (turnP p q l) (turnP p q (!l)) (3 * m) nm nm y)) = tabD (3 * m) fun y => .int (nmT p q l nm y) := by
    refine tabD_congr fun i hi => ?_
    unfold wroteF nmT
    rw [if_pos (show turnP p q (!l) i < 3 * m from f4.lt (!l) hi)]
  rw [w3] at w1
  obtain ⟨ρ2, v1, d9, v2⟩ := fl_range (T := T) (C := []) (i := 9) (b := ir_exchanged_b2) (n := m) (ρ := [tentO .fz (csOf m nm), .int (nm p), wayD l, .dct .own kvs, .int (3 * (m : Int)), .lst .own (tabD (3 * m) fun k => .int (nm k)), .lst .own (tabD (3 * m) fun y => .int (nmT p q l nm y)), d7, .lst .own [], .und])
    (fun k ρ => ∃ d9, ρ = [tentO .fz (csOf m nm), .int (nm p), wayD l, .dct .own kvs, .int (3 * (m : Int)), .lst .own (tabD (3 * m) fun k => .int (nm k)), .lst .own (tabD (3 * m) fun y => .int (nmT p q l nm y)), d7, .lst .own (tabD k (rowD (nmT p q l nm))), d9]) (fun k hk ρ ⟨d9, e⟩ => by
      subst e
      have lk : lenOk k = true := lenOk_le (by omega)
      obtain ⟨a0, a1, a2⟩ := tab3 (n := 3 * m) (f := nmT p q l nm) (k := k) (by omega)
      have mk : mulOk 3 (k : Int) = true := mulOk_30 (by decide) (by omega)
      refine ⟨_, .inl ?_, .int k, rfl⟩
      rw [tabD_succ]
      simp -implicitDefEqProofs [ir_exchanged_b2, mk, a0, a1, a2, lk, rowD]) ⟨.und, rfl⟩
  subst v2
  have t2 := h.turn l
  have v3 := t2.make h1
  unfold rowsL at v3
  simp -implicitDefEqProofs [run_eq, ir_exchanged, u50, u23, m23, e1, e3, m1, r1, r2, l1, l2, c1, w1, v1, v3]⟩
end TL

namespace TL
open PySem PySem.Spec PyProof.Rows L2

def natT (n : Nat) (g : Nat → Nat) : List D := tabD n fun x => .int (g x : Nat)
theorem natT_at {n : Nat} {g : Nat → Nat} {x : Nat} (h : x < n) : atI (natT n g) (x : Int) = some (.int (g x : Nat)) := atI_tab h
@[simp] theorem natT_len {n : Nat} {g : Nat → Nat} : (natT n g).length = n := tabD_len
theorem natT_set {n j v : Nat} {g : Nat → Nat} : (natT n g).set j (.int (v : Nat)) = natT n fun x => if x = j then v else g x := by
  unfold natT
  rw [tabD_set]
  exact tabD_congr fun i _ => by by_cases h : i = j <;> simp [h]
theorem natT_congr {n : Nat} {g h : Nat → Nat} (e : ∀ x, x < n → g x = h x) : natT n g = natT n h := tabD_congr fun i hi => by rw [e i hi]
theorem natsL_range {n : Nat} : natsL (List.range n) = natT n id := rfl
def Sp_goals (f : List D → FR) : Prop := ∀ m mt nm p q l, Free m mt nm p q → f [.lst .fz (matesL (3 * m) mt), .int (p : Nat), .bl l] = .ok [] (.lst .own (natT (3 * m) (turnP p q l)))
theorem ok_goals (T : Tbl) (h66 : Sp_around (T.F 66)) (u66 : T.muts 66 = []) : Sp_goals (run T ir_law_goals) := fun m mt nm p q l h => by
  have hl := h.ok.le
  have f4 := h.four
  have e := h66 (3 * m) mt p q h.lt.1 h.e
  have r1 := rangeL_nat (n := 3 * m) (by omega)
  rw [natsL_range, show (((3 * m : Nat) : Int)) = 3 * (m : Int) by omega] at r1
  have r2 : rng [.int 4] = some (0, 4) := by decide
  have r3 : rangeD 0 4 = [.int 0, .int 1, .int 2, .int 3] := rfl
  have x1 := ixN_nat f4.an
  have x2 := ixN_nat f4.bn
  have x3 := ixN_nat f4.cn
  have x4 := ixN_nat f4.dn
  have s1 : (1 : Int) % 4 = 1 := by decide
  obtain ⟨h1, h2, h3, h4, h5, h6, h7, h8, h9, h10⟩ := f4
  simp at e
  cases l with
  | true =>
    have fin : (natT (3 * m) fun x => if x = prv q then nxt q else if x = nxt q then prv p else if x = prv p then nxt p else if x = nxt p then prv q else id x) = natT (3 * m) (turnP p q true) := natT_congr fun x hx => by
      unfold turnP turnF
      simp only [if_true, id]
      (repeat' split) <;> omega
    simp -implicitDefEqProofs [run_eq, ir_law_goals, u66, e, r1, r2, r3, fl_cons, fl_nil, ir_law_goals_b1, x1, x2, x3, x4, natT_set]
    exact fin
  | false =>
    have fin : (natT (3 * m) fun x => if x = prv q then nxt p else if x = nxt q then prv q else if x = prv p then nxt q else if x = nxt p then prv p else id x) = natT (3 * m) (turnP p q false) := natT_congr fun x hx => by
      unfold turnP turnF
      simp only [if_false, id, Bool.false_eq_true]
      (repeat' split) <;> omega
    simp -implicitDefEqProofs [run_eq, ir_law_goals, u66, e, r1, r2, r3, fl_cons, fl_nil, ir_law_goals_b1, x1, x2, x3, x4, natT_set, s1]
    exact fin
theorem list_row {nm : Nat → Int} {k : Nat} : AllInt [D.int (nm (3 * k)), .int (nm (3 * k + 1)), .int (nm (3 * k + 2))] := by
  intro x m
  simp at m
  rcases m with m | m | m <;> exact ⟨_, m⟩
def Sp_cloths (f : List D → FR) : Prop := ∀ m nm, m ≤ 1000 → f [.lst .fz (rowsL m nm), .lst .fz (rowsL m nm)] = .ok [] (.bl true)
theorem ok_cloths (T : Tbl) (h109 : Sp_list (T.F 109)) (u109 : T.muts 109 = []) : Sp_cloths (run T ir_law_cloths) := fun m nm hm => by
  have r1 := rng_one (n := m) (by omega)
  obtain ⟨ρ', h1, d, h2⟩ := fl_range (T := T) (C := []) (i := 2) (b := ir_law_cloths_b1) (n := m) (ρ := [.lst .fz (rowsL m nm), .lst .fz (rowsL m nm), .und])
    (fun k ρ => ∃ d, ρ = [.lst .fz (rowsL m nm), .lst .fz (rowsL m nm), d]) (fun k hk ρ ⟨d, e⟩ => by
      subst e
      have a := rowsL_at (nm := nm) hk
      have b := h109 _ (list_row (nm := nm) (k := k)) (by simp)
      unfold rowD at a
      refine ⟨_, .inl ?_, .int k, rfl⟩
      simp -implicitDefEqProofs [ir_law_cloths_b1, a, b, u109]) ⟨.und, rfl⟩
  subst h2
  simp -implicitDefEqProofs [run_eq, ir_law_cloths, r1, h1]
structure Moved (f : List D → FR) : Prop where
  yes : ∀ m mt nm p q l x, Free m mt nm p q → x < 3 * m → f [tentO .fz (csOf m nm), .int (nm p), wayD l, .int (x : Nat)] = .ok [] (.int (turnP p q l x : Nat))
  no : ∀ m mt nm p q l (i : Int), Free m mt nm p q → (i < 0 ∨ 3 * (m : Int) ≤ i) → f [tentO .fz (csOf m nm), .int (nm p), wayD l, .int i] = .exn 2 []
def Sp_moved (f : List D → FR) : Prop := Moved f
theorem ok_moved (T : Tbl) (h50 : Sp_shifts (T.F 50)) (h23 : Sp_Tent_size (T.F 23)) (u50 : T.muts 50 = []) (u23 : T.muts 23 = []) (m23 : T.mc 23 = 0) : Sp_moved (run T ir_moved) := by
  refine ⟨fun m mt nm p q l x h hx => ?_, fun m mt nm p q l i h hi => ?_⟩
  · have hl := h.ok.le
    obtain ⟨kvs, e1, e2⟩ := h.turns h50 l
    have e3 := h23 (csOf m nm)
    rw [csOf_len] at e3
    have m1 : mulOk 3 (m : Int) = true := mulOk_30 (by decide) (by omega)
    have z1 : ¬ ((x : Int) < 0) := by omega
    have z2 : ¬ (3 * (m : Int) ≤ (x : Int)) := by omega
    have a2 := e2 x
    simp -implicitDefEqProofs [run_eq, ir_moved, u50, u23, m23, e1, e3, m1, z1, z2, a2]
  · have hl := h.ok.le
    obtain ⟨kvs, e1, e2⟩ := h.turns h50 l
    have e3 := h23 (csOf m nm)
    rw [csOf_len] at e3
    have m1 : mulOk 3 (m : Int) = true := mulOk_30 (by decide) (by omega)
    by_cases z1 : i < 0
    · simp -implicitDefEqProofs [run_eq, ir_moved, u50, u23, m23, e1, e3, m1, z1]
    · have z2 : 3 * (m : Int) ≤ i := by omega
      simp -implicitDefEqProofs [run_eq, ir_moved, u50, u23, m23, e1, e3, m1, z1, z2]
def Sp_outside_k06 (f : List D → FR) : Prop := ∀ m mt nm p q l (i : Int), Free m mt nm p q → (i < 0 ∨ 3 * (m : Int) ≤ i) → f [tentO .fz (csOf m nm), .int (nm p), wayD l, .int i] = .ok [] (.bl true)
theorem ok_outside_k06 (T : Tbl) (h90 : Sp_moved (T.F 90)) (u90 : T.muts 90 = []) (k2 : T.kx 2 = true) (s2 : T.sub 2 2 = true) : Sp_outside_k06 (run T ir_law_outside_k06) := fun m mt nm p q l i h hi => by
  have e := h90.no m mt nm p q l i h hi
  simp -implicitDefEqProofs [run_eq, ir_law_outside_k06, u90, e, k2, s2, caught]
def Sp_shift (f : List D → FR) : Prop := ∀ m mt nm p q l, Free m mt nm p q → f [.lst .fz (matesL (3 * m) mt), .lst .fz (rowsL m nm), .lst .fz (natT (3 * m) (turnP p q l))] = .ok [] (.tup [.lst .fz (matesL (3 * m) (mtT p q l mt)), .lst .fz (rowsL m (nmT p q l nm))])
theorem matesL_def {n : Nat} {mt : Nat → Option Nat} : matesL n mt = tabD n fun i => optD (mt i) := rfl
theorem ok_shift (T : Tbl) : Sp_shift (run T ir_law_shift) := fun m mt nm p q l h => by
  have hl := h.ok.le
  have f4 := h.four
  have i1 : ∀ x, turnP p q (!l) (turnP p q l x) = x := fun x => f4.inv l x
  have i2 : ∀ x, turnP p q l (turnP p q (!l) x) = x := fun x => f4.inv' l x
  have d3 : divOk 3 = true := divOk_lit (by decide) (by decide)
  have r1 : rng [.int (3 * (m : Int))] = some (0, 3 * m) := by
    have : 3 * (m : Int) = ((3 * m : Nat) : Int) := by omega
    rw [this]; exact rng_one (by omega)
  have r2 := rng_one (n := m) (by omega)
  have l1 : lenOk (3 * m) = true := lenOk_le (by omega)
  have l2 : lenOk m = true := lenOk_le (by omega)
  have e3 : (3 * (m : Int)).toNat = 3 * m := by omega
  have c1 : -4611686018427387904 ≤ 3 * (m : Int) := by omega
  have c2 : 3 * (m : Int) < 4611686018427387904 := by omega
  have rp : repD (3 * m) [D.int 0] = tabD (3 * m) fun _ => .int 0 := repD_one
  have rq : repD (3 * m) [D.non] = tabD (3 * m) fun _ => .non := repD_one
  obtain ⟨ρ1, w1, d5, w2⟩ := fl_range (T := T) (C := []) (i := 5) (b := ir_law_shift_b1) (n := 3 * m) (ρ := [.lst .fz (matesL (3 * m) mt), .lst .fz (rowsL m nm), .lst .fz (natT (3 * m) (turnP p q l)), .lst .own (tabD (3 * m) fun _ => .int 0), .lst .own (tabD (3 * m) fun _ => .non), .und, .und])
    (fun k ρ => ∃ d5, ρ = [.lst .fz (matesL (3 * m) mt), .lst .fz (rowsL m nm), .lst .fz (natT (3 * m) (turnP p q l)), .lst .own (tabD (3 * m) fun y => .int (wroteF (turnP p q l) (turnP p q (!l)) k (fun _ => 0) nm y)), .lst .own (matesL (3 * m) (wroteF (turnP p q l) (turnP p q (!l)) k (fun _ => none) fun x => (mt x).map (turnP p q l))), d5, .und]) (fun k hk ρ ⟨d5, e⟩ => by
      subst e
      have a1 := rowsL_div (nm := nm) hk
      have a2 := rowD_at (nm := nm) (p := k)
      unfold rowD at a1
      have a3 : ixN (3 * m) ((turnP p q l k : Nat) : Int) = some (turnP p q l k) := ixN_nat (f4.lt l hk)
      have a4 := natT_at (g := turnP p q l) hk
      have a5 := matesL_at (mt := mt) hk
      have a6 : (tabD (3 * m) fun y => D.int (wroteF (turnP p q l) (turnP p q (!l)) k (fun _ => 0) nm y)).set (turnP p q l k) (.int (nm k)) = tabD (3 * m) fun y => .int (wroteF (turnP p q l) (turnP p q (!l)) (k + 1) (fun _ => 0) nm y) := by
        rw [tabD_set]
        refine tabD_congr fun i _ => ?_
        rw [← wrote_step (k := k) (old := fun _ => 0) (new := nm) i1 i2]
        split <;> rfl
      refine ⟨[.lst .fz (matesL (3 * m) mt), .lst .fz (rowsL m nm), .lst .fz (natT (3 * m) (turnP p q l)), .lst .own (tabD (3 * m) fun y => .int (wroteF (turnP p q l) (turnP p q (!l)) (k + 1) (fun _ => 0) nm y)), .lst .own (matesL (3 * m) (wroteF (turnP p q l) (turnP p q (!l)) (k + 1) (fun _ => none) fun x => (mt x).map (turnP p q l))), .int k, .und], .inl ?_, .int k, rfl⟩
      cases hq : mt k with
      | none =>
        rw [hq] at a5
        have a7 : matesL (3 * m) (wroteF (turnP p q l) (turnP p q (!l)) (k + 1) (fun _ => none) fun x => (mt x).map (turnP p q l)) = matesL (3 * m) (wroteF (turnP p q l) (turnP p q (!l)) k (fun _ => none) fun x => (mt x).map (turnP p q l)) := by
          refine tabD_congr fun i _ => ?_
          rw [← wrote_step (k := k) (old := fun _ => none) (new := fun x => (mt x).map (turnP p q l)) i1 i2]
          split
          · rename_i z
            subst z
            unfold wroteF
            rw [i1, if_neg (Nat.lt_irrefl _), hq]
            rfl
          · rfl
        rw [a7]
        simp -implicitDefEqProofs [ir_law_shift_b1, d3, a1, a2, a3, a4, a5, a6]
      | some r =>
        rw [hq] at a5
        have a5 : atI (matesL (3 * m) mt) (k : Int) = some (.int (r : Nat)) := a5
        have hr := (h.ok.mates.lt k r hq).2
        have a8 := natT_at (g := turnP p q l) hr
        have a7 : (matesL (3 * m) (wroteF (turnP p q l) (turnP p q (!l)) k (fun _ => none) fun x => (mt x).map (turnP p q l))).set (turnP p q l k) (.int (turnP p q l r : Nat)) = matesL (3 * m) (wroteF (turnP p q l) (turnP p q (!l)) (k + 1) (fun _ => none) fun x => (mt x).map (turnP p q l)) := by
          rw [matesL_def, tabD_set]
          refine tabD_congr fun i _ => ?_
          rw [← wrote_step (k := k) (old := fun _ => none) (new := fun x => (mt x).map (turnP p q l)) i1 i2]
          split
          · simp [hq]
          · rfl
        simp -implicitDefEqProofs [ir_law_shift_b1, d3, a1, a2, a3, a4, a5, a6, a8, a7]) ⟨.und, by
        congr 5⟩
  subst w2
  have w3 : (tabD (3 * m) fun y => D.int (wroteF (turnP p q l) (turnP p q (!l)) (3 * m) (fun _ => 0) nm y)) = tabD (3 * m) fun y => .int (nmT p q l nm y) := by
    refine tabD_congr fun i hi => ?_
    unfold wroteF nmT
    rw [if_pos (show turnP p q (!l) i < 3 * m from f4.lt (!l) hi)]
  have w4 : matesL (3 * m) (wroteF (turnP p q l) (turnP p q (!l)) (3 * m) (fun _ => none) fun x => (mt x).map (turnP p q l)) = matesL (3 * m) (mtT p q l mt) := by
    refine tabD_congr fun i hi => ?_
    unfold wroteF mtT
    rw [if_pos (show turnP p q (!l) i < 3 * m from f4.lt (!l) hi)]
  rw [w3, w4] at w1
  have cm := cl_range (T := T) (i := 6) (elt := ir_law_shift_e1) (n := m) (ρ := [.lst .fz (matesL (3 * m) mt), .lst .fz (rowsL m nm), .lst .fz (natT (3 * m) (turnP p q l)), .lst .own (tabD (3 * m) fun y => .int (nmT p q l nm y)), .lst .fz (matesL (3 * m) (mtT p q l mt)), d5, .und]) (rowD (nmT p q l nm)) (fun k hk => by
    obtain ⟨a0, a1, a2⟩ := tab3 (n := 3 * m) (f := nmT p q l nm) (k := k) (by omega)
    have mk : mulOk 3 (k : Int) = true := mulOk_30 (by decide) (by omega)
    refine ⟨?_, rfl⟩
    simp -implicitDefEqProofs [ir_law_shift_e1, mk, a0, a1, a2, rowD])
  simp at cm
  have ce : (tabD m fun k => frz (rowD (nmT p q l nm) k)) = rowsL m (nmT p q l nm) := rfl
  rw [ce] at cm
  simp -implicitDefEqProofs [run_eq, ir_law_shift, r1, r2, l1, l2, e3, c1, c2, rp, rq, w1, cm]
end TL

namespace TL
open PySem PySem.Spec PyProof.Rows L2

/-! ### a free seam drawn -/
theorem natsL_atI {l : List Nat} {j : Nat} (h : j < l.length) : atI (natsL l) (j : Int) = some (.int ((l[j] : Nat) : Int)) := by rw [atI_nat', natsL_get h]
theorem TentOk.pick {m : Nat} {mt : Nat → Option Nat} {nm : Nat → Int} (t : TentOk m mt nm) (h : (freeL (3 * m) mt).length ≠ 0) (x : Int) : ∃ p q, Free m mt nm p q ∧ p < q ∧ atI (natsL (freeL (3 * m) mt)) (x % ((freeL (3 * m) mt).length : Int)) = some (.int (p : Nat)) := by
  obtain ⟨j, hj, jl⟩ := mod_nat x (m := (freeL (3 * m) mt).length) (by omega)
  obtain ⟨hp, q, hq, hpq, hz⟩ := freeL_mem.mp (List.getElem_mem jl)
  exact ⟨_, q, ⟨t, hq, hz⟩, hpq, by rw [hj, natsL_atI jl]⟩
@[simp] theorem safe1_lst {w : W} {xs : List D} : safe1 (.lst w xs) = false := (rfl)
@[simp] theorem safe1_dct {w : W} {xs : List (Key × D)} : safe1 (.dct w xs) = false := (rfl)
theorem safe_tab {n : Nat} {f : Nat → D} (h : ∀ i, safe1 (f i) = true) : safe (.lst .own (tabD n f)) = true := by
  show (tabD n f).all safe1 = true
  rw [List.all_eq_true]
  intro x m
  obtain ⟨i, _, e⟩ := List.mem_map.mp m
  rw [← e]; exact h i
@[simp high] theorem safe_rows {m : Nat} {nm : Nat → Int} : safe (.lst .own (rowsL m nm)) = true := safe_tab fun i => rfl
@[simp high] theorem safe_mates {n : Nat} {mt : Nat → Option Nat} : safe (.lst .own (matesL n mt)) = true := safe_tab fun i => safe1_opt
@[simp high] theorem safe_natT {n : Nat} {g : Nat → Nat} : safe (.lst .own (natT n g)) = true := safe_tab fun i => rfl
@[simp high] theorem safe_nats {l : List Nat} : safe (.lst .own (natsL l)) = true := by
  show (natsL l).all safe1 = true
  rw [List.all_eq_true]
  intro x m
  obtain ⟨i, _, e⟩ := List.mem_map.mp m
  rw [← e]; rfl
@[simp] theorem ne_nn : ap_ne [D.non, .non] = some (.bl false) := (rfl)
@[simp] theorem eq_nn : ap_eq [D.non, .non] = some (.bl true) := (rfl)
@[simp] theorem len_script {ns : List Int} : ap_len [script ns] = some (.int (ns.length : Nat)) := by
  unfold script
  simp
theorem fl_encOr {T : Tbl} {C : List Nat} {α : Type} {i : Nat} {b : List IS} {ρ : List D} (enc : α → D) (l : List α) (P : Nat → List D → Prop) (R : D → Prop)
    (step : ∀ k (h : k < l.length) ρ, P k ρ → (∃ ρ2, (execs T C b (ρ.set i (enc l[k])) = .nx ρ2 ∨ execs T C b (ρ.set i (enc l[k])) = .ct ρ2) ∧ P (k + 1) ρ2) ∨ ∃ ρ2 d, execs T C b (ρ.set i (enc l[k])) = .rt ρ2 d ∧ R d) (h0 : P 0 ρ) :
    (∃ ρ', fl T C (.one i) b (l.map enc) ρ = .nx ρ' ∧ P l.length ρ') ∨ ∃ ρ' d, fl T C (.one i) b (l.map enc) ρ = .rt ρ' d ∧ R d := by
  have := fl_or (T := T) (C := C) (g := .one i) (b := b) (xs := l.map enc) P R (fun k h ρ p => by
    have hk : k < l.length := by simpa using h
    refine ⟨_, store1_one, ?_⟩
    rw [List.getElem_map]
    exact step k hk ρ p) h0
  rw [List.length_map] at this
  exact this
theorem fl_rangeOr {T : Tbl} {C : List Nat} {i : Nat} {b : List IS} {ρ : List D} {lo n : Nat} (P : Nat → List D → Prop) (R : D → Prop)
    (step : ∀ k, k < n → ∀ ρ, P k ρ → (∃ ρ2, (execs T C b (ρ.set i (.int ((lo + k : Nat) : Int))) = .nx ρ2 ∨ execs T C b (ρ.set i (.int ((lo + k : Nat) : Int))) = .ct ρ2) ∧ P (k + 1) ρ2) ∨ ∃ ρ2 d, execs T C b (ρ.set i (.int ((lo + k : Nat) : Int))) = .rt ρ2 d ∧ R d) (h0 : P 0 ρ) :
    (∃ ρ', fl T C (.one i) b (rangeD (lo : Int) n) ρ = .nx ρ' ∧ P n ρ') ∨ ∃ ρ' d, fl T C (.one i) b (rangeD (lo : Int) n) ρ = .rt ρ' d ∧ R d := by
  rw [rangeD_encF]
  have := fl_encOr (T := T) (C := C) (i := i) (b := b) (fun (k : Nat) => D.int ((lo + k : Nat) : Int)) (List.range n) P R (fun k h ρ p => by
    have hk : k < n := by simpa using h
    have := step k hk ρ p
    simpa using this) h0
  rw [List.length_range] at this
  exact this
def Sp_law (f : List D → FR) : Prop := ∀ ns, ns.length ≤ 63 → f [script ns] = .ok [] (.bl true)
end TL

namespace TL
open PySem PySem.Spec PyProof.Rows L2

/-! ### loops that decide -/
theorem fl_dec {T : Tbl} {C : List Nat} {α : Type} {i : Nat} {b : List IS} (enc : α → D) (l : List α) (p : Nat → Bool) (J : List D → Prop) {ρ : List D} (h0 : J ρ)
    (step : ∀ k (h : k < l.length) ρ, J ρ → (∀ j, j < k → p j = true) → (p k = true → ∃ ρ2, (execs T C b (ρ.set i (enc l[k])) = .nx ρ2 ∨ execs T C b (ρ.set i (enc l[k])) = .ct ρ2) ∧ J ρ2) ∧ (p k = false → ∃ ρ2, execs T C b (ρ.set i (enc l[k])) = .rt ρ2 (.bl false))) :
    (((List.range l.length).all p = true) ∧ ∃ ρ', fl T C (.one i) b (l.map enc) ρ = .nx ρ' ∧ J ρ') ∨ (((List.range l.length).all p = false) ∧ ∃ ρ', fl T C (.one i) b (l.map enc) ρ = .rt ρ' (.bl false)) := by
  have := fl_encOr (T := T) (C := C) (i := i) (b := b) (ρ := ρ) enc l (fun k ρ => J ρ ∧ ∀ j, j < k → p j = true) (fun d => d = .bl false ∧ ∃ k, k < l.length ∧ p k = false) (fun k h ρ ⟨hj, hp⟩ => by
    obtain ⟨s1, s2⟩ := step k h ρ hj hp
    cases e : p k with
    | true =>
      obtain ⟨ρ2, g1, g2⟩ := s1 e
      exact .inl ⟨ρ2, g1, g2, fun j hj => by
        rcases (by omega : j < k ∨ j = k) with z | z
        · exact hp j z
        · rw [z]; exact e⟩
    | false =>
      obtain ⟨ρ2, g1⟩ := s2 e
      exact .inr ⟨ρ2, _, g1, rfl, k, h, e⟩) ⟨h0, fun j hj => absurd hj (Nat.not_lt_zero _)⟩
  rcases this with ⟨ρ', g1, g2, g3⟩ | ⟨ρ', d, g1, rfl, k, hk, e⟩
  · exact .inl ⟨List.all_eq_true.mpr fun k m => g3 k (List.mem_range.mp m), ρ', g1, g2⟩
  · refine .inr ⟨?_, ρ', g1⟩
    cases z : (List.range l.length).all p with
    | false => rfl
    | true =>
      have := List.all_eq_true.mp z k (List.mem_range.mpr hk)
      rw [e] at this
      cases this
theorem fl_decR {T : Tbl} {C : List Nat} {i : Nat} {b : List IS} {n : Nat} (p : Nat → Bool) (J : List D → Prop) {ρ : List D} (h0 : J ρ)
    (step : ∀ k (_ : k < n) ρ, J ρ → (∀ j, j < k → p j = true) → (p k = true → ∃ ρ2, (execs T C b (ρ.set i (.int (k : Int))) = .nx ρ2 ∨ execs T C b (ρ.set i (.int (k : Int))) = .ct ρ2) ∧ J ρ2) ∧ (p k = false → ∃ ρ2, execs T C b (ρ.set i (.int (k : Int))) = .rt ρ2 (.bl false))) :
    (((List.range n).all p = true) ∧ ∃ ρ', fl T C (.one i) b (rangeD 0 n) ρ = .nx ρ' ∧ J ρ') ∨ (((List.range n).all p = false) ∧ ∃ ρ', fl T C (.one i) b (rangeD 0 n) ρ = .rt ρ' (.bl false)) := by
  rw [rangeD_enc]
  have := fl_dec (T := T) (C := C) (i := i) (b := b) (fun (k : Nat) => D.int (k : Int)) (List.range n) p J h0 (fun k h ρ hj hp => by
    have hk : k < n := by simpa using h
    have := step k hk ρ hj hp
    simpa using this)
  rw [List.length_range] at this
  exact this
/-! ### plain closed threads -/
def prevI (k n : Nat) : Nat := if k = 0 then n - 1 else k - 1
theorem atI_prev {xs : List D} {k : Nat} (h : k < xs.length) : atI xs ((k : Int) - 1) = xs[prevI k xs.length]? := by
  unfold prevI
  by_cases z : k = 0
  · subst z
    rw [if_pos rfl]
    unfold atI ixN
    have h1 : ¬ (0 ≤ (((0 : Nat) : Int) - 1)) := by omega
    simp only [h1, if_false]
    rw [if_pos (by omega)]
    have e : ((((0 : Nat) : Int) - 1) + (xs.length : Int)).toNat = xs.length - 1 := by omega
    have e2 : (((xs.length : Nat) : Int) + (((0 : Nat) : Int) - 1)).toNat = xs.length - 1 := by omega
    first | rw [e] | rw [e2]
    rfl
  · rw [if_neg z, show ((k : Int) - 1) = ((k - 1 : Nat) : Int) by omega, atI_nat']
def Next (mt : Nat → Option Nat) (a b : Nat) : Prop := ∃ s, mt a = some s ∧ s / 3 = b / 3 ∧ s ≠ b
def goodI (m : Nat) (mt : Nat → Option Nat) (i : Int) : Bool := decide (0 ≤ i) && decide (i < 3 * (m : Int)) && (mt i.toNat).isSome
def nextI (mt : Nat → Option Nat) (ws : List Int) (k : Nat) : Bool := match mt (ws.getD (prevI k ws.length) 0).toNat with
  | some s => decide ((s : Int) / 3 = ws.getD k 0 / 3) && decide ((s : Int) ≠ ws.getD k 0)
  | none => false
def plainI (m : Nat) (mt : Nat → Option Nat) (ws : List Int) : Bool := decide (ws ≠ []) && (List.range ws.length).all (fun k => goodI m mt (ws.getD k 0)) && (List.range ws.length).all (nextI mt ws)
theorem getD_of {l : List Int} {k : Nat} (h : k < l.length) : l.getD k 0 = l[k] := by rw [List.getD_eq_getElem?_getD, List.getElem?_eq_getElem h]; rfl
theorem ints_prev {ws : List Int} {k : Nat} (h : k < ws.length) : atI (ws.map D.int) ((k : Int) - 1) = some (.int (ws.getD (prevI k ws.length) 0)) := by
  have hp : prevI k ws.length < ws.length := by unfold prevI; split <;> omega
  rw [atI_prev (by simpa using h), List.length_map, List.getElem?_map, List.getElem?_eq_getElem hp, getD_of hp]
  rfl
def Sp_truth (f : List D → FR) : Prop := ∀ b, f [.bl b, .bl b] = .ok [] (.bl true)
theorem ok_truth (T : Tbl) : Sp_truth (run T ir_law_truth) := fun b => by
  simp -implicitDefEqProofs [run_eq, ir_law_truth]
def Sp_plain (f : List D → FR) : Prop := ∀ m mt nm (ws : List Int), TentOk m mt nm → ws.length ≤ 1000000 → f [tentO .fz (csOf m nm), .lst .fz (ws.map .int)] = .ok [] (.bl (plainI m mt ws))
theorem toNat_int {i : Int} (h : 0 ≤ i) : i = ((i.toNat : Nat) : Int) := by omega
theorem ok_plain (T : Tbl) (h22 : Sp_Tent_mate (T.F 22)) (h23 : Sp_Tent_size (T.F 23)) (u22 : T.muts 22 = []) (u23 : T.muts 23 = []) (m22 : T.mc 22 = 0) (m23 : T.mc 23 = 0) : Sp_plain (run T ir_plain) := fun m mt nm ws t hw => by
  have hl := t.le
  have e3 := h23 (csOf m nm)
  rw [csOf_len] at e3
  have m1 : mulOk 3 (m : Int) = true := mulOk_30 (by decide) (by omega)
  by_cases hn : ws = []
  · subst hn
    simp -implicitDefEqProofs [run_eq, ir_plain, plainI]
  · have hn2 : ¬ ((ws.length : Int) = 0) := by have := List.length_pos_iff.mpr hn; omega
    have l1 := fl_dec (T := T) (C := []) (i := 3) (b := ir_plain_b1) D.int ws (fun k => goodI m mt (ws.getD k 0)) (fun ρ => ∃ d, ρ = [tentO .fz (csOf m nm), .lst .fz (ws.map .int), .int (3 * (m : Int)), d, .und, .und]) (ρ := [tentO .fz (csOf m nm), .lst .fz (ws.map .int), .int (3 * (m : Int)), .und, .und, .und]) ⟨.und, rfl⟩ (fun k hk ρ ⟨d, e⟩ _ => by
      subst e
      rw [getD_of hk]
      generalize ws[k] = i
      by_cases z1 : i < 0
      · have g : goodI m mt i = false := by unfold goodI; have : ¬ (0 ≤ i) := (by omega); simp [this]
        refine ⟨fun h => (by rw [g] at h; cases h), fun _ => ⟨[tentO .fz (csOf m nm), .lst .fz (ws.map .int), .int (3 * (m : Int)), .int i, .und, .und], ?_⟩⟩
        simp -implicitDefEqProofs [ir_plain_b1, z1]
      · by_cases z2 : 3 * (m : Int) ≤ i
        · have g : goodI m mt i = false := by unfold goodI; have : ¬ (i < 3 * (m : Int)) := (by omega); simp [this]
          refine ⟨fun h => (by rw [g] at h; cases h), fun _ => ⟨[tentO .fz (csOf m nm), .lst .fz (ws.map .int), .int (3 * (m : Int)), .int i, .und, .und], ?_⟩⟩
          simp -implicitDefEqProofs [ir_plain_b1, z1, z2]
        · have y1 : 0 ≤ i := by omega
          have y2 : i < 3 * (m : Int) := by omega
          have a := h22 m mt nm i.toNat t (by omega)
          rw [← toNat_int y1] at a
          cases e : mt i.toNat with
          | none =>
            rw [e] at a
            have g : goodI m mt i = false := by unfold goodI; simp [e]
            refine ⟨fun h => (by rw [g] at h; cases h), fun _ => ⟨[tentO .fz (csOf m nm), .lst .fz (ws.map .int), .int (3 * (m : Int)), .int i, .und, .und], ?_⟩⟩
            simp at a
            simp -implicitDefEqProofs [ir_plain_b1, z1, z2, u22, m22, a]
          | some s =>
            rw [e] at a
            have g : goodI m mt i = true := by unfold goodI; simp [e, y1, y2]
            refine ⟨fun _ => ⟨[tentO .fz (csOf m nm), .lst .fz (ws.map .int), .int (3 * (m : Int)), .int i, .und, .und], .inl ?_, .int i, rfl⟩, fun h => (by rw [g] at h; cases h)⟩
            simp at a
            simp -implicitDefEqProofs [ir_plain_b1, z1, z2, u22, m22, a])
    rcases l1 with ⟨q1, ρ1, w1, d3, w2⟩ | ⟨q1, ρ1, w1⟩
    · subst w2
      have good : ∀ k, k < ws.length → goodI m mt (ws.getD k 0) = true := fun k hk => List.all_eq_true.mp q1 k (List.mem_range.mpr hk)
      have d3' : divOk 3 = true := divOk_lit (by decide) (by decide)
      have l2 := fl_decR (T := T) (C := []) (i := 4) (b := ir_plain_b2) (n := ws.length) (nextI mt ws) (fun ρ => ∃ d3 d4 d5, ρ = [tentO .fz (csOf m nm), .lst .fz (ws.map .int), .int (3 * (m : Int)), d3, d4, d5]) (ρ := [tentO .fz (csOf m nm), .lst .fz (ws.map .int), .int (3 * (m : Int)), d3, .und, .und]) ⟨d3, .und, .und, rfl⟩ (fun k hk ρ ⟨d3, d4, d5, e⟩ _ => by
        subst e
        have hp : prevI k ws.length < ws.length := by unfold prevI; split <;> omega
        have a1 := ints_prev hk
        have a2 := atI_ints hk
        have gp := good _ hp
        unfold nextI
        generalize ws.getD (prevI k ws.length) 0 = v at a1 gp
        generalize ws.getD k 0 = x at a2
        have gp' : 0 ≤ v ∧ v < 3 * (m : Int) ∧ (mt v.toNat).isSome = true := by
          unfold goodI at gp
          simpa [and_assoc] using gp
        obtain ⟨y1, y2, y3⟩ := gp'
        have a := h22 m mt nm v.toNat t (by omega)
        rw [← toNat_int y1] at a
        obtain ⟨s, hs⟩ := Option.isSome_iff_exists.mp y3
        rw [hs] at a ⊢
        simp at a
        by_cases c1 : (s : Int) / 3 = x / 3
        · by_cases c2 : (s : Int) = x
          · refine ⟨fun h => (by simp [c2] at h), fun _ => ⟨[tentO .fz (csOf m nm), .lst .fz (ws.map .int), .int (3 * (m : Int)), .int x, .int (k : Int), .int (s : Int)], ?_⟩⟩
            simp -implicitDefEqProofs [ir_plain_b2, a1, a2, u22, m22, a, d3', c1, c2]
          · refine ⟨fun _ => ⟨[tentO .fz (csOf m nm), .lst .fz (ws.map .int), .int (3 * (m : Int)), .int x, .int (k : Int), .int (s : Int)], .inl ?_, .int x, .int (k : Int), .int (s : Int), rfl⟩, fun h => (by simp [c1, c2] at h)⟩
            simp -implicitDefEqProofs [ir_plain_b2, a1, a2, u22, m22, a, d3', c1, c2]
        · refine ⟨fun h => (by simp [c1] at h), fun _ => ⟨[tentO .fz (csOf m nm), .lst .fz (ws.map .int), .int (3 * (m : Int)), .int x, .int (k : Int), .int (s : Int)], ?_⟩⟩
          simp -implicitDefEqProofs [ir_plain_b2, a1, a2, u22, m22, a, d3', c1])
      have r1 := rng_one (n := ws.length) hw
      rcases l2 with ⟨q2, ρ2, v1, d3', d4', d5', v2⟩ | ⟨q2, ρ2, v1⟩
      · subst v2
        have fin : plainI m mt ws = true := by unfold plainI; rw [q1, q2]; simp [hn]
        rw [fin]
        simp -implicitDefEqProofs [run_eq, ir_plain, hn, hn2, u23, m23, e3, m1, w1, r1, v1]
      · have fin : plainI m mt ws = false := by unfold plainI; rw [q2]; simp
        rw [fin]
        simp -implicitDefEqProofs [run_eq, ir_plain, hn, hn2, u23, m23, e3, m1, w1, r1, v1]
    · have fin : plainI m mt ws = false := by unfold plainI; rw [q1]; simp
      rw [fin]
      simp -implicitDefEqProofs [run_eq, ir_plain, hn, hn2, u23, m23, e3, m1, w1]
end TL

namespace TL
open PySem PySem.Spec PyProof.Rows L2

def Sp_law_plain (f : List D → FR) : Prop := ∀ m mt (ws : List Int), m ≤ 1000 → ws.length ≤ 1000000 → f [.lst .fz (matesL (3 * m) mt), .lst .fz (ws.map .int)] = .ok [] (.bl (plainI m mt ws))
theorem matesL_int {n : Nat} {mt : Nat → Option Nat} {i : Int} (h1 : 0 ≤ i) (h2 : i < n) : atI (matesL n mt) i = some (optD (mt i.toNat)) := by
  have := matesL_at (n := n) (mt := mt) (p := i.toNat) (by omega)
  rw [← toNat_int h1] at this
  exact this
theorem ok_law_plain (T : Tbl) : Sp_law_plain (run T ir_law_plain) := fun m mt ws hl hw => by
  by_cases hn : ws = []
  · subst hn
    simp -implicitDefEqProofs [run_eq, ir_law_plain, plainI]
  · have hn2 : ¬ ((ws.length : Int) = 0) := by have := List.length_pos_iff.mpr hn; omega
    have l1 := fl_dec (T := T) (C := []) (i := 2) (b := ir_law_plain_b1) D.int ws (fun k => goodI m mt (ws.getD k 0)) (fun ρ => ∃ d, ρ = [.lst .fz (matesL (3 * m) mt), .lst .fz (ws.map .int), d, .und, .und]) (ρ := [.lst .fz (matesL (3 * m) mt), .lst .fz (ws.map .int), .und, .und, .und]) ⟨.und, rfl⟩ (fun k hk ρ ⟨d, e⟩ _ => by
      subst e
      rw [getD_of hk]
      generalize ws[k] = i
      by_cases z1 : i < 0
      · have g : goodI m mt i = false := by unfold goodI; have : ¬ (0 ≤ i) := (by omega); simp [this]
        refine ⟨fun h => (by rw [g] at h; cases h), fun _ => ⟨[.lst .fz (matesL (3 * m) mt), .lst .fz (ws.map .int), .int i, .und, .und], ?_⟩⟩
        simp -implicitDefEqProofs [ir_law_plain_b1, z1]
      · by_cases z2 : 3 * (m : Int) ≤ i
        · have g : goodI m mt i = false := by unfold goodI; have : ¬ (i < 3 * (m : Int)) := (by omega); simp [this]
          refine ⟨fun h => (by rw [g] at h; cases h), fun _ => ⟨[.lst .fz (matesL (3 * m) mt), .lst .fz (ws.map .int), .int i, .und, .und], ?_⟩⟩
          simp -implicitDefEqProofs [ir_law_plain_b1, z1, z2]
        · have y1 : 0 ≤ i := by omega
          have y2 : i < 3 * (m : Int) := by omega
          have a := matesL_int (n := 3 * m) (mt := mt) y1 (by omega)
          cases e : mt i.toNat with
          | none =>
            rw [e] at a
            have g : goodI m mt i = false := by unfold goodI; simp [e]
            refine ⟨fun h => (by rw [g] at h; cases h), fun _ => ⟨[.lst .fz (matesL (3 * m) mt), .lst .fz (ws.map .int), .int i, .und, .und], ?_⟩⟩
            simp at a
            simp -implicitDefEqProofs [ir_law_plain_b1, z1, z2, a]
          | some s =>
            rw [e] at a
            have g : goodI m mt i = true := by unfold goodI; simp [e, y1, y2]
            refine ⟨fun _ => ⟨[.lst .fz (matesL (3 * m) mt), .lst .fz (ws.map .int), .int i, .und, .und], .inl ?_, .int i, rfl⟩, fun h => (by rw [g] at h; cases h)⟩
            simp at a
            simp -implicitDefEqProofs [ir_law_plain_b1, z1, z2, a])
    rcases l1 with ⟨q1, ρ1, w1, d3, w2⟩ | ⟨q1, ρ1, w1⟩
    · subst w2
      have good : ∀ k, k < ws.length → goodI m mt (ws.getD k 0) = true := fun k hk => List.all_eq_true.mp q1 k (List.mem_range.mpr hk)
      have d3' : divOk 3 = true := divOk_lit (by decide) (by decide)
      have l2 := fl_decR (T := T) (C := []) (i := 3) (b := ir_law_plain_b2) (n := ws.length) (nextI mt ws) (fun ρ => ∃ d4 d5, ρ = [.lst .fz (matesL (3 * m) mt), .lst .fz (ws.map .int), d3, d4, d5]) (ρ := [.lst .fz (matesL (3 * m) mt), .lst .fz (ws.map .int), d3, .und, .und]) ⟨.und, .und, rfl⟩ (fun k hk ρ ⟨d4, d5, e⟩ _ => by
        subst e
        have hp : prevI k ws.length < ws.length := by unfold prevI; split <;> omega
        have a1 := ints_prev hk
        have a2 := atI_ints hk
        have gp := good _ hp
        unfold nextI
        generalize ws.getD (prevI k ws.length) 0 = v at a1 gp
        generalize ws.getD k 0 = x at a2
        have gp' : 0 ≤ v ∧ v < 3 * (m : Int) ∧ (mt v.toNat).isSome = true := by
          unfold goodI at gp
          simpa [and_assoc] using gp
        obtain ⟨y1, y2, y3⟩ := gp'
        have a := matesL_int (n := 3 * m) (mt := mt) y1 (by omega)
        obtain ⟨s, hs⟩ := Option.isSome_iff_exists.mp y3
        rw [hs] at a ⊢
        simp at a
        by_cases c1 : (s : Int) / 3 = x / 3
        · by_cases c2 : (s : Int) = x
          · refine ⟨fun h => (by simp [c2] at h), fun _ => ⟨[.lst .fz (matesL (3 * m) mt), .lst .fz (ws.map .int), d3, .int (k : Int), .int (s : Int)], ?_⟩⟩
            simp -implicitDefEqProofs [ir_law_plain_b2, a1, a2, a, d3', c1, c2]
          · refine ⟨fun _ => ⟨[.lst .fz (matesL (3 * m) mt), .lst .fz (ws.map .int), d3, .int (k : Int), .int (s : Int)], .inl ?_, .int (k : Int), .int (s : Int), rfl⟩, fun h => (by simp [c1, c2] at h)⟩
            simp -implicitDefEqProofs [ir_law_plain_b2, a1, a2, a, d3', c1, c2]
        · refine ⟨fun h => (by simp [c1] at h), fun _ => ⟨[.lst .fz (matesL (3 * m) mt), .lst .fz (ws.map .int), d3, .int (k : Int), .int (s : Int)], ?_⟩⟩
          simp -implicitDefEqProofs [ir_law_plain_b2, a1, a2, a, d3', c1])
      have r1 := rng_one (n := ws.length) hw
      rcases l2 with ⟨q2, ρ2, v1, d4', d5', v2⟩ | ⟨q2, ρ2, v1⟩
      · subst v2
        have fin : plainI m mt ws = true := by unfold plainI; rw [q1, q2]; simp [hn]
        rw [fin]
        simp -implicitDefEqProofs [run_eq, ir_law_plain, hn, hn2, w1, r1, v1]
      · have fin : plainI m mt ws = false := by unfold plainI; rw [q2]; simp
        rw [fin]
        simp -implicitDefEqProofs [run_eq, ir_law_plain, hn, hn2, w1, r1, v1]
    · have fin : plainI m mt ws = false := by unfold plainI; rw [q1]; simp
      rw [fin]
      simp -implicitDefEqProofs [run_eq, ir_law_plain, hn, hn2, w1]
/-! ### threads of places -/
def intsOf (w : List Nat) : List Int := w.map fun (p : Nat) => (p : Int)
theorem natsL_ints {w : List Nat} : natsL w = (intsOf w).map .int := by
  unfold natsL intsOf
  rw [List.map_map]
  rfl
@[simp] theorem intsOf_len {w : List Nat} : (intsOf w).length = w.length := by simp [intsOf]
theorem intsOf_get {w : List Nat} {k : Nat} : (intsOf w).getD k 0 = ((w.getD k 0 : Nat) : Int) := by
  unfold intsOf
  rw [List.getD_eq_getElem?_getD, List.getD_eq_getElem?_getD, List.getElem?_map]
  cases w[k]? <;> rfl
/-- a plain closed thread -/
structure Closed (m : Nat) (mt : Nat → Option Nat) (w : List Nat) : Prop where
  ne : w ≠ []
  next : ∀ k, k < w.length → Next mt (w.getD (prevI k w.length) 0) (w.getD k 0)
  lt : ∀ k, k < w.length → w.getD k 0 < 3 * m
  so : ∀ k, k < w.length → (mt (w.getD k 0)).isSome = true
theorem Closed.plain {m : Nat} {mt : Nat → Option Nat} {w : List Nat} (h : Closed m mt w) : plainI m mt (intsOf w) = true := by
  unfold plainI
  have h1 : intsOf w ≠ [] := fun z => h.ne (by
    have : (intsOf w).length = 0 := by rw [z]; rfl
    rw [intsOf_len] at this
    exact List.length_eq_zero_iff.mp this)
  have h2 : (List.range (intsOf w).length).all (fun k => goodI m mt ((intsOf w).getD k 0)) = true := by
    rw [List.all_eq_true]
    intro k hk
    have hk := List.mem_range.mp hk
    rw [intsOf_len] at hk
    rw [intsOf_get]
    have a := h.lt k hk
    have b := h.so k hk
    unfold goodI
    have c : (w.getD k 0 : Int) < 3 * (m : Int) := by omega
    simp only [Int.toNat_natCast, b, Bool.and_true, Bool.and_eq_true, decide_eq_true_iff]
    omega
  have h3 : (List.range (intsOf w).length).all (nextI mt (intsOf w)) = true := by
    rw [List.all_eq_true]
    intro k hk
    have hk := List.mem_range.mp hk
    rw [intsOf_len] at hk
    obtain ⟨s, s1, s2, s3⟩ := h.next k hk
    unfold nextI
    rw [intsOf_len, intsOf_get, intsOf_get, Int.toNat_natCast, s1]
    simp only [Bool.and_eq_true, decide_eq_true_iff]
    omega
  rw [h2, h3]
  simp [h1]
structure LookThread (f : List D → FR) : Prop where
  yes : ∀ m mt nm (ws : List Int), TentOk m mt nm → ws.length ≤ 1000000 → plainI m mt ws = true → f [tentO .fz (csOf m nm), .lst .fz (ws.map .int)] = .ok [] .non
  no : ∀ m mt nm (ws : List Int), TentOk m mt nm → ws.length ≤ 1000000 → plainI m mt ws = false → f [tentO .fz (csOf m nm), .lst .fz (ws.map .int)] = .exn 7 []
def Sp_look_thread (f : List D → FR) : Prop := LookThread f
theorem ok_look_thread (T : Tbl) (h24 : Sp_plain (T.F 24)) (u24 : T.muts 24 = []) : Sp_look_thread (run T ir_look_thread) := by
  refine ⟨fun m mt nm ws t hw h => ?_, fun m mt nm ws t hw h => ?_⟩
  · have e := h24 m mt nm ws t hw
    rw [h] at e
    simp -implicitDefEqProofs [run_eq, ir_look_thread, u24, e]
  · have e := h24 m mt nm ws t hw
    rw [h] at e
    simp -implicitDefEqProofs [run_eq, ir_look_thread, u24, e]
end TL

namespace TL
open PySem PySem.Spec PyProof.Rows L2

/-! ### a law's walk -/
theorem fl_brk {T : Tbl} {C : List Nat} {α : Type} {i : Nat} {b : List IS} (enc : α → D) (l : List α) (P : Nat → List D → Prop) (Q : List D → Prop)
    (step : ∀ k (h : k < l.length) ρ, P k ρ → (∃ ρ2, (execs T C b (ρ.set i (enc l[k])) = .nx ρ2 ∨ execs T C b (ρ.set i (enc l[k])) = .ct ρ2) ∧ P (k + 1) ρ2) ∨ ∃ ρ2, execs T C b (ρ.set i (enc l[k])) = .bk ρ2 ∧ Q ρ2) {ρ : List D} (h0 : P 0 ρ) :
    ∃ ρ', fl T C (.one i) b (l.map enc) ρ = .nx ρ' ∧ (P l.length ρ' ∨ Q ρ') := by
  induction l generalizing P ρ with
  | nil => exact ⟨ρ, rfl, .inl h0⟩
  | cons a l ih =>
    rw [List.map_cons, fl_cons, store1_one, optO_some]
    rcases step 0 (Nat.succ_pos _) ρ h0 with ⟨ρ2, h2, h3⟩ | ⟨ρ2, h2, h3⟩
    · have h4 : loopK (execs T C b (ρ.set i (enc a))) (fl T C (.one i) b (l.map enc)) = fl T C (.one i) b (l.map enc) ρ2 := by rcases h2 with h2 | h2 <;> (have h2 : execs T C b (ρ.set i (enc a)) = _ := h2; rw [h2]; rfl)
      rw [h4]
      exact ih (fun i => P (i + 1)) (fun k h ρ hp => step (k + 1) (Nat.succ_lt_succ h) ρ hp) h3
    · have h2 : execs T C b (ρ.set i (enc a)) = _ := h2
      rw [h2]
      exact ⟨ρ2, rfl, .inr h3⟩
theorem cutD_nats {w : List Nat} {a b : Nat} (h1 : a ≤ b) (h2 : b ≤ w.length) : cutD (natsL w) (some (a : Int)) (some (b : Int)) = natsL ((w.drop a).take (b - a)) := by
  unfold cutD
  rw [HT.sIx_nat, HT.sIx_nat, natsL_len, Nat.min_eq_left h2, Nat.min_eq_left (Nat.le_trans h1 h2)]
  unfold natsL
  rw [List.map_take, List.map_drop]
theorem cutD_from {α : List D} {a : Nat} (h1 : a ≤ α.length) : cutD α (some (a : Int)) none = α.drop a := by
  unfold cutD
  rw [HT.sIx_nat, HT.sIx_none, Nat.min_eq_left h1]
  exact List.take_of_length_le (by simp)
theorem cutD_to {α : List D} {a : Nat} (h1 : a ≤ α.length) : cutD α none (some (a : Int)) = α.take a := by
  unfold cutD
  rw [HT.sIx_nat, HT.sIx_none, Nat.min_eq_left h1, List.drop_zero, Nat.sub_zero]
structure Row (m : Nat) (mt : Nat → Option Nat) (w : List Nat) : Prop where
  ne : w ≠ []
  next : ∀ k, k + 1 < w.length → Next mt (w.getD k 0) (w.getD (k + 1) 0)
  lt : ∀ k, k < w.length → w.getD k 0 < 3 * m
  so : ∀ k, k < w.length → (mt (w.getD k 0)).isSome = true
theorem getD_app {w : List Nat} {x k : Nat} : (w ++ [x]).getD k 0 = if k < w.length then w.getD k 0 else if k = w.length then x else 0 := by
  rw [List.getD_eq_getElem?_getD]
  by_cases h : k < w.length
  · rw [if_pos h, List.getElem?_append_left h, ← List.getD_eq_getElem?_getD]
  · rw [if_neg h, List.getElem?_append_right (by omega)]
    by_cases e : k = w.length
    · rw [if_pos e, e, Nat.sub_self]; rfl
    · rw [if_neg e, List.getElem?_eq_none (by simp; omega)]; rfl
theorem Row.push {m : Nat} {mt : Nat → Option Nat} {w : List Nat} (h : Row m mt w) {x : Nat} (n : Next mt (w.getD (w.length - 1) 0) x) (lx : x < 3 * m) (sx : (mt x).isSome = true) : Row m mt (w ++ [x]) := by
  have hp := List.length_pos_iff.mpr h.ne
  refine ⟨by simp, fun k hk => ?_, fun k hk => ?_, fun k hk => ?_⟩
  · rw [List.length_append, List.length_singleton] at hk
    rw [getD_app, getD_app, if_pos (by omega)]
    by_cases e : k + 1 < w.length
    · rw [if_pos e]; exact h.next k e
    · rw [if_neg e, if_pos (by omega), show k = w.length - 1 by omega]; exact n
  · rw [List.length_append, List.length_singleton] at hk
    rw [getD_app]
    by_cases e : k < w.length
    · rw [if_pos e]; exact h.lt k e
    · rw [if_neg e, if_pos (by omega)]; exact lx
  · rw [List.length_append, List.length_singleton] at hk
    rw [getD_app]
    by_cases e : k < w.length
    · rw [if_pos e]; exact h.so k e
    · rw [if_neg e, if_pos (by omega)]; exact sx
theorem getD_cut {w : List Nat} {a n k : Nat} (h : k < n) : ((w.drop a).take n).getD k 0 = w.getD (a + k) 0 := by
  rw [List.getD_eq_getElem?_getD, List.getElem?_take_of_lt h, List.getElem?_drop, ← List.getD_eq_getElem?_getD]
theorem Row.cut {m : Nat} {mt : Nat → Option Nat} {w : List Nat} (h : Row m mt w) {a b : Nat} (hab : a < b) (hb : b < w.length) (e : w.getD a 0 = w.getD b 0) : Closed m mt ((w.drop a).take (b - a)) := by
  have hl : ((w.drop a).take (b - a)).length = b - a := by simp; omega
  refine ⟨fun z => ?_, fun k hk => ?_, fun k hk => ?_, fun k hk => ?_⟩
  · rw [z] at hl
    simp at hl
    omega
  · rw [hl] at hk ⊢
    have hp : prevI k (b - a) < b - a := by unfold prevI; split <;> omega
    rw [getD_cut hp, getD_cut hk]
    unfold prevI
    by_cases z : k = 0
    · subst z
      rw [if_pos rfl, Nat.add_zero, e]
      have := h.next (b - 1) (by omega)
      rw [show b - 1 + 1 = b by omega] at this
      rw [show a + (b - a - 1) = b - 1 by omega]
      exact this
    · rw [if_neg z]
      have := h.next (a + (k - 1)) (by omega)
      rw [show a + (k - 1) + 1 = a + k by omega] at this
      exact this
  · rw [hl] at hk
    rw [getD_cut hk]
    exact h.lt _ (by omega)
  · rw [hl] at hk
    rw [getD_cut hk]
    exact h.so _ (by omega)
theorem atI_last {w : List Nat} (h : w ≠ []) : atI (natsL w) (-1) = some (.int ((w.getD (w.length - 1) 0 : Nat) : Int)) := by
  have hp := List.length_pos_iff.mpr h
  have := atI_prev (xs := natsL w) (k := 0) (by simpa using hp)
  rw [show (((0 : Nat) : Int) - 1) = -1 by omega] at this
  rw [this]
  unfold prevI
  rw [if_pos rfl, natsL_len, natsL_get (by omega), List.getD_eq_getElem?_getD, List.getElem?_eq_getElem (by omega)]
  rfl
def Sp_walk (f : List D → FR) : Prop := ∀ m mt (nums : List Int), m ≤ 14 → Mates (3 * m) mt → nums ≠ [] → nums.length ≤ 1000 → ∃ w : List Nat, (w = [] ∨ Closed m mt w) ∧ w.length ≤ nums.length ∧ f [.lst .fz (matesL (3 * m) mt), .lst .fz (nums.map .int)] = .ok [] (.lst .own (natsL w))
def hasB (mt : Nat → Option Nat) (p : Nat) : Bool := (mt p).isSome
def waysL (mt : Nat → Option Nat) (s : Nat) : List Nat := [nxt s, prv s].filter (hasB mt)
theorem nxt_lt {m s : Nat} (h : s < 3 * m) : nxt s < 3 * m ∧ prv s < 3 * m := by unfold nxt prv; omega
theorem nxt_ne {s : Nat} : s / 3 = nxt s / 3 ∧ s ≠ nxt s ∧ s / 3 = prv s / 3 ∧ s ≠ prv s := by unfold nxt prv; omega
@[simp] theorem pre_sl {a i b : Nat} {ρ : List D} : preOk .sl [.var a, .var i, .var b] ρ = isIntD (ρ.getD i .und) := (rfl)
theorem natsL_atD {w : List Nat} {k : Nat} (h : k < w.length) : atI (natsL w) (k : Int) = some (.int ((w.getD k 0 : Nat) : Int)) := by
  rw [natsL_atI h, List.getD_eq_getElem?_getD, List.getElem?_eq_getElem h]
  rfl
theorem walk_in (T : Tbl) (m : Nat) (mt : Nat → Option Nat) (N : Nat) (w : List Nat) (r : Row m mt w) (hN : w.length ≤ N) (a : Nat) (ha : a < w.length) (d0 d1 d2 d4 d6 d7 d8 d9 d10 : D) :
    (∃ d8', fl T [] (.one 8) ir_law_walk_b2 (rangeD ((a : Int) + 1) (w.length - (a + 1))).reverse [d0, d1, d2, .lst .own (natsL w), d4, .int (a : Int), d6, d7, d8, d9, d10] = .nx [d0, d1, d2, .lst .own (natsL w), d4, .int (a : Int), d6, d7, d8', d9, d10]) ∨
    ∃ ρ' w', fl T [] (.one 8) ir_law_walk_b2 (rangeD ((a : Int) + 1) (w.length - (a + 1))).reverse [d0, d1, d2, .lst .own (natsL w), d4, .int (a : Int), d6, d7, d8, d9, d10] = .rt ρ' (.lst .own (natsL w')) ∧ Closed m mt w' ∧ w'.length ≤ N := by
  have e : (rangeD ((a : Int) + 1) (w.length - (a + 1))).reverse = (((List.range (w.length - (a + 1))).map fun k => a + 1 + k).reverse).map fun (k : Nat) => D.int (k : Int) := by
    rw [show ((a : Int) + 1) = ((a + 1 : Nat) : Int) by omega, rangeD_encF, ← List.map_reverse, ← List.map_reverse, List.map_map]
    rfl
  rw [e]
  have := fl_encOr (T := T) (C := []) (i := 8) (b := ir_law_walk_b2) (ρ := [d0, d1, d2, .lst .own (natsL w), d4, .int (a : Int), d6, d7, d8, d9, d10]) (fun (k : Nat) => D.int (k : Int)) (((List.range (w.length - (a + 1))).map fun k => a + 1 + k).reverse)
    (fun _ ρ => ∃ d8, ρ = [d0, d1, d2, .lst .own (natsL w), d4, .int (a : Int), d6, d7, d8, d9, d10]) (fun d => ∃ w', d = .lst .own (natsL w') ∧ Closed m mt w' ∧ w'.length ≤ N) (fun k hk ρ ⟨d8, e⟩ => by
      subst e
      have hm := List.getElem_mem hk
      rw [List.mem_reverse, List.mem_map] at hm
      obtain ⟨z, hz, ez⟩ := hm
      have hz := List.mem_range.mp hz
      rw [← ez]
      have hb : a + 1 + z < w.length := by omega
      have hab : a < a + 1 + z := by omega
      generalize a + 1 + z = b at hb hab
      have a1 := natsL_atD ha
      have a2 := natsL_atD hb
      by_cases c : w.getD a 0 = w.getD b 0
      · have c' : ((w.getD a 0 : Nat) : Int) = ((w.getD b 0 : Nat) : Int) := by omega
        have hc := cutD_nats (w := w) (a := a) (b := b) (by omega) (by omega)
        refine .inr ⟨[d0, d1, d2, .lst .own (natsL w), d4, .int (a : Int), d6, d7, .int (b : Int), d9, d10], _, ?_, _, rfl, r.cut hab hb c, ?_⟩
        · generalize w.getD a 0 = x at a1 c' c
          generalize w.getD b 0 = y at a2 c' c
          subst c
          simp -implicitDefEqProofs [ir_law_walk_b2, a1, a2, hc]
        · simp; omega
      · refine .inl ⟨_, .inl ?_, .int (b : Int), rfl⟩
        generalize w.getD a 0 = x at a1 c
        generalize w.getD b 0 = y at a2 c
        have c' : ¬ ((x : Int) = (y : Int)) := by omega
        simp -implicitDefEqProofs [ir_law_walk_b2, a1, a2, c']) ⟨d8, rfl⟩
  rcases this with ⟨ρ', g1, d8', g2⟩ | ⟨ρ', d, g1, w', g2, g3, g4⟩
  · subst g2
    exact .inl ⟨d8', g1⟩
  · subst g2
    exact .inr ⟨ρ', w', g1, g3, g4⟩
theorem ok_walk (T : Tbl) : Sp_walk (run T ir_law_walk) := fun m mt nums hm14 hm hne hlen => by
  match nums, hne with
  | a0 :: rest, _ =>
  simp only [List.length_cons] at hlen
  have c1 := cl_rangeF (T := T) (i := 9) (elt := ir_law_walk_e1) (ifs := ir_law_walk_i1) (n := 3 * m) (ρ := [.lst .fz (matesL (3 * m) mt), .lst .fz ((a0 :: rest).map .int), .und, .und, .und, .und, .und, .und, .und, .und, .und]) (hasB mt) (fun k => .int (k : Int)) (fun k hk => by
    have h3 := matesL_at (mt := mt) hk
    refine ⟨?_, fun _ => ⟨by simp -implicitDefEqProofs [ir_law_walk_e1], rfl⟩⟩
    unfold hasB
    cases e : mt k <;> rw [e] at h3 <;> simp at h3 <;> simp -implicitDefEqProofs [ir_law_walk_i1, h3])
  have ec1 : (((List.range (3 * m)).filter (hasB mt)).map fun k => frz (D.int ((k : Nat) : Int))) = natsL ((List.range (3 * m)).filter (hasB mt)) := rfl
  rw [ec1] at c1
  simp at c1
  have rm : rng [.int (3 * (m : Int))] = some (0, 3 * m) := by
    have : 3 * (m : Int) = ((3 * m : Nat) : Int) := by omega
    rw [this]; exact rng_one (by omega)
  have l1 : lenOk (3 * m) = true := lenOk_le (by omega)
  have spm : ∀ x ∈ (List.range (3 * m)).filter (hasB mt), x < 3 * m ∧ hasB mt x = true := fun x hx => ⟨List.mem_range.mp (List.mem_filter.mp hx).1, (List.mem_filter.mp hx).2⟩
  generalize (List.range (3 * m)).filter (hasB mt) = spots at c1 spm
  by_cases hz : spots = []
  · subst hz
    simp at c1
    refine ⟨[], .inl rfl, Nat.zero_le _, ?_⟩
    simp -implicitDefEqProofs [run_eq, ir_law_walk, rm, l1, c1]
  · have hp := List.length_pos_iff.mpr hz
    have hz' : ¬ ((spots.length : Int) = 0) := by omega
    have hz2 : (0 : Int) < (spots.length : Int) := by omega
    obtain ⟨j, hj, jl⟩ := mod_nat a0 hp
    have p1 := natsL_atI jl
    obtain ⟨s1, s2⟩ := spm _ (List.getElem_mem jl)
    generalize spots[j] = x0 at p1 s1 s2
    rw [← hj] at p1
    have hcut : cutD (D.int a0 :: rest.map D.int) (some 1) none = rest.map .int := cutD_from (a := 1) (by simp)
    have r2 : rng [.int 2] = some (0, 2) := by decide
    have l2 : lenOk 2 = true := by decide
    have d3 : divOk 3 = true := divOk_lit (by decide) (by decide)
    have r0 : Row m mt [x0] := ⟨by simp, fun k hk => by simp at hk, fun k hk => by
      have : k = 0 := by simpa using hk
      subst this; exact s1, fun k hk => by
      have : k = 0 := by simpa using hk
      subst this; exact s2⟩
    obtain ⟨ρ1, w1, w2⟩ := fl_brk (T := T) (C := []) (i := 4) (b := ir_law_walk_b1) D.int rest
      (fun k ρ => ∃ w d4 d6 d7, Row m mt w ∧ w.length = 1 + k ∧ ρ = [.lst .fz (matesL (3 * m) mt), .lst .fz ((a0 :: rest).map .int), .lst .own (natsL spots), .lst .own (natsL w), d4, .und, d6, d7, .und, .und, .und])
      (fun ρ => ∃ w d4 d6 d7, Row m mt w ∧ w.length ≤ 1 + rest.length ∧ ρ = [.lst .fz (matesL (3 * m) mt), .lst .fz ((a0 :: rest).map .int), .lst .own (natsL spots), .lst .own (natsL w), d4, .und, d6, d7, .und, .und, .und])
      (fun k hk ρ ⟨w, d4, d6, d7, r, wl, e⟩ => by
        subst e
        generalize rest[k] = pick
        have a1 := atI_last r.ne
        have hw := List.length_pos_iff.mpr r.ne
        have so := r.so (w.length - 1) (by omega)
        have lt := r.lt (w.length - 1) (by omega)
        have a2 := matesL_at (mt := mt) lt
        obtain ⟨s, hs⟩ := Option.isSome_iff_exists.mp so
        have nx : ∀ b, s / 3 = b / 3 → s ≠ b → Next mt (w.getD (w.length - 1) 0) b := fun b h1 h2 => ⟨s, hs, h1, h2⟩
        have sl := (hm.lt _ _ hs).2
        rw [hs, optD_some] at a2
        have push := fun b (h1 : s / 3 = b / 3) (h2 : s ≠ b) (h3 : b < 3 * m) (h4 : (mt b).isSome = true) => r.push (nx b h1 h2) h3 h4
        generalize w.getD (w.length - 1) 0 = last at a1 a2 nx
        have c2 := cl_range (T := T) (i := 10) (elt := ir_law_walk_e2) (n := 2) (ρ := [.lst .fz (matesL (3 * m) mt), .lst .fz ((a0 :: rest).map .int), .lst .own (natsL spots), .lst .own (natsL w), .int pick, .und, .int (s : Nat), d7, .und, .und, .und]) (fun k => .int (((if k = 0 then nxt s else prv s) : Nat) : Int)) (fun k hk => by
          have e : (s : Int) - (s : Int) % 3 + ((s : Int) + 1 + (k : Int)) % 3 = (((if k = 0 then nxt s else prv s) : Nat) : Int) := by
            unfold nxt prv
            split <;> omega
          refine ⟨?_, rfl⟩
          simp -implicitDefEqProofs [ir_law_walk_e2]
          exact e)
        have ec2 : (tabD 2 fun k => frz (D.int (((if k = 0 then nxt s else prv s) : Nat) : Int))) = natsL [nxt s, prv s] := rfl
        rw [ec2] at c2
        have c3 := cl_encF (T := T) (i := 9) (elt := ir_law_walk_e3) (ifs := ir_law_walk_i2) (ρ := [.lst .fz (matesL (3 * m) mt), .lst .fz ((a0 :: rest).map .int), .lst .own (natsL spots), .lst .own (natsL w), .int pick, .und, .int (s : Nat), .lst .fz (natsL [nxt s, prv s]), .und, .und, .und]) (fun (k : Nat) => D.int (k : Int)) [nxt s, prv s] (hasB mt) (fun k => .int (k : Int)) (fun k hk => by
          have hk3 : k < 3 * m := by
            have := nxt_lt sl
            simp at hk
            rcases hk with rfl | rfl <;> omega
          have h3 := matesL_at (mt := mt) hk3
          refine ⟨?_, fun _ => ⟨by simp -implicitDefEqProofs [ir_law_walk_e3], rfl⟩⟩
          unfold hasB
          cases e : mt k <;> rw [e] at h3 <;> simp at h3 <;> simp -implicitDefEqProofs [ir_law_walk_i2, h3])
        have ec3 : ((([nxt s, prv s] : List Nat).filter (hasB mt)).map fun k => frz (D.int ((k : Nat) : Int))) = natsL (waysL mt s) := rfl
        have ec4 : (([nxt s, prv s] : List Nat).map fun k => (D.int ((k : Nat) : Int))) = natsL [nxt s, prv s] := rfl
        rw [ec3, ec4] at c3
        have wm : ∀ x ∈ waysL mt s, x < 3 * m ∧ (mt x).isSome = true ∧ s / 3 = x / 3 ∧ s ≠ x := fun x hx => by
          obtain ⟨h1, h2⟩ := List.mem_filter.mp hx
          have q1 := nxt_lt sl
          have q2 := nxt_ne (s := s)
          simp at h1
          rcases h1 with rfl | rfl
          · exact ⟨q1.1, h2, q2.1, q2.2.1⟩
          · exact ⟨q1.2, h2, q2.2.2.1, q2.2.2.2⟩
        generalize waysL mt s = ways at c3 wm
        simp at c2 c3
        by_cases hw0 : ways = []
        · subst hw0
          simp at c3
          refine .inr ⟨[.lst .fz (matesL (3 * m) mt), .lst .fz ((a0 :: rest).map .int), .lst .own (natsL spots), .lst .own (natsL w), .int pick, .und, .int (s : Nat), .lst .own [], .und, .und, .und], ?_, w, .int pick, .int (s : Nat), .lst .own [], r, by omega, rfl⟩
          simp -implicitDefEqProofs [ir_law_walk_b1, a1, a2, r2, l2, c2, c3]
        · have hwp := List.length_pos_iff.mpr hw0
          have hw1 : ¬ ((ways.length : Int) = 0) := by omega
          have hw2 : (0 : Int) < (ways.length : Int) := by omega
          obtain ⟨j, hj, jl⟩ := mod_nat pick hwp
          have p1 := natsL_atI jl
          obtain ⟨s1, s2, s3, s4⟩ := wm _ (List.getElem_mem jl)
          generalize ways[j] = x1 at p1 s1 s2 s3 s4
          rw [← hj] at p1
          have lw : lenOk w.length = true := lenOk_le (by omega)
          refine .inl ⟨[.lst .fz (matesL (3 * m) mt), .lst .fz ((a0 :: rest).map .int), .lst .own (natsL spots), .lst .own (natsL (w ++ [x1])), .int pick, .und, .int (s : Nat), .lst .own (natsL ways), .und, .und, .und], .inl ?_, w ++ [x1], .int pick, .int (s : Nat), .lst .own (natsL ways), push _ s3 s4 s1 s2, by simp; omega, rfl⟩
          rw [natsL_append]
          simp -implicitDefEqProofs [ir_law_walk_b1, a1, a2, r2, l2, c2, c3, hw0, hw1, hw2, hwp, p1, lw]) (ρ := [.lst .fz (matesL (3 * m) mt), .lst .fz ((a0 :: rest).map .int), .lst .own (natsL spots), .lst .own (natsL [x0]), .und, .und, .und, .und, .und, .und, .und]) ⟨[x0], .und, .und, .und, r0, by simp, rfl⟩
    have w3 : ∃ w d4 d6 d7, Row m mt w ∧ w.length ≤ 1 + rest.length ∧ ρ1 = [.lst .fz (matesL (3 * m) mt), .lst .fz ((a0 :: rest).map .int), .lst .own (natsL spots), .lst .own (natsL w), d4, .und, d6, d7, .und, .und, .und] := by
      rcases w2 with ⟨w, d4, d6, d7, r, wl, e⟩ | ⟨w, d4, d6, d7, r, wl, e⟩
      · exact ⟨w, d4, d6, d7, r, by omega, e⟩
      · exact ⟨w, d4, d6, d7, r, wl, e⟩
    obtain ⟨w, d4, d6, d7, r, wl, e⟩ := w3
    subst e
    have rw1 := rng_one (n := w.length) (by omega)
    have out := fl_rangeOr (T := T) (C := []) (i := 5) (b := ir_law_walk_b3) (lo := 0) (n := w.length) (ρ := [.lst .fz (matesL (3 * m) mt), .lst .fz ((a0 :: rest).map .int), .lst .own (natsL spots), .lst .own (natsL w), d4, .und, d6, d7, .und, .und, .und])
      (fun _ ρ => ∃ d5 d8, ρ = [.lst .fz (matesL (3 * m) mt), .lst .fz ((a0 :: rest).map .int), .lst .own (natsL spots), .lst .own (natsL w), d4, d5, d6, d7, d8, .und, .und]) (fun d => ∃ w', d = .lst .own (natsL w') ∧ Closed m mt w' ∧ w'.length ≤ 1 + rest.length) (fun k hk ρ ⟨d5, d8, e⟩ => by
        subst e
        have rk : rng [.int ((k : Int) + 1), .int (w.length : Int)] = some ((k : Int) + 1, w.length - (k + 1)) := by
          rw [show (k : Int) + 1 = ((k + 1 : Nat) : Int) by omega]
          exact rng_two (by omega) (by omega)
        have key := walk_in T m mt (1 + rest.length) w r wl k hk (.lst .fz (matesL (3 * m) mt)) (.lst .fz ((a0 :: rest).map .int)) (.lst .own (natsL spots)) d4 d6 d7 d8 .und .und
        rcases key with ⟨d8', g⟩ | ⟨ρ', w', g, g2, g3⟩
        · refine .inl ⟨_, .inl ?_, .int k, d8', rfl⟩
          simp at g
          simp -implicitDefEqProofs [ir_law_walk_b3, rk, g]
        · refine .inr ⟨ρ', _, ?_, w', rfl, g2, g3⟩
          simp at g
          simp -implicitDefEqProofs [ir_law_walk_b3, rk, g]) ⟨.und, .und, rfl⟩
    rcases out with ⟨ρ', g, d5, d8, g2⟩ | ⟨ρ', d, g, w', g2, g3, g4⟩
    · subst g2
      refine ⟨[], .inl rfl, Nat.zero_le _, ?_⟩
      simp at g w1
      simp -implicitDefEqProofs [run_eq, ir_law_walk, rm, l1, c1, hz, hz', hz2, hp, p1, hcut, w1, rw1, g]
    · subst g2
      refine ⟨w', .inr g3, by simp only [List.length_cons]; omega, ?_⟩
      simp at g w1
      simp -implicitDefEqProofs [run_eq, ir_law_walk, rm, l1, c1, hz, hz', hz2, hp, p1, hcut, w1, rw1, g]
def Sp_thread (f : List D → FR) : Prop := ∀ ns (i : Nat) m mt, i < 1000 → m ≤ 14 → Mates (3 * m) mt → ∃ w : List Nat, (w = [] ∨ Closed m mt w) ∧ w.length ≤ 53 ∧ f [script ns, .int i, .lst .fz (matesL (3 * m) mt)] = .ok [] (.lst .own (natsL w))
theorem ok_thread (T : Tbl) (h105 : Sp_cell (T.F 105)) (h113 : Sp_numbers (T.F 113)) (h115 : Sp_walk (T.F 115)) (u105 : T.muts 105 = []) (u113 : T.muts 113 = []) (u115 : T.muts 115 = []) : Sp_thread (run T ir_law_thread) := fun ns i m mt hi hm hmm => by
  have c0 := h105 ns i hi
  generalize cellF ns i = x at c0
  obtain ⟨j, hj, jl⟩ := mod_nat x (m := 50) (by decide)
  have hj : x % 50 = (j : Int) := hj
  obtain ⟨nums, n1, n2, e1⟩ := h113 (x / 50) (4 + j) (by omega)
  obtain ⟨w, w1, w2, e2⟩ := h115 m mt nums hm hmm (fun z => by rw [z] at n1; simp only [List.length_nil] at n1; omega) (by omega)
  have d50 : divOk 50 = true := divOk_lit (by decide) (by decide)
  refine ⟨w, w1, by omega, ?_⟩
  simp at e1
  simp -implicitDefEqProofs [run_eq, ir_law_thread, u105, u113, u115, c0, d50, hj, e1, e2]
end TL

namespace TL
open PySem PySem.Spec PyProof.Rows L2

/-! ### lists of ints are like themselves -/
theorem toPys_ints : ∀ xs : List Int, toPys (xs.map D.int) = some (xs.map PyData.int)
  | [] => rfl
  | x :: xs => by
    rw [List.map_cons, toPys, toPys_ints xs]
    rfl
theorem canLay_ints : ∀ xs : List Int, PyData.canLayAll0 (xs.map PyData.int) = true
  | [] => by simp [PyData.canLayAll0]
  | x :: xs => by
    rw [List.map_cons, PyData.canLayAll0, canLay_ints xs]
    simp [PyData.canLay0]
theorem depth_ints : ∀ xs : List Int, PyData.depthAll (xs.map PyData.int) ≤ 1
  | [] => by simp [PyData.depthAll]
  | x :: xs => by
    rw [List.map_cons, PyData.depthAll]
    have := depth_ints xs
    simp only [PyData.depth]
    omega
theorem eqv_ints : ∀ xs : List Int, PyData.eqvAll (xs.map PyData.int) (xs.map PyData.int) = true
  | [] => by simp [PyData.eqvAll]
  | x :: xs => by
    rw [List.map_cons, PyData.eqvAll, eqv_ints xs]
    simp [PyData.eqv]
theorem eq_ints {w u : W} {xs : List Int} : eqD (.lst w (xs.map .int)) (.lst u (xs.map .int)) = some true := by
  have h1 : ∀ w, toPy (D.lst w (xs.map .int)) = some (.list (xs.map .int)) := fun w => by rw [toPy, toPys_ints]
  have h2 : SeqAt.shaped (.list (xs.map .int)) = true := by
    unfold SeqAt.shaped
    have a : PyData.canLay0 (.list (xs.map .int)) = true := by rw [PyData.canLay0]; exact canLay_ints xs
    have b : PyData.depth (.list (xs.map .int)) ≤ 64 := by
      rw [PyData.depth]
      have := depth_ints xs
      omega
    rw [a, decide_eq_true b]
    rfl
  have h3 : PyData.eqv (.list (xs.map .int)) (.list (xs.map .int)) = true := by rw [PyData.eqv]; exact eqv_ints xs
  simp only [eqD, eqS, h1, h2, Bool.and_self, if_true, h3]
theorem eq_l {w u : W} {xs : List Int} : ap_eq [.lst w (xs.map .int), .lst u (xs.map .int)] = some (.bl true) := by simp only [ap_eq, eq_ints]
theorem ne_l {w u : W} {xs : List Int} : ap_ne [.lst w (xs.map .int), .lst u (xs.map .int)] = some (.bl false) := by simp only [ap_ne, eq_ints, Bool.not_true]
theorem erase_map : ∀ {ws : List Int} {a : Nat}, (ws.map D.int).eraseIdx a = (ws.eraseIdx a).map .int
  | [], _ => rfl
  | _ :: _, 0 => rfl
  | x :: ws, a + 1 => by
    show D.int x :: (ws.map D.int).eraseIdx a = D.int x :: (ws.eraseIdx a).map .int
    rw [erase_map]
theorem ins_ints {ws : List Int} {a : Nat} {x : Int} (h : a ≤ 1000) (hw : ws.length ≤ 1000) : insD (.lst .own (ws.map D.int)) (.int (a : Int)) (.int x) = some (.lst .own ((ws.take a ++ x :: ws.drop a).map .int)) := by
  have l : lenOk (ws.map D.int).length = true := lenOk_le (by simp; omega)
  have l1 : decide ((0 : Int) ≤ (a : Int)) = true := decide_eq_true (by omega)
  have l2 : decide ((a : Int) < 2 ^ 63) = true := decide_eq_true (by omega)
  show (if (lenOk (ws.map D.int).length && decide ((0 : Int) ≤ (a : Int)) && decide ((a : Int) < 2 ^ 63)) = true then some (D.lst .own ((ws.map D.int).take ((a : Int)).toNat ++ [D.int x] ++ (ws.map D.int).drop ((a : Int)).toNat)) else none) = _
  rw [l, l1, l2, Int.toNat_natCast]
  simp
/-! ### a word spoilt -/
theorem cut_ints_to {xs : List Int} {a : Nat} (h : a ≤ xs.length) : cutD (xs.map D.int) none (some (a : Int)) = (xs.take a).map .int := by rw [cutD_to (by simpa using h), List.map_take]
theorem cut_ints_from {xs : List Int} {a : Nat} (h : a ≤ xs.length) : cutD (xs.map D.int) (some (a : Int)) none = (xs.drop a).map .int := by rw [cutD_from (by simpa using h), List.map_drop]
def Sp_spoilt (f : List D → FR) : Prop := ∀ (ws : List Int) (pick place : Int), ws.length ≤ 1000 → ∃ ws' : List Int, ws'.length ≤ 2001 ∧ f [.lst .fz (ws.map .int), .int pick, .int place] = .ok [] (.lst .own (ws'.map .int))
theorem ok_spoilt (T : Tbl) : Sp_spoilt (run T ir_law_spoilt) := fun ws pick place hw => by
  have d5 : divOk 5 = true := divOk_lit (by decide) (by decide)
  obtain ⟨a, ha, hl⟩ := mod_nat (pick / 5) (m := ws.length + 1) (by omega)
  have ha' : pick / 5 % ((ws.length : Int) + 1) = (a : Int) := by rw [← ha]; congr 1
  have hp : (0 : Int) < (ws.length : Int) + 1 := by omega
  have lo : lenOk ws.length = true := lenOk_le (by omega)
  by_cases c1 : pick % 5 = 1
  · refine ⟨ws.take a ++ place :: ws.drop a, by simp; omega, ?_⟩
    have hi : insD (.lst .own (ws.map D.int)) (.int (a : Int)) (.int place) = some (.lst .own ((ws.take a ++ place :: ws.drop a).map .int)) := ins_ints (by omega) (by omega)
    simp -implicitDefEqProofs [run_eq, ir_law_spoilt, d5, ha', hp, c1, lo]
    simp at hi
    rw [hi]
    simp
  · by_cases c2 : pick % 5 = 2
    · by_cases c3 : (a : Int) < (ws.length : Int)
      · refine ⟨ws.eraseIdx a, by rw [List.length_eraseIdx]; split <;> omega, ?_⟩
        have h1 : ixN ws.length (a : Int) = some a := ixN_nat (by omega)
        have h2 : (ws.map D.int)[a]? = some (.int (ws.getD a 0)) := by
          rw [← atI_nat', atI_ints (by omega)]
        have h3 : (ws.map D.int).eraseIdx a = (ws.eraseIdx a).map .int := erase_map
        have c3' : a < ws.length := by omega
        rw [← h3]
        generalize ws.getD a 0 = g at h2
        generalize hm : ws.map D.int = ms at h2
        have hml : ms.length = ws.length := by rw [← hm]; simp
        simp -implicitDefEqProofs [run_eq, ir_law_spoilt, d5, hml, ha', hp, c2, c3', lo, h1, h2]
      · refine ⟨ws, by omega, ?_⟩
        have c3' : ¬ (a < ws.length) := by omega
        simp -implicitDefEqProofs [run_eq, ir_law_spoilt, d5, ha', hp, c2, c3', lo]
    · by_cases c3 : pick % 5 = 3
      · by_cases c4 : a < ws.length
        · refine ⟨ws.set a place, by simp; omega, ?_⟩
          have h1 : ixN ws.length (a : Int) = some a := ixN_nat (by omega)
          simp -implicitDefEqProofs [run_eq, ir_law_spoilt, d5, ha', hp, c3, c4, lo, h1]
        · refine ⟨ws, by omega, ?_⟩
          simp -implicitDefEqProofs [run_eq, ir_law_spoilt, d5, ha', hp, c3, c4, lo]
      · by_cases c5 : pick % 5 = 4
        · refine ⟨ws.take a ++ ws.take a, by simp; omega, ?_⟩
          have h1 := cut_ints_to (xs := ws) (a := a) (by omega)
          have l2 : lenOk (min a ws.length + min a ws.length) = true := lenOk_le (by omega)
          simp -implicitDefEqProofs [run_eq, ir_law_spoilt, d5, ha', hp, c5, lo, h1, l2]
        · refine ⟨ws, by omega, ?_⟩
          simp -implicitDefEqProofs [run_eq, ir_law_spoilt, d5, ha', hp, c1, c2, c3, c5, lo]
end TL

namespace TL
open PySem PySem.Spec PyProof.Rows L2

/-! ### a body in two parts -/
theorem execs_app {T : Tbl} {C : List Nat} : ∀ (a b : List IS) (ρ : List D), execs T C (a ++ b) ρ = (execs T C a ρ).bnd (execs T C b)
  | [], b, ρ => rfl
  | s :: a, b, ρ => by
    rw [List.cons_append, execs_cons, execs_cons]
    cases exec T C s ρ with
    | nx ρ1 => simp only [bnd_nx]; exact execs_app a b ρ1
    | _ => rfl
theorem run_split {T : Tbl} {f : Fn} {vs ρ1 : List D} (k : Nat) (h : execs T f.muts (f.body.take k) (vs ++ List.replicate (f.ns - f.np) .und) = .nx ρ1) (hv : vs.length = f.np ∧ f.np ≤ f.ns) : run T f vs = runK f.muts (execs T f.muts (f.body.drop k) ρ1) := by
  rw [run_eq, if_pos hv]
  conv => lhs; rw [← List.take_append_drop k f.body, execs_app, h]
  rfl
/-! ### turned -/
def turnL (ws : List Int) (b : Nat) : List Int := ws.drop b ++ ws.take b
@[simp] theorem turnL_len {ws : List Int} {b : Nat} : (turnL ws b).length = ws.length := by unfold turnL; simp; omega
theorem mod_len (by_ : Int) {ws : List Int} (h : ws ≠ []) : ∃ b : Nat, by_ % (ws.length : Int) = (b : Int) ∧ b < ws.length := mod_nat by_ (List.length_pos_iff.mpr h)
structure Turned (f : List D → FR) : Prop where
  nil : ∀ i, f [.lst .fz [], .int i] = .ok [] (.lst .own [])
  cons : ∀ (ws : List Int) (i : Int) (b : Nat), ws ≠ [] → ws.length ≤ 1000000 → i % (ws.length : Int) = (b : Int) → b < ws.length → f [.lst .fz (ws.map .int), .int i] = .ok [] (.lst .own ((turnL ws b).map .int))
def Sp_turned (f : List D → FR) : Prop := Turned f
theorem ok_turned (T : Tbl) : Sp_turned (run T ir_turned) := by
  refine ⟨fun i => ?_, fun ws i b hn hl hb hlt => ?_⟩
  · simp -implicitDefEqProofs [run_eq, ir_turned]
  · have h1 := cut_ints_from (xs := ws) (a := b) (by omega)
    have h2 := cut_ints_to (xs := ws) (a := b) (by omega)
    have hp := List.length_pos_iff.mpr hn
    have hz : (0 : Int) < (ws.length : Int) := by omega
    have lo : lenOk (ws.length - b + min b ws.length) = true := lenOk_le (by omega)
    unfold turnL
    simp -implicitDefEqProofs [run_eq, ir_turned, hn, hp, hz, hb, h1, h2, lo]
/-! ### backward -/
/-- the other side of each place, from behind -/
def backW (mt : Nat → Option Nat) (w : List Nat) : List Nat := w.reverse.map fun p => (mt p).getD 0
@[simp] theorem backW_len {mt : Nat → Option Nat} {w : List Nat} : (backW mt w).length = w.length := by simp [backW]
theorem getD_rev {w : List Nat} {k : Nat} (h : k < w.length) : w.reverse.getD k 0 = w.getD (w.length - 1 - k) 0 := by
  rw [List.getD_eq_getElem?_getD, List.getElem?_reverse h, ← List.getD_eq_getElem?_getD]
theorem getD_mem {w : List Nat} {k : Nat} (h : k < w.length) : w.getD k 0 ∈ w := by
  rw [List.getD_eq_getElem?_getD, List.getElem?_eq_getElem h]
  exact List.getElem_mem h
theorem mem_getD {w : List Nat} {p : Nat} (h : p ∈ w) : ∃ k, k < w.length ∧ w.getD k 0 = p := by
  obtain ⟨k, hk, e⟩ := List.mem_iff_getElem.mp h
  exact ⟨k, hk, by rw [List.getD_eq_getElem?_getD, List.getElem?_eq_getElem hk, ← e]; rfl⟩
theorem Closed.mem {m : Nat} {mt : Nat → Option Nat} {w : List Nat} (h : Closed m mt w) {p : Nat} (hp : p ∈ w) : p < 3 * m ∧ ∃ s, mt p = some s := by
  obtain ⟨k, hk, e⟩ := mem_getD hp
  exact ⟨by rw [← e]; exact h.lt k hk, by rw [← e]; exact Option.isSome_iff_exists.mp (h.so k hk)⟩
theorem backW_get {mt : Nat → Option Nat} {w : List Nat} {k : Nat} (h : k < w.length) : (backW mt w).getD k 0 = (mt (w.getD (w.length - 1 - k) 0)).getD 0 := by
  unfold backW
  rw [List.getD_eq_getElem?_getD, List.getElem?_map]
  have h2 : w.reverse[k]? = some (w.getD (w.length - 1 - k) 0) := by
    rw [List.getElem?_reverse h, List.getD_eq_getElem?_getD, List.getElem?_eq_getElem (by omega)]
    rfl
  rw [h2]
  rfl
theorem prevI_rev {k n : Nat} (h : k < n) : n - 1 - prevI k n = if k = 0 then 0 else n - 1 - k + 1 := by
  unfold prevI
  split <;> omega
theorem Closed.back {m : Nat} {mt : Nat → Option Nat} {w : List Nat} (hm : Mates (3 * m) mt) (h : Closed m mt w) : Closed m mt (backW mt w) := by
  have hp := List.length_pos_iff.mpr h.ne
  have val : ∀ k, k < w.length → ∃ s, mt (w.getD (w.length - 1 - k) 0) = some s ∧ (backW mt w).getD k 0 = s := fun k hk => by
    obtain ⟨s, hs⟩ := Option.isSome_iff_exists.mp (h.so (w.length - 1 - k) (by omega))
    exact ⟨s, hs, by rw [backW_get hk, hs]; rfl⟩
  refine ⟨fun z => ?_, fun k hk => ?_, fun k hk => ?_, fun k hk => ?_⟩
  · have : (backW mt w).length = 0 := by rw [z]; rfl
    rw [backW_len] at this
    omega
  · rw [backW_len] at hk ⊢
    have hq : prevI k w.length < w.length := by unfold prevI; split <;> omega
    obtain ⟨s1, a1, b1⟩ := val _ hq
    obtain ⟨s2, a2, b2⟩ := val k hk
    rw [b1, b2]
    -- the place behind the k-th: w at n-1-prev
    refine ⟨w.getD (w.length - 1 - prevI k w.length) 0, hm.sy _ _ a1, ?_⟩
    have nx := h.next (w.length - 1 - prevI k w.length) (by omega)
    have e : prevI (w.length - 1 - prevI k w.length) w.length = w.length - 1 - k := by
      rw [prevI_rev hk]
      unfold prevI
      by_cases z : k = 0
      · rw [if_pos z]; simp; omega
      · rw [if_neg z, if_neg (by omega)]; omega
    rw [e] at nx
    obtain ⟨s, c1, c2, c3⟩ := nx
    rw [a2] at c1
    cases c1
    exact ⟨c2.symm, fun z => c3 z.symm⟩
  · rw [backW_len] at hk
    obtain ⟨s, a, b⟩ := val k hk
    rw [b]
    exact (hm.lt _ _ a).2
  · rw [backW_len] at hk
    obtain ⟨s, a, b⟩ := val k hk
    rw [b, hm.sy _ _ a]
    rfl
theorem back_back {m : Nat} {mt : Nat → Option Nat} {w : List Nat} (hm : Mates (3 * m) mt) (h : Closed m mt w) : backW mt (backW mt w) = w := by
  unfold backW
  rw [← List.map_reverse, List.reverse_reverse, List.map_map]
  conv => rhs; rw [← List.map_id w]
  refine List.map_congr_left fun p hp => ?_
  obtain ⟨_, s, hs⟩ := h.mem hp
  simp [hs, hm.sy _ _ hs]
structure Backward (f : List D → FR) : Prop where
  yes : ∀ m mt nm w, TentOk m mt nm → Closed m mt w → w.length ≤ 1000000 → f [tentO .fz (csOf m nm), .lst .fz (natsL w)] = .ok [] (.lst .own (natsL (backW mt w)))
  no : ∀ m mt nm (ws : List Int), TentOk m mt nm → ws.length ≤ 1000000 → plainI m mt ws = false → f [tentO .fz (csOf m nm), .lst .fz (ws.map .int)] = .exn 7 []
def Sp_backward (f : List D → FR) : Prop := Backward f
theorem ok_backward (T : Tbl) (h28 : Sp_look_thread (T.F 28)) (h22 : Sp_Tent_mate (T.F 22)) (u28 : T.muts 28 = []) (u22 : T.muts 22 = []) (m22 : T.mc 22 = 0) : Sp_backward (run T ir_backward) := by
  refine ⟨fun m mt nm w t h hw => ?_, fun m mt nm ws t hw h => ?_⟩
  · have e := h28.yes m mt nm (intsOf w) t (by rw [intsOf_len]; exact hw) h.plain
    rw [← natsL_ints] at e
    have lo : lenOk w.length = true := lenOk_le hw
    have cm := cl_enc (T := T) (i := 2) (elt := ir_backward_e1) (ρ := [tentO .fz (csOf m nm), .lst .fz (natsL w), .und]) (fun (k : Nat) => D.int (k : Int)) w.reverse (fun p => .int (((mt p).getD 0 : Nat) : Int)) (fun p hp => by
      obtain ⟨hlt, s, hs⟩ := h.mem (List.mem_reverse.mp hp)
      have a := h22 m mt nm p t hlt
      rw [hs] at a
      simp at a
      refine ⟨?_, rfl⟩
      simp -implicitDefEqProofs [ir_backward_e1, m22, u22, a, hs])
    have ec : (w.reverse.map fun (k : Nat) => D.int (k : Int)) = (natsL w).reverse := by unfold natsL; rw [List.map_reverse]
    have ec2 : (w.reverse.map fun p => frz (D.int (((mt p).getD 0 : Nat) : Int))) = natsL (backW mt w) := by unfold natsL backW; rw [List.map_map]; rfl
    rw [ec, ec2] at cm
    simp at cm
    simp -implicitDefEqProofs [run_eq, ir_backward, u28, e, lo, cm]
  · have e := h28.no m mt nm ws t hw h
    simp -implicitDefEqProofs [run_eq, ir_backward, u28, e]
end TL

namespace TL
open PySem PySem.Spec PyProof.Rows L2

/-! ### pulled threads -/
def keepB (p q x : Nat) : Bool := decide (x ≠ p) && decide (x ≠ q)
def pieceN (mt : Nat → Option Nat) (p q : Nat) (l : Bool) (K : List Nat) (k : Nat) : List Nat :=
  turnP p q l (K.getD k 0) :: if turnP p q l ((mt (K.getD k 0)).getD 0) / 3 = turnP p q l (K.getD ((k + 1) % K.length) 0) / 3 then [] else if turnP p q l ((mt (K.getD k 0)).getD 0) / 3 = p / 3 then [p] else [q]
def pullN (mt : Nat → Option Nat) (p q : Nat) (l : Bool) (K : List Nat) (k : Nat) : List Nat := (List.range k).flatMap (pieceN mt p q l K)
def pullL (mt : Nat → Option Nat) (p q : Nat) (l : Bool) (w : List Nat) : List Nat := pullN mt p q l (w.filter (keepB p q)) (w.filter (keepB p q)).length
theorem mod_cast1 (k n : Nat) : ((k : Int) + 1) % (n : Int) = (((k + 1) % n : Nat) : Int) := by
  have h : ((k + 1 : Nat) : Int) % (n : Int) = (((k + 1) % n : Nat) : Int) := by omega
  rw [← h]
  congr 1
theorem pullN_succ {mt : Nat → Option Nat} {p q : Nat} {l : Bool} {K : List Nat} {k : Nat} : pullN mt p q l K (k + 1) = pullN mt p q l K k ++ pieceN mt p q l K k := by
  unfold pullN
  rw [List.range_succ, List.flatMap_append]
  simp
theorem pullN_len {mt : Nat → Option Nat} {p q : Nat} {l : Bool} {K : List Nat} {k : Nat} : (pullN mt p q l K k).length ≤ 2 * k := by
  induction k with
  | zero => simp [pullN]
  | succ k ih =>
    rw [pullN_succ, List.length_append]
    have : (pieceN mt p q l K k).length ≤ 2 := by unfold pieceN; (repeat' split) <;> simp
    omega
theorem natsL_filter {w : List Nat} {f : Nat → Bool} : ((w.filter f).map fun (k : Nat) => frz (D.int (k : Int))) = natsL (w.filter f) := rfl
def Sp_pulled (f : List D → FR) : Prop := ∀ m mt nm p q l w, Free m mt nm p q → p < q → Closed m mt w → w.length ≤ 100000 → f [tentO .fz (csOf m nm), .int (nm p), wayD l, .lst .fz (natsL w)] = .ok [] (.lst .own (natsL (pullL mt p q l w)))
theorem ok_pulled (T : Tbl) (h3 : Sp_Tent_places (T.F 3)) (h22 : Sp_Tent_mate (T.F 22)) (h28 : Sp_look_thread (T.F 28)) (h50 : Sp_shifts (T.F 50)) (u3 : T.muts 3 = []) (u22 : T.muts 22 = []) (u28 : T.muts 28 = []) (u50 : T.muts 50 = []) (m3 : T.mc 3 = 0) (m22 : T.mc 22 = 0) : Sp_pulled (run T ir_pulled) := fun m mt nm p q l w h hpq cw hw => by
  have t := h.ok
  have hl := t.le
  obtain ⟨kvs, e1, e2⟩ := h.turns h50 l
  have e3 := h28.yes m mt nm (intsOf w) t (by rw [intsOf_len]; omega) cw.plain
  rw [← natsL_ints] at e3
  have e4 := h3.yes (csOf m nm) (nm p) (flat_cs_mem.mpr ⟨p, h.lt.1, rfl⟩)
  rw [t.two h.e hpq] at e4
  simp at e4
  have c1 := cl_encF (T := T) (i := 10) (elt := ir_pulled_e1) (ifs := ir_pulled_i1) (ρ := [tentO .fz (csOf m nm), .int (nm p), wayD l, .lst .fz (natsL w), .dct .own kvs, .und, .und, .und, .int (p : Int), .int (q : Int), .und, .und, .und]) (fun (k : Nat) => D.int (k : Int)) w (keepB p q) (fun k => .int (k : Int)) (fun k hk => by
    refine ⟨?_, fun _ => ⟨by simp -implicitDefEqProofs [ir_pulled_e1], rfl⟩⟩
    unfold keepB
    by_cases z1 : k = p
    · simp -implicitDefEqProofs [ir_pulled_i1, z1]
    · by_cases z2 : k = q
      · have z1' : ¬ ((q : Int) = (p : Int)) := by omega
        have z1'' : ¬ (q = p) := by omega
        subst z2
        simp -implicitDefEqProofs [ir_pulled_i1, z1', z1'']
      · have z1' : ¬ ((k : Int) = (p : Int)) := by omega
        have z2' : ¬ ((k : Int) = (q : Int)) := by omega
        simp -implicitDefEqProofs [ir_pulled_i1, z1, z2, z1', z2'])
  rw [natsL_filter] at c1
  have ec : (w.map fun (k : Nat) => D.int (k : Int)) = natsL w := rfl
  rw [ec] at c1
  simp at c1
  have lw : lenOk w.length = true := lenOk_le (by omega)
  have hK : ∀ x ∈ w.filter (keepB p q), x < 3 * m ∧ ∃ s, mt x = some s := fun x hx => cw.mem (List.mem_filter.mp hx).1
  have hKl : (w.filter (keepB p q)).length ≤ w.length := List.length_filter_le _ _
  unfold pullL
  generalize w.filter (keepB p q) = K at c1 hK hKl
  have r1 := rng_one (n := K.length) (by omega)
  have d3 : divOk 3 = true := divOk_lit (by decide) (by decide)
  obtain ⟨ρ', g, d7, d10, d11, d12, g2⟩ := fl_range (T := T) (C := []) (i := 7) (b := ir_pulled_b1) (n := K.length) (ρ := [tentO .fz (csOf m nm), .int (nm p), wayD l, .lst .fz (natsL w), .dct .own kvs, .lst .own (natsL K), .lst .own [], .und, .int (p : Int), .int (q : Int), .und, .und, .und])
    (fun k ρ => ∃ d7 d10 d11 d12, ρ = [tentO .fz (csOf m nm), .int (nm p), wayD l, .lst .fz (natsL w), .dct .own kvs, .lst .own (natsL K), .lst .own (natsL (pullN mt p q l K k)), d7, .int (p : Int), .int (q : Int), d10, d11, d12]) (fun k hk ρ ⟨d7, d10, d11, d12, e⟩ => by
      subst e
      have hk1 : (k + 1) % K.length < K.length := Nat.mod_lt _ (by omega)
      have a1 := natsL_atD hk
      have a2 := natsL_atD hk1
      have em := mod_cast1 k K.length
      rw [← em] at a2
      obtain ⟨b1, s, b2⟩ := hK _ (getD_mem hk)
      have a3 := h22 m mt nm _ t b1
      rw [b2, optD_some] at a3
      have hp0 : (0 : Int) < (K.length : Int) := by omega
      have hp1 : 0 < K.length := by omega
      have hpl := pullN_len (mt := mt) (p := p) (q := q) (l := l) (K := K) (k := k)
      have lo1 : lenOk (pullN mt p q l K k).length = true := lenOk_le (by omega)
      have lo2 : lenOk ((pullN mt p q l K k).length + 1) = true := lenOk_le (by omega)
      show ∃ ρ2, _ ∧ ∃ d7 d10 d11 d12, ρ2 = ([tentO .fz (csOf m nm), .int (nm p), wayD l, .lst .fz (natsL w), .dct .own kvs, .lst .own (natsL K), .lst .own (natsL (pullN mt p q l K (k + 1))), d7, .int (p : Int), .int (q : Int), d10, d11, d12] : List D)
      rw [pullN_succ]
      unfold pieceN
      rw [b2, show (some s).getD 0 = s from rfl]
      generalize K.getD k 0 = x at a1 a3
      generalize K.getD ((k + 1) % K.length) 0 = y at a2
      generalize pullN mt p q l K k = row at lo1 lo2
      have f1 := e2 x
      have f2 := e2 y
      have f3 := e2 s
      generalize turnP p q l x = x' at f1
      generalize turnP p q l y = y' at f2
      generalize turnP p q l s = s' at f3
      by_cases z1 : s' / 3 = y' / 3
      · have z1' : (s' : Int) / 3 = (y' : Int) / 3 := by omega
        refine ⟨_, .inl ?_, .int (k : Int), .int (x : Int), .int (y' : Int), .int (s' : Int), rfl⟩
        rw [if_pos z1, natsL_append]
        simp -implicitDefEqProofs [ir_pulled_b1, a1, a2, a3, f1, f2, f3, hp0, hp1, lo1, m22, u22, d3, z1']
      · have z1' : ¬ ((s' : Int) / 3 = (y' : Int) / 3) := by omega
        by_cases z2 : s' / 3 = p / 3
        · have z2' : (s' : Int) / 3 = (p : Int) / 3 := by omega
          have z3' : ¬ ((p : Int) / 3 = (y' : Int) / 3) := by omega
          refine ⟨_, .inl ?_, .int (k : Int), .int (x : Int), .int (y' : Int), .int (s' : Int), rfl⟩
          rw [if_neg z1, if_pos z2, natsL_append]
          simp -implicitDefEqProofs [ir_pulled_b1, a1, a2, a3, f1, f2, f3, hp0, hp1, lo1, lo2, m22, u22, d3, z1', z2', z3']
        · have z2' : ¬ ((s' : Int) / 3 = (p : Int) / 3) := by omega
          refine ⟨_, .inl ?_, .int (k : Int), .int (x : Int), .int (y' : Int), .int (s' : Int), rfl⟩
          rw [if_neg z1, if_neg z2, natsL_append]
          simp -implicitDefEqProofs [ir_pulled_b1, a1, a2, a3, f1, f2, f3, hp0, hp1, lo1, lo2, m22, u22, d3, z1', z2']) ⟨.und, .und, .und, .und, rfl⟩
  subst g2
  simp -implicitDefEqProofs [run_eq, ir_pulled, u50, u28, u3, m3, e1, e3, e4, lw, c1, r1, g]
def Sp_law_pull (f : List D → FR) : Prop := ∀ m mt nm p q l w, Free m mt nm p q → p < q → Closed m mt w → w.length ≤ 100000 → f [.lst .fz (matesL (3 * m) mt), .int (p : Nat), .lst .fz (natT (3 * m) (turnP p q l)), .lst .fz (natsL w)] = .ok [] (.lst .own (natsL (pullL mt p q l w)))
theorem ok_law_pull (T : Tbl) : Sp_law_pull (run T ir_law_pull) := fun m mt nm p q l w h hpq cw hw => by
  have t := h.ok
  have hl := t.le
  have mp := matesL_at (mt := mt) h.lt.1
  rw [h.e, optD_some] at mp
  have f4 := h.four
  have c1 := cl_encF (T := T) (i := 9) (elt := ir_law_pull_e1) (ifs := ir_law_pull_i1) (ρ := [.lst .fz (matesL (3 * m) mt), .int (p : Nat), .lst .fz (natT (3 * m) (turnP p q l)), .lst .fz (natsL w), .und, .und, .und, .und, .und, .und]) (fun (k : Nat) => D.int (k : Int)) w (keepB p q) (fun k => .int (k : Int)) (fun k hk => by
    refine ⟨?_, fun _ => ⟨by simp -implicitDefEqProofs [ir_law_pull_e1], rfl⟩⟩
    unfold keepB
    by_cases z1 : k = p
    · simp -implicitDefEqProofs [ir_law_pull_i1, z1]
    · by_cases z2 : k = q
      · have z1' : ¬ ((q : Int) = (p : Int)) := by omega
        have z1'' : ¬ (q = p) := by omega
        subst z2
        simp -implicitDefEqProofs [ir_law_pull_i1, z1', z1'', mp]
      · have z1' : ¬ ((k : Int) = (p : Int)) := by omega
        have z2' : ¬ ((k : Int) = (q : Int)) := by omega
        simp -implicitDefEqProofs [ir_law_pull_i1, z1, z2, z1', z2', mp])
  rw [natsL_filter] at c1
  have ec : (w.map fun (k : Nat) => D.int (k : Int)) = natsL w := rfl
  rw [ec] at c1
  simp at c1
  have lw : lenOk w.length = true := lenOk_le (by omega)
  have hK : ∀ x ∈ w.filter (keepB p q), x < 3 * m ∧ ∃ s, mt x = some s := fun x hx => cw.mem (List.mem_filter.mp hx).1
  have hKl : (w.filter (keepB p q)).length ≤ w.length := List.length_filter_le _ _
  unfold pullL
  generalize w.filter (keepB p q) = K at c1 hK hKl
  have r1 := rng_one (n := K.length) (by omega)
  have d3 : divOk 3 = true := divOk_lit (by decide) (by decide)
  obtain ⟨ρ', g, d6, d7, d8, g2⟩ := fl_range (T := T) (C := []) (i := 6) (b := ir_law_pull_b1) (n := K.length) (ρ := [.lst .fz (matesL (3 * m) mt), .int (p : Nat), .lst .fz (natT (3 * m) (turnP p q l)), .lst .fz (natsL w), .lst .own (natsL K), .lst .own [], .und, .und, .und, .und])
    (fun k ρ => ∃ d6 d7 d8, ρ = [.lst .fz (matesL (3 * m) mt), .int (p : Nat), .lst .fz (natT (3 * m) (turnP p q l)), .lst .fz (natsL w), .lst .own (natsL K), .lst .own (natsL (pullN mt p q l K k)), d6, d7, d8, .und]) (fun k hk ρ ⟨d6, d7, d8, e⟩ => by
      subst e
      have hk1 : (k + 1) % K.length < K.length := Nat.mod_lt _ (by omega)
      have a1 := natsL_atD hk
      have a2 := natsL_atD hk1
      rw [← mod_cast1 k K.length] at a2
      obtain ⟨b1, s, b2⟩ := hK _ (getD_mem hk)
      obtain ⟨b3, _⟩ := hK _ (getD_mem hk1)
      have b4 := (t.mates.lt _ _ b2).2
      have a3 := matesL_at (mt := mt) b1
      rw [b2, optD_some] at a3
      have hp0 : (0 : Int) < (K.length : Int) := by omega
      have hp1 : 0 < K.length := by omega
      have hpl := pullN_len (mt := mt) (p := p) (q := q) (l := l) (K := K) (k := k)
      have lo1 : lenOk (pullN mt p q l K k).length = true := lenOk_le (by omega)
      have lo2 : lenOk ((pullN mt p q l K k).length + 1) = true := lenOk_le (by omega)
      show ∃ ρ2, _ ∧ ∃ d6 d7 d8, ρ2 = ([.lst .fz (matesL (3 * m) mt), .int (p : Nat), .lst .fz (natT (3 * m) (turnP p q l)), .lst .fz (natsL w), .lst .own (natsL K), .lst .own (natsL (pullN mt p q l K (k + 1))), d6, d7, d8, .und] : List D)
      rw [pullN_succ]
      unfold pieceN
      rw [b2, show (some s).getD 0 = s from rfl]
      have f1 := natT_at (g := turnP p q l) b1
      have f2 := natT_at (g := turnP p q l) b3
      have f3 := natT_at (g := turnP p q l) b4
      generalize K.getD k 0 = x at a1 a3 f1
      generalize K.getD ((k + 1) % K.length) 0 = y at a2 f2
      generalize pullN mt p q l K k = row at lo1 lo2
      generalize natT (3 * m) (turnP p q l) = G at f1 f2 f3
      generalize turnP p q l x = x' at f1
      generalize turnP p q l y = y' at f2
      generalize turnP p q l s = s' at f3
      by_cases z1 : s' / 3 = y' / 3
      · have z1' : (s' : Int) / 3 = (y' : Int) / 3 := by omega
        refine ⟨_, .inl ?_, .int (k : Int), .int (s' : Int), .int (y' : Int), rfl⟩
        rw [if_pos z1, natsL_append]
        simp -implicitDefEqProofs [ir_law_pull_b1, a1, a2, a3, f1, f2, f3, hp0, hp1, lo1, d3, z1']
      · have z1' : ¬ ((s' : Int) / 3 = (y' : Int) / 3) := by omega
        by_cases z2 : s' / 3 = p / 3
        · have z2' : (p : Int) / 3 = (s' : Int) / 3 := by omega
          refine ⟨_, .inl ?_, .int (k : Int), .int (s' : Int), .int (y' : Int), rfl⟩
          rw [if_neg z1, if_pos z2, natsL_append]
          simp -implicitDefEqProofs [ir_law_pull_b1, a1, a2, a3, f1, f2, f3, hp0, hp1, lo1, lo2, d3, z1', z2']
        · have z2' : ¬ ((p : Int) / 3 = (s' : Int) / 3) := by omega
          refine ⟨_, .inl ?_, .int (k : Int), .int (s' : Int), .int (y' : Int), rfl⟩
          rw [if_neg z1, if_neg z2, natsL_append]
          simp -implicitDefEqProofs [ir_law_pull_b1, a1, a2, a3, f1, f2, f3, hp0, hp1, lo1, lo2, d3, z1', z2', mp]) ⟨.und, .und, .und, rfl⟩
  subst g2
  simp -implicitDefEqProofs [run_eq, ir_law_pull, lw, c1, r1, g]
end TL

namespace TL
open PySem PySem.Spec PyProof.Rows L2

/-! ### seams told -/
theorem keyInts_map {f : Int → D} : ∀ l : List Int, keyInts (l.map fun s => ((Sum.inl s : Key), f s)) = some l
  | [] => rfl
  | s :: l => by
    rw [List.map_cons, keyInts, keyInts_map l]
theorem sorted_where {w : W} {l : List Int} (h : (firsts l).length < 64) : ap_sorted [.dct w (whereD l)] = some (.lst .own ((sortI (firsts l)).map .int)) := by
  have e : keyInts (whereD l) = some (firsts l) := keyInts_map (firsts l)
  simp only [ap_sorted, e, h, if_true]
def Sp_Tent_seams (f : List D → FR) : Prop := ∀ cs : List Cl, (firsts (flat cs)).length < 64 → f [tentO .fz cs] = .ok [] (.lst .own ((sortI (firsts (flat cs))).map .int))
theorem ok_Tent_seams (T : Tbl) : Sp_Tent_seams (run T ir_Tent_seams) := fun cs h => by
  have e := sorted_where (w := .fz) h
  simp -implicitDefEqProofs [run_eq, ir_Tent_seams, e]
structure SortOf (f : List D → FR) : Prop where
  no : ∀ cs s, s ∉ flat cs → f [tentO .fz cs, .int s] = .exn 3 []
  rim : ∀ cs s p, placesL s (flat cs) = [p] → f [tentO .fz cs, .int s] = .ok [] (.str "rim")
  lock : ∀ cs s p q, placesL s (flat cs) = [p, q] → p / 3 = q / 3 → f [tentO .fz cs, .int s] = .ok [] (.str "locked")
  free : ∀ cs s p q, placesL s (flat cs) = [p, q] → p / 3 ≠ q / 3 → f [tentO .fz cs, .int s] = .ok [] (.str "free")
def Sp_Tent_sort_of (f : List D → FR) : Prop := SortOf f
theorem ok_Tent_sort_of (T : Tbl) (h3 : Sp_Tent_places (T.F 3)) (m3 : T.mc 3 = 0) (u3 : T.muts 3 = []) : Sp_Tent_sort_of (run T ir_Tent_sort_of) := by
  have d3 : divOk 3 = true := divOk_lit (by decide) (by decide)
  refine ⟨fun cs s h => ?_, fun cs s p h => ?_, fun cs s p q h z => ?_, fun cs s p q h z => ?_⟩
  · have e := h3.no cs s h
    simp -implicitDefEqProofs [run_eq, ir_Tent_sort_of, m3, u3, e]
  · have e := h3.yes cs s (mem_of_places (p := p) (by rw [h]; exact List.mem_cons_self))
    rw [h] at e
    simp at e
    simp -implicitDefEqProofs [run_eq, ir_Tent_sort_of, m3, u3, e]
  · have e := h3.yes cs s (mem_of_places (p := p) (by rw [h]; exact List.mem_cons_self))
    rw [h] at e
    simp at e
    have z' : (p : Int) / 3 = (q : Int) / 3 := by omega
    simp -implicitDefEqProofs [run_eq, ir_Tent_sort_of, m3, u3, e, d3, z']
  · have e := h3.yes cs s (mem_of_places (p := p) (by rw [h]; exact List.mem_cons_self))
    rw [h] at e
    simp at e
    have z' : ¬ ((p : Int) / 3 = (q : Int) / 3) := by omega
    simp -implicitDefEqProofs [run_eq, ir_Tent_sort_of, m3, u3, e, d3, z']
/-- names of a law's tent: at most as many as places -/
theorem firsts_cs {m : Nat} {nm : Nat → Int} : (firsts (flat (csOf m nm))).length ≤ 3 * m := by
  have := firsts_len (l := flat (csOf m nm))
  rw [flat_cs_len] at this
  exact this
structure LawSort (f : List D → FR) : Prop where
  rim : ∀ p : Nat, f [.lst .fz (natsL [p])] = .ok [] (.str "rim")
  lock : ∀ p q : Nat, p / 3 = q / 3 → f [.lst .fz (natsL [p, q])] = .ok [] (.str "locked")
  free : ∀ p q : Nat, p / 3 ≠ q / 3 → f [.lst .fz (natsL [p, q])] = .ok [] (.str "free")
def Sp_law_sort (f : List D → FR) : Prop := LawSort f
theorem ok_law_sort (T : Tbl) : Sp_law_sort (run T ir_law_sort) := by
  have d3 : divOk 3 = true := divOk_lit (by decide) (by decide)
  refine ⟨fun p => ?_, fun p q z => ?_, fun p q z => ?_⟩
  · simp -implicitDefEqProofs [run_eq, ir_law_sort]
  · have z' : (p : Int) / 3 = (q : Int) / 3 := by omega
    simp -implicitDefEqProofs [run_eq, ir_law_sort, d3, z']
  · have z' : ¬ ((p : Int) / 3 = (q : Int) / 3) := by omega
    simp -implicitDefEqProofs [run_eq, ir_law_sort, d3, z']
/-! ### places and seams that a tent lacks -/
def Sp_outside (f : List D → FR) : Prop := ∀ m mt nm (i : Int), TentOk m mt nm → (i < 0 ∨ 3 * (m : Int) ≤ i) → f [tentO .fz (csOf m nm), .int i] = .ok [] (.bl true)
def Sp_mate_no (f : List D → FR) : Prop := ∀ (m : Nat) nm (i : Int), m ≤ 1000 → (i < 0 ∨ 3 * (m : Int) ≤ i) → f [tentO .fz (csOf m nm), .int i] = .exn 2 []
theorem mate_out (T : Tbl) (h21 : Sp_Tent_seam_at (T.F 21)) (m21 : T.mc 21 = 0) (u21 : T.muts 21 = []) {m : Nat} {nm : Nat → Int} {i : Int} (hm : m ≤ 1000) (hi : i < 0 ∨ 3 * (m : Int) ≤ i) : run T ir_Tent_mate [tentO .fz (csOf m nm), .int i] = .exn 2 [] := by
  have e := h21.no m nm i hm hi
  simp -implicitDefEqProofs [run_eq, ir_Tent_mate, m21, u21, e]
theorem ok_mate_no (T : Tbl) (h21 : Sp_Tent_seam_at (T.F 21)) (m21 : T.mc 21 = 0) (u21 : T.muts 21 = []) : Sp_mate_no (run T ir_Tent_mate) := fun m nm i hm hi => mate_out T h21 m21 u21 hm hi
theorem ok_outside (T : Tbl) (h21 : Sp_Tent_seam_at (T.F 21)) (h22 : Sp_mate_no (T.F 22)) (m21 : T.mc 21 = 0) (u21 : T.muts 21 = []) (m22 : T.mc 22 = 0) (u22 : T.muts 22 = []) (k2 : T.kx 2 = true) (s22 : T.sub 2 2 = true) : Sp_outside (run T ir_law_outside) := fun m mt nm i t hi => by
  have hl := t.le
  have e1 := h21.no m nm i (by omega) hi
  have e2 := h22 m nm i (by omega) hi
  simp -implicitDefEqProofs [run_eq, ir_law_outside, m21, u21, m22, u22, e1, e2, k2, s22, caught]
def Sp_mate_right (f : List D → FR) : Prop := ∀ m mt nm p, TentOk m mt nm → p < 3 * m → f [tentO .fz (csOf m nm), .lst .fz (matesL (3 * m) mt), .int (p : Nat)] = .ok [] (.bl true)
theorem ok_mate_right (T : Tbl) (h22 : Sp_Tent_mate (T.F 22)) (h108 : Sp_whole (T.F 108)) (m22 : T.mc 22 = 0) (u22 : T.muts 22 = []) (u108 : T.muts 108 = []) : Sp_mate_right (run T ir_law_mate_right) := fun m mt nm p t hp => by
  have a1 := h22 m mt nm p t hp
  have a2 := matesL_at (mt := mt) hp
  cases e : mt p with
  | none =>
    rw [e] at a1 a2
    simp at a1 a2
    simp -implicitDefEqProofs [run_eq, ir_law_mate_right, m22, u22, a1, a2]
  | some q =>
    rw [e] at a1 a2
    simp at a1 a2
    have hq := (t.mates.lt p q e).2
    have a3 := h22 m mt nm q t hq
    rw [t.mates.sy p q e] at a3
    simp at a3
    have a4 := h108.int (q : Int)
    simp -implicitDefEqProofs [run_eq, ir_law_mate_right, m22, u22, u108, a1, a2, a3, a4]
theorem dput_map {f : Int → D} {s : Int} {d : D} (l : List Int) (nd : l.Nodup) : dput (l.map fun t => ((Sum.inl t : Key), f t)) (Sum.inl s) d = if s ∈ l then l.map (fun t => ((Sum.inl t : Key), if t = s then d else f t)) else l.map (fun t => ((Sum.inl t : Key), f t)) ++ [(Sum.inl s, d)] := by
  unfold dput
  rw [dget_map]
  by_cases h : s ∈ l
  · rw [if_pos h, if_pos h, if_pos (show (some (f s)).isSome = true from rfl), List.map_map]
    refine List.map_congr_left fun t _ => ?_
    by_cases e : t = s
    · subst e; simp
    · have : ¬ ((Sum.inl t : Key) = Sum.inl s) := fun z => e (Sum.inl.inj z)
      simp [e, this]
  · rw [if_neg h, if_neg h]
    simp
theorem whereD_put {pre : List Int} {s : Int} : dput (whereD pre) (Sum.inl s : Key) (.lst .fz (natsL (placesL s pre ++ [pre.length]))) = whereD (pre ++ [s]) := by
  unfold whereD
  rw [dput_map _ firsts_nodup, firsts_snoc]
  have val : ∀ t, (if t = s then D.lst .fz (natsL (placesL s pre ++ [pre.length])) else .lst .fz (natsL (placesL t pre))) = .lst .fz (natsL (placesL t (pre ++ [s]))) := fun t => by
    rw [placesL_snoc]
    by_cases e : t = s
    · subst e; rw [if_pos rfl, if_pos rfl]
    · rw [if_neg e, if_neg (fun z => e z.symm), List.append_nil]
  by_cases h : s ∈ firsts pre
  · rw [if_pos h, if_pos h]
    exact List.map_congr_left fun t _ => by rw [← val t]
  · rw [if_neg h, if_neg h, List.map_append]
    congr 1
    · refine List.map_congr_left fun t m => ?_
      rw [← val t, if_neg (fun z => h (by rw [← z]; exact m))]
    · rw [List.map_cons, List.map_nil, ← val s, if_pos rfl]
theorem whereD_getL {pre : List Int} {s : Int} : (dget (whereD pre) (Sum.inl s : Key)).getD (.lst .fz []) = .lst .fz (natsL (placesL s pre)) := by
  rw [whereD_get]
  by_cases h : s ∈ pre
  · rw [if_pos h]; rfl
  · rw [if_neg h, placesL_none h]; rfl
def Sp_stranger (f : List D → FR) : Prop := ∀ cs s, s ∉ flat cs → f [tentO .fz cs, .int s] = .ok [] (.bl true)
theorem ok_stranger (T : Tbl) (h3 : Sp_Tent_places (T.F 3)) (h5 : Sp_Tent_sort_of (T.F 5)) (m3 : T.mc 3 = 0) (u3 : T.muts 3 = []) (m5 : T.mc 5 = 0) (u5 : T.muts 5 = []) (k3 : T.kx 3 = true) (s33 : T.sub 3 3 = true) : Sp_stranger (run T ir_law_stranger) := fun cs s h => by
  have e1 := h3.no cs s h
  have e2 := h5.no cs s h
  simp -implicitDefEqProofs [run_eq, ir_law_stranger, m3, u3, m5, u5, e1, e2, k3, s33, caught]
end TL

namespace TL
open PySem PySem.Spec PyProof.Rows L2

/-! ### data that == finds like itself -/
structure Sh (n : Nat) (d : D) (y : PyData) : Prop where
  py : toPy d = some y
  lay : y.canLay0 = true
  dep : y.depth ≤ n
structure ShL (n : Nat) (ds : List D) (ys : List PyData) : Prop where
  py : toPys ds = some ys
  lay : PyData.canLayAll0 ys = true
  dep : PyData.depthAll ys ≤ n
theorem Sh.up {n k : Nat} {d : D} {y : PyData} (h : Sh n d y) (hk : n ≤ k) : Sh k d y := ⟨h.py, h.lay, Nat.le_trans h.dep hk⟩
theorem Sh.int {i : Int} : Sh 1 (.int i) (.int i) := ⟨by rw [toPy], by simp [PyData.canLay0], by simp [PyData.depth]⟩
theorem Sh.bl {i : Bool} : Sh 1 (.bl i) (.bool i) := ⟨by rw [toPy], by simp [PyData.canLay0], by simp [PyData.depth]⟩
theorem Sh.non : Sh 1 .non .none := ⟨by rw [toPy], by simp [PyData.canLay0], by simp [PyData.depth]⟩
theorem Sh.str {x : Str} (h : PyData.strOk x = true) : Sh 1 (.str x) (.str x) := ⟨by rw [toPy], by simpa [PyData.canLay0] using h, by simp [PyData.depth]⟩
theorem ShL.nil {n : Nat} : ShL n [] [] := ⟨by rw [toPys], by simp [PyData.canLayAll0], by simp [PyData.depthAll]⟩
theorem ShL.cons {n : Nat} {d : D} {y : PyData} {ds : List D} {ys : List PyData} (h : Sh n d y) (hs : ShL n ds ys) : ShL n (d :: ds) (y :: ys) :=
  ⟨by rw [toPys, h.py, hs.py], by simp [PyData.canLayAll0, h.lay, hs.lay], by have a := h.dep; have b := hs.dep; rw [PyData.depthAll]; omega⟩
theorem ShL.lst {n : Nat} {w : W} {ds : List D} {ys : List PyData} (h : ShL n ds ys) : Sh (n + 1) (.lst w ds) (.list ys) :=
  ⟨by rw [toPy, h.py], by rw [PyData.canLay0]; exact h.lay, by rw [PyData.depth]; have := h.dep; omega⟩
theorem ShL.tup {n : Nat} {ds : List D} {ys : List PyData} (h : ShL n ds ys) : Sh (n + 1) (.tup ds) (.tuple ys) :=
  ⟨by rw [toPy, h.py], by rw [PyData.canLay0]; exact h.lay, by rw [PyData.depth]; have := h.dep; omega⟩
theorem ShL.map {α : Type} {n : Nat} {e : α → D} (h : ∀ a, ∃ y, Sh n (e a) y) : ∀ l : List α, ∃ ys, ShL n (l.map e) ys
  | [] => ⟨[], .nil⟩
  | a :: l => by
    obtain ⟨y, hy⟩ := h a
    obtain ⟨ys, hs⟩ := ShL.map h l
    exact ⟨y :: ys, .cons hy hs⟩
theorem Sh.eqD {n : Nat} {a b : D} {y : PyData} (ha : Sh n a y) (hb : Sh n b y) (hn : n ≤ 64) (hs : eqS a b = none) : TL.eqD a b = some true := by
  have h2 : SeqAt.shaped y = true := by
    unfold SeqAt.shaped
    have := ha.dep
    rw [ha.lay, decide_eq_true (by omega : y.depth ≤ 64)]
    rfl
  have h3 : PyData.eqv y y = true := PySem.SeqAt.eqv_refl y ha.lay
  simp only [TL.eqD, hs, ha.py, hb.py, h2, Bool.and_self, if_true, h3]
theorem Sh.eqL {n : Nat} {xs : List D} {y : PyData} {u v : W} (ha : Sh n (.lst u xs) y) (hn : n ≤ 64) : TL.eqD (.lst u xs) (.lst v xs) = some true :=
  Sh.eqD ha ⟨by rw [← ha.py, toPy, toPy], ha.lay, ha.dep⟩ hn rfl
theorem Sh.eqT {n : Nat} {xs : List D} {y : PyData} (ha : Sh n (.tup xs) y) (hn : n ≤ 64) : TL.eqD (.tup xs) (.tup xs) = some true := Sh.eqD ha ha hn rfl

/-! ### places in a row -/
theorem inFlat_nats {x : Nat} : ∀ w : List Nat, inFlat (.int (x : Int)) (natsL w) = some (decide (x ∈ w))
  | [] => by simp [inFlat]
  | y :: w => by
    rw [natsL_cons, inFlat, inFlat_nats w]
    have e : eqS (.int (y : Int)) (.int (x : Int)) = some (decide ((y : Int) = (x : Int))) := rfl
    rw [e]
    show some (decide ((y : Int) = (x : Int)) || decide (x ∈ w)) = _
    congr 1
    by_cases h : x = y
    · subst h; simp
    · have h' : ¬ ((y : Int) = (x : Int)) := by omega
      simp [h, h']
theorem in_nats {x : Nat} {u : W} {w : List Nat} : ap_inn [.int (x : Int), .lst u (natsL w)] = some (.bl (decide (x ∈ w))) := by
  show (if (!flat1 (.int (x : Int))) = true then none else match inFlat (.int (x : Int)) (natsL w) with | some r => some (D.bl r) | none => none) = _
  rw [inFlat_nats]
  rfl
theorem ne_nats {a b : W} {w : List Nat} : ap_ne [.lst a (natsL w), .lst b (natsL w)] = some (.bl false) := by rw [natsL_ints]; exact ne_l
/-! ### rows of exchanges -/
theorem turnP_at {p q : Nat} (h : p / 3 ≠ q / 3) (l : Bool) : turnP p q l p = p ∧ turnP p q l q = q := by
  unfold turnP turnF nxt prv
  cases l <;> simp only [if_true, if_false, Bool.false_eq_true] <;> constructor <;> (repeat' split) <;> omega
theorem Free.kept {m : Nat} {mt : Nat → Option Nat} {nm : Nat → Int} {p q : Nat} (h : Free m mt nm p q) (l : Bool) : Free m (mtT p q l mt) (nmT p q l nm) p q ∧ nmT p q l nm p = nm p := by
  refine ⟨⟨h.turn l, ?_, h.ne⟩, ?_⟩
  · unfold mtT
    rw [(turnP_at h.ne (!l)).1, h.e, Option.map_some, (turnP_at h.ne l).2]
  · unfold nmT
    rw [(turnP_at h.ne (!l)).1]
theorem nmT_back {m : Nat} {mt : Nat → Option Nat} {nm : Nat → Int} {p q : Nat} (h : Free m mt nm p q) (l : Bool) : nmT p q (!l) (nmT p q l nm) = nm := by
  funext y
  unfold nmT
  rw [Bool.not_not]
  have : turnP p q (!l) (turnP p q l y) = y := h.four.inv l y
  rw [this]
theorem mtT_back {m : Nat} {mt : Nat → Option Nat} {nm : Nat → Int} {p q : Nat} (h : Free m mt nm p q) (l : Bool) : mtT p q (!l) (mtT p q l mt) = mt := by
  funext y
  unfold mtT
  rw [Bool.not_not]
  have e : turnP p q (!l) (turnP p q l y) = y := h.four.inv l y
  rw [e]
  cases mt y with
  | none => rfl
  | some z =>
    have e2 : turnP p q (!l) (turnP p q l z) = z := h.four.inv l z
    simp [e2]
def pairD (x : Int × Bool) : D := .tup [.int x.1, wayD x.2]
def movesL (M : List (Int × Bool)) : List D := M.map pairD
theorem wayD_sh (l : Bool) : ∃ y, Sh 1 (wayD l) y := by
  cases l
  · exact ⟨_, Sh.str (x := "right") (by decide +kernel)⟩
  · exact ⟨_, Sh.str (x := "left") (by decide +kernel)⟩
theorem pairD_sh (x : Int × Bool) : ∃ y, Sh 2 (pairD x) y := by
  obtain ⟨y, h⟩ := wayD_sh x.2
  exact ⟨_, ShL.tup (.cons Sh.int (.cons h .nil))⟩
theorem movesL_sh (w : W) (M : List (Int × Bool)) : ∃ y, Sh 3 (.lst w (movesL M)) y := by
  obtain ⟨ys, h⟩ := ShL.map pairD_sh M
  exact ⟨_, ShL.lst h⟩
theorem moves_ne {u v : W} {M : List (Int × Bool)} : ap_ne [.lst u (movesL M), .lst v (movesL M)] = some (.bl false) := by
  obtain ⟨y, h⟩ := movesL_sh u M
  simp only [ap_ne, Sh.eqL h (by decide), Bool.not_true]
theorem pair_ne {x : Int × Bool} : ap_ne [pairD x, pairD x] = some (.bl false) := by
  obtain ⟨y, h⟩ := pairD_sh x
  simp only [ap_ne, pairD, Sh.eqT h (by decide), Bool.not_true]
inductive Path (m : Nat) : (Nat → Option Nat) → (Nat → Int) → List (Int × Bool) → (Nat → Option Nat) → (Nat → Int) → Prop
  | nil {mt nm} : TentOk m mt nm → Path m mt nm [] mt nm
  | cons {mt nm M mt' nm' p q} (l : Bool) : Free m mt nm p q → Path m (mtT p q l mt) (nmT p q l nm) M mt' nm' → Path m mt nm ((nm p, l) :: M) mt' nm'
theorem Path.ok {m : Nat} {mt mt' : Nat → Option Nat} {nm nm' : Nat → Int} {M : List (Int × Bool)} (h : Path m mt nm M mt' nm') : TentOk m mt nm := by
  cases h with
  | nil t => exact t
  | cons l f _ => exact f.ok
theorem Path.ok' {m : Nat} {mt mt' : Nat → Option Nat} {nm nm' : Nat → Int} {M : List (Int × Bool)} (h : Path m mt nm M mt' nm') : TentOk m mt' nm' := by
  induction h with
  | nil t => exact t
  | cons l f _ ih => exact ih
theorem Path.snoc {m : Nat} {mt mt' : Nat → Option Nat} {nm nm' : Nat → Int} {M : List (Int × Bool)} (h : Path m mt nm M mt' nm') {p q : Nat} (l : Bool) (f : Free m mt' nm' p q) : Path m mt nm (M ++ [(nm' p, l)]) (mtT p q l mt') (nmT p q l nm') := by
  induction h with
  | nil t => exact .cons l f (.nil (f.turn l))
  | cons l' f' _ ih => exact .cons l' f' (ih f)
def backM (M : List (Int × Bool)) : List (Int × Bool) := (M.map fun x => (x.1, !x.2)).reverse
theorem backM_snoc {M : List (Int × Bool)} {s : Int} {l : Bool} : backM (M ++ [(s, l)]) = (s, !l) :: backM M := by simp [backM]
theorem backM_cons {M : List (Int × Bool)} {s : Int} {l : Bool} : backM ((s, l) :: M) = backM M ++ [(s, !l)] := by simp [backM]
theorem Path.back {m : Nat} {mt mt' : Nat → Option Nat} {nm nm' : Nat → Int} {M : List (Int × Bool)} (h : Path m mt nm M mt' nm') : Path m mt' nm' (backM M) mt nm := by
  induction h with
  | nil t => exact .nil t
  | @cons mt nm M mt' nm' p q l f _ ih =>
    rw [backM_cons]
    obtain ⟨k1, k2⟩ := f.kept l
    have := ih.snoc (!l) k1
    rw [k2, mtT_back f l, nmT_back f l] at this
    exact this
theorem pick_ways {u v : Nat} : u = u := rfl
structure Driven (f : List D → FR) : Prop where
  yes : ∀ m mt nm M mt' nm', Path m mt nm M mt' nm' → ∃ w', (w' = .own ∨ w' = .fz) ∧ f [tentO .fz (csOf m nm), .lst .fz (movesL M)] = .ok [] (tentO w' (csOf m nm'))
  way : ∀ m mt nm M mt' nm' s z (xs : List D), Path m mt nm M mt' nm' → z ≠ Str.ofString "left" → z ≠ Str.ofString "right" → f [tentO .fz (csOf m nm), .lst .fz (movesL M ++ .tup [.int s, .str z] :: xs)] = .exn 6 []
def Sp_driven (f : List D → FR) : Prop := Driven f
def Sp_exch_way (f : List D → FR) : Prop := ∀ cs s z, z ≠ Str.ofString "left" → z ≠ Str.ofString "right" → f [tentO .fz cs, .int s, .str z] = .exn 6 []
theorem ok_exch_way (T : Tbl) (h50 : Sp_shifts (T.F 50)) (u50 : T.muts 50 = []) : Sp_exch_way (run T ir_exchanged) := fun cs s z z1 z2 => by
  have e := h50.way cs s z z1 z2
  simp -implicitDefEqProofs [run_eq, ir_exchanged, u50, e]
theorem driven_fl (T : Tbl) (h51 : Sp_exchanged (T.F 51)) (u51 : T.muts 51 = []) {m : Nat} {mt mt' : Nat → Option Nat} {nm nm' : Nat → Int} {M : List (Int × Bool)} (h : Path m mt nm M mt' nm') (xs : List D) (d1 : D) :
    ∀ (w : W) (d2 d3 : D), (w = .own ∨ w = .fz) → ∃ w' d2' d3', (w' = .own ∨ w' = .fz) ∧ fl T [] (.tup [2, 3]) ir_driven_b1 (movesL M ++ xs) [tentO w (csOf m nm), d1, d2, d3] = fl T [] (.tup [2, 3]) ir_driven_b1 xs [tentO w' (csOf m nm'), d1, d2', d3'] := by
  induction h with
  | nil t => exact fun w d2 d3 hw => ⟨w, d2, d3, hw, rfl⟩
  | @cons mt nm M mt' nm' p q l f _ ih =>
    intro w d2 d3 hw
    obtain ⟨w', d2', d3', q1, q2⟩ := ih .own (.int (nm p)) (wayD l) (.inl rfl)
    refine ⟨w', d2', d3', q1, ?_⟩
    rw [← q2]
    have e := h51.yes m mt nm p q l f
    show fl T [] (.tup [2, 3]) ir_driven_b1 (pairD (nm p, l) :: (movesL M ++ xs)) _ = _
    rw [fl_cons]
    rcases hw with rfl | rfl <;> simp -implicitDefEqProofs [pairD, ir_driven_b1, u51, e]
theorem ok_driven (T : Tbl) (h51 : Sp_exchanged (T.F 51)) (h51b : Sp_exch_way (T.F 51)) (u51 : T.muts 51 = []) : Sp_driven (run T ir_driven) := by
  refine ⟨fun m mt nm M mt' nm' h => ?_, fun m mt nm M mt' nm' s z xs h z1 z2 => ?_⟩
  · obtain ⟨w', d2, d3, q1, q2⟩ := driven_fl T h51 u51 h [] (.lst .fz (movesL M)) .fz .und .und (.inr rfl)
    rw [List.append_nil, fl_nil] at q2
    refine ⟨w', q1, ?_⟩
    rcases q1 with rfl | rfl <;> simp -implicitDefEqProofs [run_eq, ir_driven, q2]
  · obtain ⟨w', d2, d3, q1, q2⟩ := driven_fl T h51 u51 h (.tup [.int s, .str z] :: xs) (.lst .fz (movesL M ++ .tup [.int s, .str z] :: xs)) .fz .und .und (.inr rfl)
    have e := h51b (csOf m nm') s z z1 z2
    rw [fl_cons] at q2
    have q3 : optO (store1 (.tup [2, 3]) (.tup [.int s, .str z]) [tentO w' (csOf m nm'), (.lst .fz (movesL M ++ .tup [.int s, .str z] :: xs)), d2, d3]) (fun ρ1 => loopK (execs T [] ir_driven_b1 ρ1) (fl T [] (.tup [2, 3]) ir_driven_b1 xs)) = .exn 6 [tentO w' (csOf m nm'), (.lst .fz (movesL M ++ .tup [.int s, .str z] :: xs)), .int s, .str z] := by
      rcases q1 with rfl | rfl <;> simp -implicitDefEqProofs [ir_driven_b1, u51, e]
    rw [q3] at q2
    simp -implicitDefEqProofs [run_eq, ir_driven, q2]
def Sp_contrary_no (f : List D → FR) : Prop := ∀ z, z ≠ Str.ofString "left" → z ≠ Str.ofString "right" → f [.str z] = .exn 6 []
theorem ok_contrary_no (T : Tbl) : Sp_contrary_no (run T ir_contrary) := fun z z1 z2 => by
  simp -implicitDefEqProofs [run_eq, ir_contrary, z1, z2]
structure Undoing (f : List D → FR) : Prop where
  yes : ∀ M : List (Int × Bool), M.length ≤ 1000 → f [.lst .fz (movesL M)] = .ok [] (.lst .own (movesL (backM M)))
  way : ∀ (M : List (Int × Bool)) s z (xs : List D), M.length ≤ 1000 → z ≠ Str.ofString "left" → z ≠ Str.ofString "right" → f [.lst .fz (xs ++ .tup [.int s, .str z] :: movesL M)] = .exn 6 []
def Sp_undoing (f : List D → FR) : Prop := Undoing f
theorem undoing_fl (T : Tbl) (h68 : Sp_contrary (T.F 68)) (u68 : T.muts 68 = []) (xs : List D) (d0 : D) :
    ∀ (M R : List (Int × Bool)) (d2 d3 : D), M.length + R.length ≤ 1000 → ∃ d2' d3', fl T [] (.tup [2, 3]) ir_undoing_b1 (movesL M ++ xs) [d0, .lst .own (movesL R), d2, d3] = fl T [] (.tup [2, 3]) ir_undoing_b1 xs [d0, .lst .own (movesL (R ++ M.map fun x => (x.1, !x.2))), d2', d3']
  | [], R, d2, d3, _ => ⟨d2, d3, by simp [movesL]⟩
  | (s, l) :: M, R, d2, d3, h => by
    obtain ⟨d2', d3', q⟩ := undoing_fl T h68 u68 xs d0 M (R ++ [(s, !l)]) (.int s) (wayD l) (by simp at h ⊢; omega)
    refine ⟨d2', d3', ?_⟩
    rw [List.map_cons, show R ++ (fun x : Int × Bool => (x.1, !x.2)) (s, l) :: List.map (fun x => (x.1, !x.2)) M = (R ++ [(s, !l)]) ++ List.map (fun x => (x.1, !x.2)) M by simp, ← q]
    have e := h68 l
    have lo : lenOk (movesL R).length = true := lenOk_le (by simp [movesL]; simp at h; omega)
    show fl T [] (.tup [2, 3]) ir_undoing_b1 (pairD (s, l) :: (movesL M ++ xs)) _ = _
    rw [fl_cons]
    have e2 : movesL (R ++ [(s, !l)]) = movesL R ++ [pairD (s, !l)] := by simp [movesL]
    rw [e2]
    generalize movesL R = RR at lo
    simp -implicitDefEqProofs [pairD, ir_undoing_b1, u68, e, lo]
theorem movesL_rev {M : List (Int × Bool)} : (movesL M).reverse = movesL M.reverse := by simp [movesL]
theorem ok_undoing (T : Tbl) (h68 : Sp_contrary (T.F 68)) (h68b : Sp_contrary_no (T.F 68)) (u68 : T.muts 68 = []) : Sp_undoing (run T ir_undoing) := by
  refine ⟨fun M hl => ?_, fun M s z xs hl z1 z2 => ?_⟩
  · obtain ⟨d2, d3, q⟩ := undoing_fl T h68 u68 [] (.lst .fz (movesL M)) M.reverse [] .und .und (by simpa using hl)
    rw [List.append_nil, fl_nil, ← movesL_rev] at q
    have e : movesL ([] ++ M.reverse.map fun x => (x.1, !x.2)) = movesL (backM M) := by simp [movesL, backM, List.map_reverse]
    rw [e] at q
    have q' : fl T [] (.tup [2, 3]) ir_undoing_b1 (movesL M).reverse [.lst .fz (movesL M), .lst .own [], .und, .und] = .nx [.lst .fz (movesL M), .lst .own (movesL (backM M)), d2, d3] := q
    simp -implicitDefEqProofs [run_eq, ir_undoing, q']
  · obtain ⟨d2, d3, q⟩ := undoing_fl T h68 u68 (.tup [.int s, .str z] :: xs.reverse) (.lst .fz (xs ++ .tup [.int s, .str z] :: movesL M)) M.reverse [] .und .und (by simpa using hl)
    have e := h68b z z1 z2
    rw [fl_cons] at q
    have er : (xs ++ .tup [.int s, .str z] :: movesL M).reverse = movesL M.reverse ++ .tup [.int s, .str z] :: xs.reverse := by simp [← movesL_rev]
    rw [← er] at q
    generalize movesL ([] ++ M.reverse.map fun x => (x.1, !x.2)) = RR at q
    have q' : fl T [] (.tup [2, 3]) ir_undoing_b1 (xs ++ .tup [.int s, .str z] :: movesL M).reverse [(.lst .fz (xs ++ .tup [.int s, .str z] :: movesL M)), .lst .own [], .und, .und] = .exn 6 [(.lst .fz (xs ++ .tup [.int s, .str z] :: movesL M)), .lst .own RR, .int s, .str z] := by
      have q2 := q
      rw [show movesL [] = ([] : List D) from rfl] at q2
      rw [q2]
      simp -implicitDefEqProofs [ir_undoing_b1, u68, e]
    generalize (xs ++ .tup [.int s, .str z] :: movesL M) = L at q'
    simp -implicitDefEqProofs [run_eq, ir_undoing, q']
end TL

namespace TL
open PySem PySem.Spec PyProof.Rows L2

/-! ### texts of turns -/
def chS (b : Bool) : Str := if b = true then "R" else "L"
def chN (b : Bool) : Nat := if b = true then 82 else 76
def turnsS (bs : List Bool) : Str := ⟨(bs.map chN).toArray⟩
def strsL (bs : List Bool) : List D := bs.map fun b => .str (chS b)
@[simp] theorem strsL_len {bs : List Bool} : (strsL bs).length = bs.length := by simp [strsL]
theorem chS_eq (b : Bool) : chS b = ⟨#[chN b]⟩ := by cases b <;> rfl
theorem fold_ch : ∀ (bs : List Bool) (a : Array Nat), (List.foldl (fun acc (p : Str) => acc ++ (Str.ofString "").cps ++ p.cps) a (bs.map chS)).toList = a.toList ++ bs.map chN
  | [], a => by simp
  | b :: bs, a => by
    rw [List.map_cons, List.foldl_cons, fold_ch bs]
    have e : (Str.ofString "").cps = #[] := rfl
    rw [e, chS_eq]
    simp
theorem join_turns (bs : List Bool) : Txt.join (Str.ofString "") (bs.map chS) = turnsS bs := by
  have h : (Txt.join (Str.ofString "") (bs.map chS)).cps.toList = bs.map chN := by
    show (List.foldl (fun acc (p : Str) => acc ++ (Str.ofString "").cps ++ p.cps) ((bs.map chS).headD Str.empty).cps ((bs.map chS).drop 1)).toList = _
    cases bs with
    | nil => rfl
    | cons b bs =>
      show (List.foldl _ (chS b).cps (bs.map chS)).toList = _
      rw [fold_ch, chS_eq]
      rfl
  unfold turnsS
  generalize Txt.join (Str.ofString "") (bs.map chS) = z at h
  cases z with
  | mk c =>
    have h : c.toList = bs.map chN := h
    rw [← h]
theorem strsD_turns : ∀ bs : List Bool, strsD (strsL bs) = some (bs.map chS)
  | [] => rfl
  | b :: bs => by
    have e : strsL (b :: bs) = .str (chS b) :: strsL bs := rfl
    rw [e, strsD, strsD_turns bs]
    rfl
theorem sum_ch : ∀ bs : List Bool, ((bs.map chS).map (fun x : Str => x.length)).sum = bs.length
  | [] => rfl
  | b :: bs => by
    rw [List.map_cons, List.map_cons, List.sum_cons, sum_ch bs, List.length_cons]
    have e : (chS b).length = 1 := by cases b <;> rfl
    rw [e]; omega
theorem ap_join_turns {w : W} {bs : List Bool} (h : bs.length ≤ 1000000) : ap_join [.str (Str.ofString ""), .lst w (strsL bs)] = some (.str (turnsS bs)) := by
  show (match strsD (strsL bs) with | some zs => if decide ((zs.map (fun x : Str => x.length)).sum + (Str.ofString "").length * zs.length ≤ 1000000) = true then some (D.str (Txt.join (Str.ofString "") zs)) else none | none => none) = _
  rw [strsD_turns]
  have e : (Str.ofString "").length = 0 := rfl
  show (if _ then _ else _) = _
  rw [sum_ch, e, if_pos (decide_eq_true (by omega)), join_turns]
theorem items_turns {e : IE} {bs : List Bool} : items2 e (.str (turnsS bs)) = some (strsL bs) := by
  show some ((turnsS bs).cps.toList.map fun c => D.str ⟨#[c]⟩) = _
  unfold turnsS strsL
  rw [List.map_map]
  congr 1
  refine List.map_congr_left fun b _ => ?_
  rw [chS_eq]
  rfl
/-! ### letters -/
def letB (mt : Nat → Option Nat) (w : List Nat) (k : Nat) : Bool := decide (w.getD ((k + 1) % w.length) 0 = nxt ((mt (w.getD k 0)).getD 0))
def lettersL (mt : Nat → Option Nat) (w : List Nat) : List Bool := (List.range w.length).map (letB mt w)
@[simp] theorem lettersL_len {mt : Nat → Option Nat} {w : List Nat} : (lettersL mt w).length = w.length := by simp [lettersL]
theorem strs_succ {f : Nat → Bool} {k : Nat} : strsL ((List.range (k + 1)).map f) = strsL ((List.range k).map f) ++ [.str (chS (f k))] := by simp [strsL, List.range_succ]
structure Letters (f : List D → FR) : Prop where
  yes : ∀ m mt nm w, TentOk m mt nm → Closed m mt w → w.length ≤ 100000 → f [tentO .fz (csOf m nm), .lst .fz (natsL w)] = .ok [] (.str (turnsS (lettersL mt w)))
  no : ∀ m mt nm (ws : List Int), TentOk m mt nm → ws.length ≤ 1000000 → plainI m mt ws = false → f [tentO .fz (csOf m nm), .lst .fz (ws.map .int)] = .exn 7 []
def Sp_letters (f : List D → FR) : Prop := Letters f
theorem ok_letters (T : Tbl) (h28 : Sp_look_thread (T.F 28)) (h22 : Sp_Tent_mate (T.F 22)) (h32 : Sp_after (T.F 32)) (u28 : T.muts 28 = []) (u22 : T.muts 22 = []) (u32 : T.muts 32 = []) (m22 : T.mc 22 = 0) : Sp_letters (run T ir_letters) := by
  refine ⟨fun m mt nm w t h hw => ?_, fun m mt nm ws t hw h => ?_⟩
  · have e := h28.yes m mt nm (intsOf w) t (by rw [intsOf_len]; omega) h.plain
    rw [← natsL_ints] at e
    have r1 := rng_one (n := w.length) (by omega)
    obtain ⟨ρ', g1, d3, d4, d5, g2⟩ := fl_range (T := T) (C := []) (i := 3) (b := ir_letters_b1) (n := w.length) (ρ := [tentO .fz (csOf m nm), .lst .fz (natsL w), .lst .own [], .und, .und, .und])
      (fun k ρ => ∃ d3 d4 d5, ρ = [tentO .fz (csOf m nm), .lst .fz (natsL w), .lst .own (strsL ((List.range k).map (letB mt w))), d3, d4, d5]) (fun k hk ρ ⟨d3, d4, d5, e⟩ => by
        subst e
        have hk1 : (k + 1) % w.length < w.length := Nat.mod_lt _ (by omega)
        have a1 := natsL_atD hk
        have a2 := natsL_atD hk1
        rw [← mod_cast1 k w.length] at a2
        obtain ⟨s, hs⟩ := Option.isSome_iff_exists.mp (h.so k hk)
        have a3 := h22 m mt nm _ t (h.lt k hk)
        rw [hs] at a3
        have a4 := h32 s
        have hp0 : (0 : Int) < (w.length : Int) := by omega
        have hp1 : 0 < w.length := by omega
        have lo : lenOk (strsL ((List.range k).map (letB mt w))).length = true := lenOk_le (by simp; omega)
        show ∃ ρ2, _ ∧ ∃ d3 d4 d5, ρ2 = ([tentO .fz (csOf m nm), .lst .fz (natsL w), .lst .own (strsL ((List.range (k + 1)).map (letB mt w))), d3, d4, d5] : List D)
        rw [strs_succ]
        generalize strsL ((List.range k).map (letB mt w)) = R at lo
        have hb : letB mt w k = decide (w.getD ((k + 1) % w.length) 0 = nxt s) := by unfold letB; rw [hs]; rfl
        rw [hb]
        generalize w.getD ((k + 1) % w.length) 0 = y at a2
        generalize w.getD k 0 = x at a1 a3
        simp at a3
        by_cases z : y = nxt s
        · refine ⟨_, .inl ?_, .int (k : Int), .int (s : Int), .int (y : Int), rfl⟩
          rw [decide_eq_true z]
          rw [z] at a2
          simp -implicitDefEqProofs [ir_letters_b1, u22, m22, u32, a1, a2, a3, a4, hp0, hp1, lo, z, chS]
        · have z' : ¬ ((y : Int) = (nxt s : Int)) := by omega
          refine ⟨_, .inl ?_, .int (k : Int), .int (s : Int), .int (y : Int), rfl⟩
          rw [decide_eq_false z]
          simp -implicitDefEqProofs [ir_letters_b1, u22, m22, u32, a1, a2, a3, a4, hp0, hp1, lo, z, z', chS]) ⟨.und, .und, .und, rfl⟩
    subst g2
    have j := ap_join_turns (w := .own) (bs := lettersL mt w) (by rw [lettersL_len]; omega)
    unfold lettersL at j ⊢
    simp -implicitDefEqProofs [run_eq, ir_letters, u28, e, r1, g1, j]
  · have e := h28.no m mt nm ws t hw h
    simp -implicitDefEqProofs [run_eq, ir_letters, u28, e]
def Sp_law_turns (f : List D → FR) : Prop := ∀ m mt w, m ≤ 1000 → Mates (3 * m) mt → Closed m mt w → w.length ≤ 100000 → f [.lst .fz (matesL (3 * m) mt), .lst .fz (natsL w)] = .ok [] (.str (turnsS (lettersL mt w)))
theorem ok_law_turns (T : Tbl) : Sp_law_turns (run T ir_law_turns) := fun m mt w hm mm h hw => by
  have r1 := rng_one (n := w.length) (by omega)
  have d3' : divOk 3 = true := divOk_lit (by decide) (by decide)
  obtain ⟨ρ', g1, d3, d4, d5, g2⟩ := fl_range (T := T) (C := []) (i := 3) (b := ir_law_turns_b1) (n := w.length) (ρ := [.lst .fz (matesL (3 * m) mt), .lst .fz (natsL w), .lst .own [], .und, .und, .und])
    (fun k ρ => ∃ d3 d4 d5, ρ = [.lst .fz (matesL (3 * m) mt), .lst .fz (natsL w), .lst .own (strsL ((List.range k).map (letB mt w))), d3, d4, d5]) (fun k hk ρ ⟨d3, d4, d5, e⟩ => by
      subst e
      have hk1 : (k + 1) % w.length < w.length := Nat.mod_lt _ (by omega)
      have a1 := natsL_atD hk
      have a2 := natsL_atD hk1
      rw [← mod_cast1 k w.length] at a2
      obtain ⟨s, hs⟩ := Option.isSome_iff_exists.mp (h.so k hk)
      have a3 := matesL_at (mt := mt) (h.lt k hk)
      rw [hs] at a3
      have a4 := nxt_i s
      have hp0 : (0 : Int) < (w.length : Int) := by omega
      have hp1 : 0 < w.length := by omega
      have lo : lenOk (strsL ((List.range k).map (letB mt w))).length = true := lenOk_le (by simp; omega)
      show ∃ ρ2, _ ∧ ∃ d3 d4 d5, ρ2 = ([.lst .fz (matesL (3 * m) mt), .lst .fz (natsL w), .lst .own (strsL ((List.range (k + 1)).map (letB mt w))), d3, d4, d5] : List D)
      rw [strs_succ]
      generalize strsL ((List.range k).map (letB mt w)) = R at lo
      have hb : letB mt w k = decide (w.getD ((k + 1) % w.length) 0 = nxt s) := by unfold letB; rw [hs]; rfl
      rw [hb]
      generalize w.getD ((k + 1) % w.length) 0 = y at a2
      generalize w.getD k 0 = x at a1 a3
      simp at a3
      by_cases z : y = nxt s
      · refine ⟨_, .inl ?_, .int (k : Int), .int (s : Int), .int (y : Int), rfl⟩
        rw [decide_eq_true z]
        rw [z] at a2
        simp -implicitDefEqProofs [ir_law_turns_b1, a1, a2, a3, a4, hp0, hp1, lo, z, chS]
      · have z' : ¬ ((y : Int) = (nxt s : Int)) := by omega
        refine ⟨_, .inl ?_, .int (k : Int), .int (s : Int), .int (y : Int), rfl⟩
        rw [decide_eq_false z]
        simp -implicitDefEqProofs [ir_law_turns_b1, a1, a2, a3, a4, hp0, hp1, lo, z, z', chS]) ⟨.und, .und, .und, rfl⟩
  subst g2
  have j := ap_join_turns (w := .own) (bs := lettersL mt w) (by rw [lettersL_len]; omega)
  unfold lettersL at j ⊢
  simp -implicitDefEqProofs [run_eq, ir_law_turns, r1, g1, j]
/-! ### ways by turns -/
def stepB (s : Nat) (b : Bool) : Nat := if b = true then nxt s else prv s
def goOn (mt : Nat → Option Nat) : Nat → List Bool → Option (List Nat)
  | _, [] => some []
  | p, b :: bs => match mt p with
    | none => none
    | some s => match goOn mt (stepB s b) bs with
      | none => none
      | some l => some (stepB s b :: l)
theorem stepB_lt {m s : Nat} {b : Bool} (h : s < 3 * m) : stepB s b < 3 * m := by
  unfold stepB
  have := nxt_lt h
  split <;> omega
theorem atI_end {a : List Nat} {p : Nat} : atI (natsL (a ++ [p])) (-1) = some (.int (p : Int)) := by
  rw [atI_last (by simp)]
  simp [getD_app]
structure Walked (f : List D → FR) : Prop where
  out : ∀ m mt nm (i : Int) bs, TentOk m mt nm → (i < 0 ∨ 3 * (m : Int) ≤ i) → f [tentO .fz (csOf m nm), .int i, .str (turnsS bs)] = .exn 2 []
  go : ∀ m mt nm (p : Nat) bs l, TentOk m mt nm → p < 3 * m → bs.length ≤ 200000 → goOn mt p bs = some l → f [tentO .fz (csOf m nm), .int (p : Nat), .str (turnsS bs)] = .ok [] (.lst .own (natsL (p :: l)))
  rim : ∀ m mt nm (p : Nat) bs, TentOk m mt nm → p < 3 * m → bs.length ≤ 200000 → goOn mt p bs = none → f [tentO .fz (csOf m nm), .int (p : Nat), .str (turnsS bs)] = .exn 4 []
def Sp_walked (f : List D → FR) : Prop := Walked f
theorem walked_fl (T : Tbl) (h22 : Sp_Tent_mate (T.F 22)) (h32 : Sp_after (T.F 32)) (h33 : Sp_before (T.F 33)) (u22 : T.muts 22 = []) (u32 : T.muts 32 = []) (u33 : T.muts 33 = []) (m22 : T.mc 22 = 0) {m : Nat} {mt : Nat → Option Nat} {nm : Nat → Int} (t : TentOk m mt nm) (d1 d2 : D) :
    ∀ (bs : List Bool) (a : List Nat) (p : Nat) (d4 d5 : D), p < 3 * m → a.length + bs.length ≤ 500000 →
      (∀ l, goOn mt p bs = some l → ∃ d4' d5', fl T [] (.one 4) ir_walked_b1 (strsL bs) [tentO .fz (csOf m nm), d1, d2, .lst .own (natsL (a ++ [p])), d4, d5] = .nx [tentO .fz (csOf m nm), d1, d2, .lst .own (natsL (a ++ p :: l)), d4', d5']) ∧
      (goOn mt p bs = none → ∃ ρ', fl T [] (.one 4) ir_walked_b1 (strsL bs) [tentO .fz (csOf m nm), d1, d2, .lst .own (natsL (a ++ [p])), d4, d5] = .exn 4 ρ')
  | [], a, p, d4, d5, hp, hl => ⟨fun l h => ⟨d4, d5, by cases h; rfl⟩, fun h => by cases h⟩
  | b :: bs, a, p, d4, d5, hp, hl => by
    have a1 := @atI_end a p
    have a2 := h22 m mt nm p t hp
    have e : strsL (b :: bs) = .str (chS b) :: strsL bs := rfl
    rw [e, fl_cons, goOn]
    cases hs : mt p with
    | none =>
      rw [hs] at a2
      simp at a2
      refine ⟨fun l h => (by cases h), fun _ => ⟨[tentO .fz (csOf m nm), d1, d2, .lst .own (natsL (a ++ [p])), .str (chS b), .non], ?_⟩⟩
      generalize natsL (a ++ [p]) = R at a1
      simp -implicitDefEqProofs [ir_walked_b1, u22, m22, a1, a2]
    | some s =>
      rw [hs] at a2
      simp at a2
      have hs2 := (t.mates.lt _ _ hs).2
      have a3 := h32 s
      have a4 := h33 s
      have lo : lenOk (natsL (a ++ [p])).length = true := lenOk_le (by simp; simp at hl; omega)
      have ih := walked_fl T h22 h32 h33 u22 u32 u33 m22 t d1 d2 bs (a ++ [p]) (stepB s b) (.str (chS b)) (.int (s : Int)) (stepB_lt hs2) (by simp at hl ⊢; omega)
      have key : (optO (store1 (.one 4) (.str (chS b)) [tentO .fz (csOf m nm), d1, d2, .lst .own (natsL (a ++ [p])), d4, d5]) fun ρ1 => loopK (execs T [] ir_walked_b1 ρ1) (fl T [] (.one 4) ir_walked_b1 (strsL bs))) = fl T [] (.one 4) ir_walked_b1 (strsL bs) [tentO .fz (csOf m nm), d1, d2, .lst .own (natsL (a ++ [p] ++ [stepB s b])), .str (chS b), .int (s : Int)] := by
        rw [natsL_append (l := a ++ [p])]
        generalize natsL (a ++ [p]) = R at a1 lo
        have ne : ¬ (Str.ofString "L" = Str.ofString "R") := by decide
        cases b <;> simp -implicitDefEqProofs [ir_walked_b1, u22, m22, u32, u33, a1, a2, a3, a4, lo, chS, stepB, ne]
      rw [key]
      simp only
      cases hg : goOn mt (stepB s b) bs with
      | none => exact ⟨fun l h => (by cases h), fun _ => ih.2 hg⟩
      | some l =>
        refine ⟨fun l' h => ?_, fun h => (by cases h)⟩
        cases h
        obtain ⟨d4', d5', q⟩ := ih.1 l hg
        refine ⟨d4', d5', ?_⟩
        rw [q]
        simp
theorem ok_walked (T : Tbl) (h22 : Sp_Tent_mate (T.F 22)) (h23 : Sp_Tent_size (T.F 23)) (h32 : Sp_after (T.F 32)) (h33 : Sp_before (T.F 33)) (u22 : T.muts 22 = []) (u23 : T.muts 23 = []) (u32 : T.muts 32 = []) (u33 : T.muts 33 = []) (m22 : T.mc 22 = 0) (m23 : T.mc 23 = 0) : Sp_walked (run T ir_walked) := by
  refine ⟨fun m mt nm i bs t hi => ?_, fun m mt nm p bs l t hp hb hg => ?_, fun m mt nm p bs t hp hb hg => ?_⟩
  · have hl := t.le
    have es := h23 (csOf m nm)
    rw [csOf_len] at es
    have m1 : mulOk 3 (m : Int) = true := mulOk_30 (by decide) (by omega)
    by_cases z : i < 0
    · simp -implicitDefEqProofs [run_eq, ir_walked, u23, m23, es, z]
    · have z2 : 3 * (m : Int) ≤ i := by omega
      simp -implicitDefEqProofs [run_eq, ir_walked, u23, m23, es, z, z2, m1]
  · have hl := t.le
    have es := h23 (csOf m nm)
    rw [csOf_len] at es
    have m1 : mulOk 3 (m : Int) = true := mulOk_30 (by decide) (by omega)
    have z2 : ¬ (3 * (m : Int) ≤ (p : Int)) := by omega
    have z3 : ¬ ((p : Int) < 0) := by omega
    have it := fun e => items_turns (e := e) (bs := bs)
    obtain ⟨d4, d5, q⟩ := (walked_fl T h22 h32 h33 u22 u32 u33 m22 t (.int (p : Nat)) (.str (turnsS bs)) bs [] p .und .und hp (by simp; omega)).1 l hg
    have q : fl T [] (.one 4) ir_walked_b1 (strsL bs) [tentO .fz (csOf m nm), .int (p : Nat), .str (turnsS bs), .lst .own [.int (p : Int)], .und, .und] = .nx [tentO .fz (csOf m nm), .int (p : Nat), .str (turnsS bs), .lst .own (natsL (p :: l)), d4, d5] := q
    generalize strsL bs = B at q it
    generalize turnsS bs = S at q it
    generalize natsL (p :: l) = R at q
    simp -implicitDefEqProofs [run_eq, ir_walked, u23, m23, es, m1, z2, z3, it, q]
  · have hl := t.le
    have es := h23 (csOf m nm)
    rw [csOf_len] at es
    have m1 : mulOk 3 (m : Int) = true := mulOk_30 (by decide) (by omega)
    have z2 : ¬ (3 * (m : Int) ≤ (p : Int)) := by omega
    have z3 : ¬ ((p : Int) < 0) := by omega
    have it := fun e => items_turns (e := e) (bs := bs)
    obtain ⟨ρ', q⟩ := (walked_fl T h22 h32 h33 u22 u32 u33 m22 t (.int (p : Nat)) (.str (turnsS bs)) bs [] p .und .und hp (by simp; omega)).2 hg
    have q : fl T [] (.one 4) ir_walked_b1 (strsL bs) [tentO .fz (csOf m nm), .int (p : Nat), .str (turnsS bs), .lst .own [.int (p : Int)], .und, .und] = .exn 4 ρ' := q
    generalize strsL bs = B at q it
    generalize turnsS bs = S at q it
    simp -implicitDefEqProofs [run_eq, ir_walked, u23, m23, es, m1, z2, z3, it, q]
end TL

namespace TL
open PySem PySem.Spec PyProof.Rows L2

/-! ### lists of ints told apart -/
theorem eqvAll_ints : ∀ xs ys : List Int, PyData.eqvAll (xs.map PyData.int) (ys.map PyData.int) = decide (xs = ys)
  | [], [] => by simp [PyData.eqvAll]
  | [], y :: ys => by simp [PyData.eqvAll]
  | x :: xs, [] => by simp [PyData.eqvAll]
  | x :: xs, y :: ys => by
    rw [List.map_cons, List.map_cons, PyData.eqvAll, eqvAll_ints xs ys]
    by_cases h : x = y <;> by_cases h2 : xs = ys <;> simp [PyData.eqv, h, h2]
theorem eq_intsD {w u : W} {xs ys : List Int} : eqD (.lst w (xs.map .int)) (.lst u (ys.map .int)) = some (decide (xs = ys)) := by
  have h1 : ∀ w (xs : List Int), toPy (D.lst w (xs.map .int)) = some (.list (xs.map .int)) := fun w xs => by rw [toPy, toPys_ints]
  have h2 : ∀ xs : List Int, SeqAt.shaped (.list (xs.map .int)) = true := fun xs => by
    unfold SeqAt.shaped
    have a : PyData.canLay0 (.list (xs.map .int)) = true := by rw [PyData.canLay0]; exact canLay_ints xs
    have b : PyData.depth (.list (xs.map .int)) ≤ 64 := by
      rw [PyData.depth]
      have := depth_ints xs
      omega
    rw [a, decide_eq_true b]
    rfl
  have h3 : PyData.eqv (.list (xs.map .int)) (.list (ys.map .int)) = decide (xs = ys) := by rw [PyData.eqv]; exact eqvAll_ints xs ys
  simp only [eqD, eqS, h1, h2, Bool.and_self, if_true, h3]
theorem eq_lD {w u : W} {xs ys : List Int} : ap_eq [.lst w (xs.map .int), .lst u (ys.map .int)] = some (.bl (decide (xs = ys))) := by simp only [ap_eq, eq_intsD]
theorem ne_lD {w u : W} {xs ys : List Int} : ap_ne [.lst w (xs.map .int), .lst u (ys.map .int)] = some (.bl (!decide (xs = ys))) := by simp only [ap_ne, eq_intsD]
/-! ### times round -/
/-- the word is its first `s` places over and over -/
def Per (ws : List Int) (s : Nat) : Prop := s ∣ ws.length ∧ turnL ws s = ws
instance {ws : List Int} {s : Nat} : Decidable (Per ws s) := by unfold Per; infer_instance
theorem rep_nat {n : Nat} {xs : List Int} : repD n (xs.map D.int) = ((List.replicate n xs).flatten).map .int := by
  unfold repD
  rw [List.map_flatten, List.map_replicate]
theorem rep_get {α : Type} {xs : List α} : ∀ {n i : Nat}, i < n * xs.length → (List.replicate n xs).flatten[i]? = xs[i % xs.length]?
  | 0, i, h => by simp at h
  | n + 1, i, h => by
    rw [List.replicate_succ, List.flatten_cons]
    by_cases hi : i < xs.length
    · rw [List.getElem?_append_left hi, Nat.mod_eq_of_lt hi]
    · rw [List.getElem?_append_right (by omega), rep_get (by rw [Nat.add_mul, Nat.one_mul] at h; omega), Nat.mod_eq_sub_mod (a := i) (by omega)]
theorem rot_get {α : Type} {ws : List α} {s i : Nat} (hs : s ≤ ws.length) (hi : i < ws.length) : (ws.drop s ++ ws.take s)[i]? = ws[(i + s) % ws.length]? := by
  by_cases h : i + s < ws.length
  · rw [List.getElem?_append_left (by simp; omega), List.getElem?_drop, Nat.mod_eq_of_lt h, Nat.add_comm]
  · rw [List.getElem?_append_right (by simp; omega), List.length_drop, List.getElem?_take_of_lt (by omega)]
    congr 1
    rw [Nat.mod_eq_sub_mod (by omega), Nat.mod_eq_of_lt (by omega)]
    omega
theorem turn_get {ws : List Int} {s i : Nat} (hs : s ≤ ws.length) (hi : i < ws.length) : (turnL ws s)[i]? = ws[(i + s) % ws.length]? := rot_get hs hi
theorem per_iff {ws : List Int} {c s : Nat} (h : c * s = ws.length) (hc : 0 < c) (hs : 0 < s) : (List.replicate c (ws.take s)).flatten = ws ↔ turnL ws s = ws := by
  have hsl : s ≤ ws.length := by rw [← h]; exact Nat.le_mul_of_pos_left s hc
  have tl : (ws.take s).length = s := by simp; omega
  have rl : ((List.replicate c (ws.take s)).flatten).length = ws.length := by simp; rw [Nat.min_eq_left hsl]; exact h
  have wp : 0 < ws.length := by omega
  constructor
  · intro e
    apply List.ext_getElem?
    intro i
    by_cases hi : i < ws.length
    · rw [turn_get hsl hi]
      have key : ∀ j, j < ws.length → ws[j]? = ws[j % s]? := fun j hj => by
        conv => lhs; rw [← e]
        rw [rep_get (by rw [tl]; omega), tl, List.getElem?_take_of_lt (Nat.mod_lt _ hs)]
      rw [key _ (Nat.mod_lt _ wp), key i hi]
      congr 1
      rw [Nat.mod_mod_of_dvd _ ⟨c, by rw [← h, Nat.mul_comm]⟩, Nat.add_mod_right]
    · rw [List.getElem?_eq_none (by simp; omega), List.getElem?_eq_none (by omega)]
  · intro e
    have key : ∀ i, i + s < ws.length → ws[i + s]? = ws[i]? := fun i hi => by
      have := turn_get (ws := ws) (s := s) (i := i) hsl (by omega)
      rw [e, Nat.mod_eq_of_lt hi] at this
      exact this.symm
    have key2 : ∀ n i, i < s → i + n * s < ws.length → ws[i + n * s]? = ws[i]? := by
      intro n
      induction n with
      | zero => intro i _ _; simp
      | succ n ih =>
        intro i hi hlt
        rw [Nat.add_mul, Nat.one_mul] at hlt ⊢
        rw [← Nat.add_assoc, key _ (by omega), ih i hi (by omega)]
    apply List.ext_getElem?
    intro i
    by_cases hi : i < ws.length
    · rw [rep_get (by rw [tl]; omega), tl, List.getElem?_take_of_lt (Nat.mod_lt _ hs)]
      have hd := Nat.div_add_mod i s
      have := key2 (i / s) (i % s) (Nat.mod_lt _ hs) (by rw [Nat.mul_comm]; omega)
      rw [show i % s + i / s * s = i by rw [Nat.mul_comm]; omega] at this
      exact this.symm
    · rw [List.getElem?_eq_none (by omega), List.getElem?_eq_none (by omega)]
structure IsTimes (ws : List Int) (c : Nat) : Prop where
  pos : 0 < c
  dvd : c ∣ ws.length
  per : turnL ws (ws.length / c) = ws
  top : ∀ c', 0 < c' → c' ∣ ws.length → turnL ws (ws.length / c') = ws → c' ≤ c
theorem IsTimes.uniq {ws : List Int} {c d : Nat} (h : IsTimes ws c) (g : IsTimes ws d) : c = d := Nat.le_antisymm (g.top c h.pos h.dvd h.per) (h.top d g.pos g.dvd g.per)
theorem div_div' {n c : Nat} (hn : 0 < n) (h : c ∣ n) (hc : 0 < c) : n / (n / c) = c ∧ (n / c) ∣ n ∧ 0 < n / c ∧ c * (n / c) = n := by
  obtain ⟨k, rfl⟩ := h
  have hk : 0 < k := Nat.pos_of_mul_pos_left hn |> fun _ => by
    rcases Nat.eq_zero_or_pos k with z | z
    · subst z; simp at hn
    · exact z
  rw [Nat.mul_div_cancel_left k hc]
  exact ⟨Nat.mul_div_cancel _ hk, ⟨c, Nat.mul_comm _ _⟩, hk, rfl⟩
theorem turn_full {ws : List Int} : turnL ws ws.length = ws := by
  unfold turnL
  rw [List.drop_length, List.take_length, List.nil_append]
theorem int_dvd {n c : Nat} (h : c ∣ n) : (n : Int) % (c : Int) = 0 := by rw [mod_nn', Nat.mod_eq_zero_of_dvd h]; rfl
where mod_nn' {a c : Nat} : (a : Int) % (c : Int) = ((a % c : Nat) : Int) := by omega
theorem int_ndvd {n c : Nat} (h : ¬ c ∣ n) : ¬ ((n : Int) % (c : Int) = 0) := fun z => h (Nat.dvd_of_mod_eq_zero (by omega))
structure Times (f : List D → FR) : Prop where
  yes : ∀ m mt nm (ws : List Int), TentOk m mt nm → ws.length ≤ 100000 → plainI m mt ws = true → ∃ c, IsTimes ws c ∧ f [tentO .fz (csOf m nm), .lst .fz (ws.map .int)] = .ok [] (.int (c : Nat))
  no : ∀ m mt nm (ws : List Int), TentOk m mt nm → ws.length ≤ 1000000 → plainI m mt ws = false → f [tentO .fz (csOf m nm), .lst .fz (ws.map .int)] = .exn 7 []
def Sp_times (f : List D → FR) : Prop := Times f
theorem plain_ne {m : Nat} {mt : Nat → Option Nat} {ws : List Int} (h : plainI m mt ws = true) : ws ≠ [] := fun z => by
  subst z
  simp [plainI] at h
theorem ok_times (T : Tbl) (h28 : Sp_look_thread (T.F 28)) (h37 : Sp_turned (T.F 37)) (u28 : T.muts 28 = []) (u37 : T.muts 37 = []) : Sp_times (run T ir_times) := by
  refine ⟨fun m mt nm ws t hw h => ?_, fun m mt nm ws t hw h => ?_⟩
  · have e := h28.yes m mt nm ws t (by omega) h
    have hn := plain_ne h
    have hp := List.length_pos_iff.mpr hn
    have out := fl_rangeOr (T := T) (C := []) (i := 3) (b := ir_times_b1) (lo := 1) (n := ws.length - 1) (ρ := [tentO .fz (csOf m nm), .lst .fz (ws.map .int), .int (ws.length : Int), .und])
      (fun k ρ => (∀ s, 1 ≤ s → s < 1 + k → s ∣ ws.length → ¬ turnL ws s = ws) ∧ ∃ d, ρ = [tentO .fz (csOf m nm), .lst .fz (ws.map .int), .int (ws.length : Int), d]) (fun d => ∃ c : Nat, IsTimes ws c ∧ d = .int (c : Nat)) (fun k hk ρ ⟨hq, d, e⟩ => by
        subst e
        generalize hs : 1 + k = s at hq
        have hs1 : 1 ≤ s := by omega
        have hs2 : s < ws.length := by omega
        have hs3 : (0 : Int) < (s : Int) := by omega
        have hs4 : ¬ (s = 0) := by omega
        by_cases hd : s ∣ ws.length
        · have z1 := int_dvd hd
          have tn := h37.cons ws (s : Int) s hn (by omega) (Int.emod_eq_of_lt (by omega) (by omega)) hs2
          by_cases he : turnL ws s = ws
          · have dk : divOk (s : Int) = true := divOk_lit (by omega) (by omega)
            obtain ⟨g1, g2, g3, g4⟩ := div_div' hp hd (by omega)
            have eqd : ∀ a b, ap_eq [.lst a ((turnL ws s).map .int), .lst b (ws.map .int)] = some (.bl true) := fun a b => by rw [he]; exact eq_l
            refine .inr ⟨[tentO .fz (csOf m nm), .lst .fz (ws.map .int), .int (ws.length : Int), .int (s : Int)], _, ?_, ws.length / s, ⟨g3, g2, by rw [g1]; exact he, fun c' c1 c2 c3 => ?_⟩, rfl⟩
            · simp -implicitDefEqProofs [ir_times_b1, hs3, hs4, z1, u37, tn, eqd, dk]
            · obtain ⟨y1, y2, y3, y4⟩ := div_div' hp c2 c1
              have : s ≤ ws.length / c' := Nat.le_of_not_lt fun z => hq _ y3 z y2 c3
              rw [← y1]
              exact Nat.div_le_div_left this (by omega)
          · have eqd : ∀ a b, ap_eq [.lst a ((turnL ws s).map .int), .lst b (ws.map .int)] = some (.bl false) := fun a b => by rw [eq_lD, decide_eq_false he]
            refine .inl ⟨[tentO .fz (csOf m nm), .lst .fz (ws.map .int), .int (ws.length : Int), .int (s : Int)], .inl ?_, fun s' a b c => ?_, .int (s : Int), rfl⟩
            · simp -implicitDefEqProofs [ir_times_b1, hs3, hs4, z1, u37, tn, eqd]
            · rcases (by omega : s' < s ∨ s' = s) with z | z
              · exact hq s' a z c
              · rw [z]; exact he
        · have z1 := int_ndvd hd
          refine .inl ⟨[tentO .fz (csOf m nm), .lst .fz (ws.map .int), .int (ws.length : Int), .int (s : Int)], .inl ?_, fun s' a b c => ?_, .int (s : Int), rfl⟩
          · simp -implicitDefEqProofs [ir_times_b1, hs3, hs4, z1]
          · rcases (by omega : s' < s ∨ s' = s) with z | z
            · exact hq s' a z c
            · rw [z] at c; exact absurd c hd) ⟨fun s a b => by omega, .und, rfl⟩
    have r1 : rng [.int 1, .int (ws.length : Int)] = some (1, ws.length - 1) := rng_two (m := 1) (by omega) (by omega)
    rcases out with ⟨ρ', g, hq, d, g2⟩ | ⟨ρ', d, g, c, g2, g3⟩
    · subst g2
      refine ⟨1, ⟨by decide, ⟨ws.length, by omega⟩, by rw [Nat.div_one]; exact turn_full, fun c' c1 c2 c3 => ?_⟩, ?_⟩
      · obtain ⟨y1, y2, y3, y4⟩ := div_div' hp c2 c1
        apply Nat.le_of_not_lt
        intro z
        refine hq _ y3 ?_ y2 c3
        have : ws.length / c' < ws.length := Nat.div_lt_self hp z
        omega
      · simp at g
        simp -implicitDefEqProofs [run_eq, ir_times, u28, e, r1, g]
    · subst g3
      refine ⟨c, g2, ?_⟩
      simp at g
      simp -implicitDefEqProofs [run_eq, ir_times, u28, e, r1, g]
  · have e := h28.no m mt nm ws t hw h
    simp -implicitDefEqProofs [run_eq, ir_times, u28, e]
end TL

namespace TL
open PySem PySem.Spec PyProof.Rows L2

theorem fl_rangeA {T : Tbl} {C : List Nat} {i : Nat} {b : List IS} {ρ : List D} {lo n : Nat} (P : Nat → List D → Prop)
    (step : ∀ k, k < n → ∀ ρ, P k ρ → ∃ ρ2, (execs T C b (ρ.set i (.int ((lo + k : Nat) : Int))) = .nx ρ2 ∨ execs T C b (ρ.set i (.int ((lo + k : Nat) : Int))) = .ct ρ2) ∧ P (k + 1) ρ2) (h0 : P 0 ρ) :
    ∃ ρ', fl T C (.one i) b (rangeD (lo : Int) n) ρ = .nx ρ' ∧ P n ρ' := by
  rcases fl_rangeOr (T := T) (C := C) (i := i) (b := b) P (fun _ => False) (fun k hk ρ hp => .inl (step k hk ρ hp)) h0 with h | ⟨_, _, _, h⟩
  · exact h
  · exact h.elim
def Sp_law_times (f : List D → FR) : Prop := ∀ ws : List Int, ws ≠ [] → ws.length ≤ 100000 → ∃ c, IsTimes ws c ∧ f [.lst .fz (ws.map .int)] = .ok [] (.int (c : Nat))
theorem ok_law_times (T : Tbl) : Sp_law_times (run T ir_law_times) := fun ws hn hw => by
  have hp := List.length_pos_iff.mpr hn
  obtain ⟨ρ', g, ⟨c, d, c0, c1, c2, c3, e⟩⟩ := fl_rangeA (T := T) (C := []) (i := 2) (b := ir_law_times_b1) (lo := 2) (n := ws.length - 1) (ρ := [.lst .fz (ws.map .int), .int 1, .und])
    (fun k ρ => ∃ (c : Nat) (d : D), 0 < c ∧ c ∣ ws.length ∧ turnL ws (ws.length / c) = ws ∧ (∀ c', 0 < c' → c' < 2 + k → c' ∣ ws.length → turnL ws (ws.length / c') = ws → c' ≤ c) ∧ ρ = [.lst .fz (ws.map .int), .int (c : Int), d]) (fun k hk ρ ⟨c, d, h0, h1, h2, h3, e⟩ => by
      subst e
      generalize hs : 2 + k = s at h3
      have hs1 : 2 ≤ s := by omega
      have hs2 : s ≤ ws.length := by omega
      have hs3 : (0 : Int) < (s : Int) := by omega
      have hs4 : ¬ (s = 0) := by omega
      have hs5 : 0 < s := by omega
      have e2 : 2 + (k + 1) = s + 1 := by omega
      by_cases hd : s ∣ ws.length
      · have z1 := int_dvd hd
        obtain ⟨g1, g2, g3, g4⟩ := div_div' hp hd (by omega)
        have dk : divOk (s : Int) = true := divOk_lit (by omega) (by omega)
        have q1 : (ws.length : Int) / (s : Int) = ((ws.length / s : Nat) : Int) := by omega
        have hle : ws.length / s ≤ ws.length := Nat.div_le_self _ _
        have q2 := cut_ints_to (xs := ws) (a := ws.length / s) hle
        rw [← q1] at q2
        have rl : (ws.take (ws.length / s)).length * s = ws.length := by rw [List.length_take, Nat.min_eq_left hle, Nat.mul_comm]; exact g4
        have q3 := rep_nat (n := s) (xs := ws.take (ws.length / s))
        have lo : lenOk (((ws.take (ws.length / s)).map D.int).length * s) = true := lenOk_le (by rw [List.length_map, rl]; omega)
        have qm : ap_mul [.lst .own ((ws.take (ws.length / s)).map D.int), .int (s : Int)] = some (.lst .own ((List.replicate s (ws.take (ws.length / s))).flatten.map .int)) := by
          have k1 : decide (-(2 ^ 62) ≤ (s : Int)) = true := decide_eq_true (by omega)
          have k2 : decide ((s : Int) < 2 ^ 62) = true := decide_eq_true (by omega)
          show (if (decide (W.own ≠ .scr) && decide (-(2 ^ 62) ≤ (s : Int)) && lenOk (((ws.take (ws.length / s)).map D.int).length * ((s : Int)).toNat) && decide ((s : Int) < 2 ^ 62)) = true then some (D.lst .own (repD ((s : Int)).toNat ((ws.take (ws.length / s)).map D.int))) else none) = _
          rw [Int.toNat_natCast, k1, k2, lo, q3]
          rfl
        have pi := per_iff (ws := ws) (c := s) (s := ws.length / s) g4 (by omega) g3
        generalize hfl : (List.replicate s (ws.take (ws.length / s))).flatten = fl at qm pi
        generalize hmm : (ws.take (ws.length / s)).map D.int = mm at q2 qm
        by_cases he : turnL ws (ws.length / s) = ws
        · have eqd : ∀ a b, ap_eq [.lst a (fl.map .int), .lst b (ws.map .int)] = some (.bl true) := fun a b => by rw [pi.mpr he]; exact eq_l
          refine ⟨[.lst .fz (ws.map .int), .int (s : Int), .int (s : Int)], .inl ?_, s, .int (s : Int), hs5, hd, he, fun c' a b _ _ => by omega, rfl⟩
          simp -implicitDefEqProofs [ir_law_times_b1, hs3, hs4, hs5, z1, dk, q2, qm, eqd]
        · have eqd : ∀ a b, ap_eq [.lst a (fl.map .int), .lst b (ws.map .int)] = some (.bl false) := fun a b => by rw [eq_lD, decide_eq_false (fun z => he (pi.mp z))]
          refine ⟨[.lst .fz (ws.map .int), .int (c : Int), .int (s : Int)], .inl ?_, c, .int (s : Int), h0, h1, h2, fun c' a b y x => ?_, rfl⟩
          · simp -implicitDefEqProofs [ir_law_times_b1, hs3, hs4, hs5, z1, dk, q2, qm, eqd]
          · rcases (by omega : c' < s ∨ c' = s) with z | z
            · exact h3 c' a z y x
            · rw [z] at x; exact absurd x he
      · have z1 := int_ndvd hd
        refine ⟨[.lst .fz (ws.map .int), .int (c : Int), .int (s : Int)], .inl ?_, c, .int (s : Int), h0, h1, h2, fun c' a b y x => ?_, rfl⟩
        · simp -implicitDefEqProofs [ir_law_times_b1, hs3, hs4, hs5, z1]
        · rcases (by omega : c' < s ∨ c' = s) with z | z
          · exact h3 c' a z y x
          · rw [z] at y; exact absurd y hd) ⟨1, .und, by decide, ⟨ws.length, by omega⟩, by rw [Nat.div_one]; exact turn_full, fun c' a b _ _ => by omega, rfl⟩
  subst e
  refine ⟨c, ⟨c0, c1, c2, fun c' a b x => c3 c' a (by have := Nat.le_of_dvd hp b; omega) b x⟩, ?_⟩
  have r1 : rng [.int 2, .int ((ws.length : Int) + 1)] = some (2, ws.length - 1) := by
    have := rng_two (m := 2) (n := ws.length + 1) (by omega) (by omega)
    rw [show ((ws.length + 1 : Nat) : Int) = (ws.length : Int) + 1 by omega, show ws.length + 1 - 2 = ws.length - 1 by omega] at this
    exact this
  simp at g
  simp -implicitDefEqProofs [run_eq, ir_law_times, r1, g]
end TL

namespace TL
open PySem PySem.Spec PyProof.Rows L2

/-! ### threads turned, put behind themselves -/
theorem Closed.of {m : Nat} {mt : Nat → Option Nat} {w W : List Nat} (h : Closed m mt w) (f : Nat → Nat) (ne : W ≠ []) (g : ∀ k, k < W.length → f k < w.length ∧ W.getD k 0 = w.getD (f k) 0) (p : ∀ k, k < W.length → f (prevI k W.length) = prevI (f k) w.length) : Closed m mt W := by
  refine ⟨ne, fun k hk => ?_, fun k hk => ?_, fun k hk => ?_⟩
  · have hq : prevI k W.length < W.length := by unfold prevI; split <;> omega
    rw [(g k hk).2, (g _ hq).2, p k hk]
    exact h.next _ (g k hk).1
  · rw [(g k hk).2]; exact h.lt _ (g k hk).1
  · rw [(g k hk).2]; exact h.so _ (g k hk).1
theorem getD_eq {α : Type} {a b : List α} {i j : Nat} {d : α} (h : a[i]? = b[j]?) : a.getD i d = b.getD j d := by
  rw [List.getD_eq_getElem?_getD, List.getD_eq_getElem?_getD, h]
theorem mod2 {x n : Nat} (h : x < 2 * n) : x % n = if x < n then x else x - n := by
  split
  · rename_i z; exact Nat.mod_eq_of_lt z
  · rename_i z; rw [Nat.mod_eq_sub_mod (by omega), Nat.mod_eq_of_lt (by omega)]
theorem Closed.rot {m : Nat} {mt : Nat → Option Nat} {w : List Nat} (h : Closed m mt w) {b : Nat} (hb : b < w.length) : Closed m mt (w.drop b ++ w.take b) := by
  have hp := List.length_pos_iff.mpr h.ne
  have hl : (w.drop b ++ w.take b).length = w.length := by simp; omega
  refine h.of (fun k => (k + b) % w.length) (fun z => by rw [z] at hl; simp at hl; omega) (fun k hk => ⟨Nat.mod_lt _ hp, getD_eq (rot_get (by omega) (by omega))⟩) (fun k hk => ?_)
  rw [hl] at hk ⊢
  have e1 := mod2 (x := prevI k w.length + b) (n := w.length) (by unfold prevI; split <;> omega)
  have e2 := mod2 (x := k + b) (n := w.length) (by omega)
  show (prevI k w.length + b) % w.length = prevI ((k + b) % w.length) w.length
  rw [e1, e2]
  unfold prevI
  (repeat' split) <;> omega
theorem rep_len {α : Type} {w : List α} {c : Nat} : ((List.replicate c w).flatten).length = c * w.length := by simp
theorem Closed.rep {m : Nat} {mt : Nat → Option Nat} {w : List Nat} (h : Closed m mt w) {c : Nat} (hc : 0 < c) : Closed m mt ((List.replicate c w).flatten) := by
  have hp := List.length_pos_iff.mpr h.ne
  have hl : ((List.replicate c w).flatten).length = c * w.length := rep_len
  have hcn : w.length ≤ c * w.length := Nat.le_mul_of_pos_left _ hc
  refine h.of (fun k => k % w.length) (fun z => by rw [z] at hl; simp at hl; omega) (fun k hk => ⟨Nat.mod_lt _ hp, getD_eq (rep_get (by omega))⟩) (fun k hk => ?_)
  rw [hl] at hk ⊢
  show prevI k (c * w.length) % w.length = prevI (k % w.length) w.length
  unfold prevI
  by_cases z : k = 0
  · subst z
    obtain ⟨c', rfl⟩ : ∃ c', c = c' + 1 := ⟨c - 1, by omega⟩
    rw [if_pos rfl, Nat.zero_mod, if_pos rfl, Nat.add_mul, Nat.one_mul, show c' * w.length + w.length - 1 = w.length * c' + (w.length - 1) by rw [Nat.mul_comm]; omega, Nat.mul_add_mod, Nat.mod_eq_of_lt (by omega)]
  · rw [if_neg z]
    have hd := Nat.div_add_mod k w.length
    have hm := Nat.mod_lt k hp
    generalize k / w.length = Q at hd
    generalize k % w.length = r at hd hm
    by_cases y : r = 0
    · rw [if_pos y]
      cases Q with
      | zero => rw [Nat.mul_zero] at hd; omega
      | succ q =>
        rw [Nat.mul_add, Nat.mul_one] at hd
        rw [show k - 1 = w.length * q + (w.length - 1) by omega, Nat.mul_add_mod, Nat.mod_eq_of_lt (by omega)]
    · rw [if_neg y]
      conv => lhs; rw [show k - 1 = w.length * Q + (r - 1) by omega]
      rw [Nat.mul_add_mod, Nat.mod_eq_of_lt (by omega)]
theorem intsOf_rot {w : List Nat} {b : Nat} : intsOf (w.drop b ++ w.take b) = turnL (intsOf w) b := by
  unfold intsOf turnL
  rw [List.map_append, List.map_drop, List.map_take]
theorem intsOf_rep {w : List Nat} {c : Nat} : intsOf ((List.replicate c w).flatten) = (List.replicate c (intsOf w)).flatten := by
  unfold intsOf
  rw [List.map_flatten, List.map_replicate]

/-! ### the least row -/
theorem ltL_dec : ∀ a b : List Int, ltL a b = decide (a < b)
  | [], [] => by simp [ltL]
  | [], y :: b => by simp [ltL]
  | x :: a, [] => by simp [ltL]
  | x :: a, y :: b => by
    unfold ltL
    rw [ltL_dec a b]
    by_cases e : x = y
    · subst e
      rw [if_pos rfl]
      exact decide_eq_decide.mpr (by rw [List.cons_lt_cons_iff]; simp)
    · rw [if_neg e]
      exact decide_eq_decide.mpr (by rw [List.cons_lt_cons_iff]; simp [e])
theorem ltL_irr (a : List Int) : ltL a a = false := by rw [ltL_dec]; exact decide_eq_false (List.lt_irrefl a)
theorem ltL_tr {a b c : List Int} (h1 : ltL a b = false) (h2 : ltL b c = false) : ltL a c = false := by
  rw [ltL_dec] at *
  have a1 := List.not_lt.mp (of_decide_eq_false h1)
  have a2 := List.not_lt.mp (of_decide_eq_false h2)
  exact decide_eq_false (List.not_lt.mpr (List.le_trans a2 a1))
theorem ltL_anti {a b : List Int} (h1 : ltL a b = false) (h2 : ltL b a = false) : a = b := by
  rw [ltL_dec] at *
  exact List.le_antisymm (List.not_lt.mp (of_decide_eq_false h2)) (List.not_lt.mp (of_decide_eq_false h1))
theorem ltL_asym {a b : List Int} (h : ltL a b = true) : ltL b a = false := by
  cases e : ltL b a with
  | false => rfl
  | true =>
    rw [ltL_dec] at *
    exact absurd (List.lt_trans (of_decide_eq_true h) (of_decide_eq_true e)) (List.lt_irrefl a)
/-- m is a least row of S -/
structure LeastOf (S : List Int → Prop) (m : List Int) : Prop where
  mem : S m
  le : ∀ y, S y → ltL y m = false
theorem LeastOf.uniq {S : List Int → Prop} {m n : List Int} (h : LeastOf S m) (g : LeastOf S n) : m = n := ltL_anti (g.le m h.mem) (h.le n g.mem)
theorem LeastOf.congr {S S' : List Int → Prop} {m : List Int} (h : LeastOf S m) (e : ∀ y, S y ↔ S' y) : LeastOf S' m := ⟨(e m).mp h.mem, fun y hy => h.le y ((e y).mpr hy)⟩
theorem minL_least : ∀ (l : List (List Int)) (n : List Int), LeastOf (fun y => y ∈ n :: l) (minL n l)
  | [], n => ⟨List.mem_singleton.mpr rfl, fun y h => by rw [List.mem_singleton.mp h]; exact ltL_irr n⟩
  | y :: l, n => by
    have ih := minL_least l (if ltL y n = true then y else n)
    have e : minL n (y :: l) = minL (if ltL y n = true then y else n) l := rfl
    rw [e]
    refine ⟨?_, fun z hz => ?_⟩
    · rcases List.mem_cons.mp ih.mem with h | h
      · rw [h]
        split <;> simp
      · simp [h]
    · have top := ih.le (if ltL y n = true then y else n) List.mem_cons_self
      rcases List.mem_cons.mp hz with rfl | hz
      · by_cases c : ltL y z = true
        · rw [if_pos c] at top ⊢
          exact ltL_tr (ltL_asym c) top
        · rw [if_neg c] at top ⊢
          exact top
      · rcases List.mem_cons.mp hz with rfl | hz
        · by_cases c : ltL z n = true
          · rw [if_pos c] at top ⊢
            exact top
          · rw [if_neg c] at top ⊢
            exact ltL_tr (by simpa using c) top
        · exact ih.le z (List.mem_cons_of_mem _ hz)
theorem minL_snoc {n y : List Int} {l : List (List Int)} : minL n (l ++ [y]) = if ltL y (minL n l) = true then y else minL n l := by unfold minL; rw [List.foldl_append]; rfl
def turnsI (ws : List Int) : List (List Int) := (List.range ws.length).map (turnL ws)
def restI (ws : List Int) (k : Nat) : List (List Int) := (List.range k).map fun j => turnL ws (1 + j)
theorem turn_zero {ws : List Int} : turnL ws 0 = ws := by simp [turnL]
theorem turns_cons {ws : List Int} (h : ws ≠ []) : turnsI ws = ws :: restI ws (ws.length - 1) := by
  have hp := List.length_pos_iff.mpr h
  unfold turnsI restI
  obtain ⟨n, hn⟩ : ∃ n, ws.length = n + 1 := ⟨ws.length - 1, by omega⟩
  rw [hn, List.range_succ_eq_map, List.map_cons, turn_zero, List.map_map]
  congr 1
  refine List.map_congr_left fun j _ => ?_
  show turnL ws (j + 1) = _
  rw [Nat.add_comm]
def least1 (ws : List Int) : List Int := minL ws (restI ws (ws.length - 1))
theorem least1_of {ws : List Int} (h : ws ≠ []) : LeastOf (fun y => y ∈ turnsI ws) (least1 ws) := by
  rw [turns_cons h]
  exact minL_least _ _
def least2 (ws bs : List Int) : List Int := minL ws (restI ws (ws.length - 1) ++ turnsI bs)
theorem least2_of {ws bs : List Int} (h : ws ≠ []) : LeastOf (fun y => y ∈ turnsI ws ∨ y ∈ turnsI bs) (least2 ws bs) := by
  refine (minL_least _ _).congr fun y => ?_
  rw [← List.cons_append, ← turns_cons h, List.mem_append]
theorem least2_eq {ws bs : List Int} (h : ws ≠ []) (g : bs ≠ []) : (if ltL (least1 bs) (least1 ws) = true then least1 bs else least1 ws) = least2 ws bs := by
  refine LeastOf.uniq ?_ (least2_of h)
  have a := least1_of h
  have b := least1_of g
  by_cases c : ltL (least1 bs) (least1 ws) = true
  · rw [if_pos c]
    refine ⟨.inr b.mem, fun y hy => ?_⟩
    rcases hy with hy | hy
    · exact ltL_tr (a.le y hy) (ltL_asym c)
    · exact b.le y hy
  · rw [if_neg c]
    refine ⟨.inl a.mem, fun y hy => ?_⟩
    rcases hy with hy | hy
    · exact a.le y hy
    · exact ltL_tr (b.le y hy) (by simpa using c)
theorem lt_rows {u v : W} {a b : List Int} : ap_lt [.lst u (a.map .int), .lst v (b.map .int)] = some (.bl (ltL a b)) := by
  have h : ∀ a : List Int, intsD (a.map D.int) = some a := fun a => by
    induction a with
    | nil => rfl
    | cons x a ih => rw [List.map_cons, intsD, ih]
  show (match intsD (a.map D.int), intsD (b.map D.int) with | some a, some b => some (D.bl (ltL a b)) | _, _ => none) = _
  rw [h, h]
structure LeastTurn (f : List D → FR) : Prop where
  yes : ∀ ws : List Int, ws ≠ [] → ws.length ≤ 100000 → ∃ w : W, (w = .own ∨ w = .fz) ∧ f [.lst .fz (ws.map .int)] = .ok [] (.lst w ((least1 ws).map .int))
  nil : f [.lst .fz []] = .ok [] (.lst .own [])
def Sp_least_turn (f : List D → FR) : Prop := LeastTurn f
theorem ok_least_turn (T : Tbl) (h37 : Sp_turned (T.F 37)) (u37 : T.muts 37 = []) : Sp_least_turn (run T ir_least_turn) := by
  refine ⟨fun ws hn hw => ?_, ?_⟩
  · have hp := List.length_pos_iff.mpr hn
    obtain ⟨ρ', g1, w, d2, d3, hw2, g2⟩ := fl_enc (T := T) (C := []) (i := 2) (b := ir_least_turn_b1) (fun (k : Nat) => D.int ((1 + k : Nat) : Int)) (List.range (ws.length - 1)) (ρ := [.lst .fz (ws.map .int), .lst .own (ws.map .int), .und, .und])
      (fun k ρ => ∃ w d2 d3, (w = W.own ∨ w = W.fz) ∧ ρ = [.lst .fz (ws.map .int), .lst w ((minL ws (restI ws k)).map .int), d2, d3]) (fun k hk ρ ⟨w, d2, d3, hw2, e⟩ => by
        subst e
        have hk : k < ws.length - 1 := by simpa using hk
        rw [List.getElem_range]
        have t := h37.cons ws ((1 + k : Nat) : Int) (1 + k) hn (by omega) (Int.emod_eq_of_lt (by omega) (by omega)) (by omega)
        have l := fun v => lt_rows (u := .own) (v := v) (a := turnL ws (1 + k)) (b := minL ws (restI ws k))
        have e : minL ws (restI ws (k + 1)) = if ltL (turnL ws (1 + k)) (minL ws (restI ws k)) = true then turnL ws (1 + k) else minL ws (restI ws k) := by
          unfold restI
          rw [List.range_succ, List.map_append]
          exact minL_snoc
        show ∃ ρ2, _ ∧ ∃ w d2 d3, (w = W.own ∨ w = W.fz) ∧ ρ2 = ([.lst .fz (ws.map .int), .lst w ((minL ws (restI ws (k + 1))).map .int), d2, d3] : List D)
        rw [e]
        generalize minL ws (restI ws k) = B at l
        generalize turnL ws (1 + k) = R at t l
        generalize ((1 + k : Nat) : Int) = i at t
        by_cases c : ltL R B = true
        · rw [if_pos c]
          simp only [c] at l
          refine ⟨_, .inl ?_, .fz, .int i, .lst .fz (R.map .int), .inr rfl, rfl⟩
          rcases hw2 with rfl | rfl <;> simp -implicitDefEqProofs [ir_least_turn_b1, u37, t, l]
        · have c' : ltL R B = false := by simpa using c
          rw [if_neg c]
          simp only [c'] at l
          refine ⟨_, .inl ?_, w, .int i, .lst .own (R.map .int), hw2, rfl⟩
          rcases hw2 with rfl | rfl <;> simp -implicitDefEqProofs [ir_least_turn_b1, u37, t, l]) ⟨.own, .und, .und, .inl rfl, rfl⟩
    subst g2
    have r1 : rng [.int 1, .int (ws.length : Int)] = some (1, ws.length - 1) := rng_two (m := 1) (by omega) (by omega)
    have er : rangeD 1 (ws.length - 1) = (List.range (ws.length - 1)).map fun (k : Nat) => D.int ((1 + k : Nat) : Int) := rangeD_encF (lo := 1)
    rw [← er, List.length_range] at g1
    refine ⟨w, hw2, ?_⟩
    show run T ir_least_turn _ = .ok [] (.lst w ((minL ws (restI ws (ws.length - 1))).map .int))
    generalize minL ws (restI ws (ws.length - 1)) = L at g1
    rcases hw2 with rfl | rfl <;> simp -implicitDefEqProofs [run_eq, ir_least_turn, r1, g1]
  · have r1 : rng [.int 1, .int 0] = some (1, 0) := rfl
    have e : rangeD 1 0 = [] := rfl
    simp -implicitDefEqProofs [run_eq, ir_least_turn, r1, e, fl_nil]
def leastW (mt : Nat → Option Nat) (w : List Nat) : List Int := least2 (intsOf w) (intsOf (backW mt w))
theorem intsOf_ne {w : List Nat} (h : w ≠ []) : intsOf w ≠ [] := fun z => h (by
  have : (intsOf w).length = 0 := by rw [z]; rfl
  rw [intsOf_len] at this
  exact List.length_eq_zero_iff.mp this)
structure Least (f : List D → FR) : Prop where
  yes : ∀ m mt nm w, TentOk m mt nm → Closed m mt w → w.length ≤ 100000 → ∃ u : W, (u = .own ∨ u = .fz) ∧ f [tentO .fz (csOf m nm), .lst .fz (natsL w)] = .ok [] (.lst u ((leastW mt w).map .int))
  no : ∀ m mt nm (ws : List Int), TentOk m mt nm → ws.length ≤ 100000 → plainI m mt ws = false → f [tentO .fz (csOf m nm), .lst .fz (ws.map .int)] = .exn 7 []
def Sp_least (f : List D → FR) : Prop := Least f
theorem ok_least (T : Tbl) (h36 : Sp_backward (T.F 36)) (h38 : Sp_least_turn (T.F 38)) (u36 : T.muts 36 = []) (u38 : T.muts 38 = []) : Sp_least (run T ir_least) := by
  refine ⟨fun m mt nm w t cw hw => ?_, fun m mt nm ws t hw h => ?_⟩
  · have bn : backW mt w ≠ [] := fun z => cw.ne (by have := @backW_len mt w; rw [z] at this; exact List.length_eq_zero_iff.mp this.symm)
    obtain ⟨w1, v1, e1⟩ := h38.yes (intsOf w) (intsOf_ne cw.ne) (by simpa using hw)
    have e2 := h36.yes m mt nm w t cw (by omega)
    obtain ⟨w3, v3, e3⟩ := h38.yes (intsOf (backW mt w)) (intsOf_ne bn) (by simpa using hw)
    rw [← natsL_ints] at e1 e3
    have e4 := least2_eq (intsOf_ne cw.ne) (intsOf_ne bn)
    have l := fun u v => lt_rows (u := u) (v := v) (a := least1 (intsOf (backW mt w))) (b := least1 (intsOf w))
    unfold leastW
    rw [← e4]
    generalize least1 (intsOf w) = A at e1 l
    generalize least1 (intsOf (backW mt w)) = B at e3 l
    by_cases c : ltL B A = true
    · rw [if_pos c]
      simp only [c] at l
      refine ⟨w3, v3, ?_⟩
      rcases v1 with rfl | rfl <;> rcases v3 with rfl | rfl <;> simp -implicitDefEqProofs [run_eq, ir_least, u36, u38, e1, e2, e3, l]
    · have c' : ltL B A = false := by simpa using c
      rw [if_neg c]
      simp only [c'] at l
      refine ⟨w1, v1, ?_⟩
      rcases v1 with rfl | rfl <;> rcases v3 with rfl | rfl <;> simp -implicitDefEqProofs [run_eq, ir_least, u36, u38, e1, e2, e3, l]
  · have e2 := h36.no m mt nm ws t (by omega) h
    by_cases z : ws = []
    · subst z
      have e1 := h38.nil
      simp at e2
      simp -implicitDefEqProofs [run_eq, ir_least, u36, u38, e1, e2]
    · obtain ⟨w1, v1, e1⟩ := h38.yes ws z hw
      rcases v1 with rfl | rfl <;> simp -implicitDefEqProofs [run_eq, ir_least, u36, u38, e1, e2]
end TL

namespace TL
open PySem PySem.Spec PyProof.Rows L2

theorem intsD_map : ∀ a : List Int, intsD (a.map D.int) = some a
  | [] => rfl
  | x :: a => by rw [List.map_cons, intsD, intsD_map a]
theorem rowsD_map : ∀ l : List (List Int), rowsD (l.map rowV) = some l
  | [] => rfl
  | n :: l => by
    show rowsD (.lst .fz (n.map .int) :: l.map rowV) = _
    rw [rowsD, intsD_map, rowsD_map l]
theorem min_rows {w : W} {n : List Int} {l : List (List Int)} : ap_min1 [.lst w ((n :: l).map rowV)] = some (rowV (minL n l)) := by
  show (match intsD ((n :: l).map rowV) with | some (n :: ns) => some (D.int (minI (n :: ns))) | _ => match rowsD ((n :: l).map rowV) with | some (n :: l) => some (rowV (minL n l)) | _ => none) = _
  rw [rowsD_map]
  rfl
theorem turns_rows {ws : List Int} : (tabD ws.length fun k => frz (D.lst .own ((turnL ws k).map .int))) = (turnsI ws).map rowV := by
  unfold tabD turnsI
  rw [List.map_map]
  rfl
def Sp_law_least (f : List D → FR) : Prop := ∀ m mt w, m ≤ 1000 → Closed m mt w → w.length ≤ 100000 → f [.lst .fz (matesL (3 * m) mt), .lst .fz (natsL w)] = .ok [] (.lst .fz ((leastW mt w).map .int))
theorem ok_law_least (T : Tbl) : Sp_law_least (run T ir_law_least) := fun m mt w hm cw hw => by
  have lw : lenOk w.length = true := lenOk_le (by omega)
  have lw2 : lenOk (w.length + w.length) = true := lenOk_le (by omega)
  have r1 := rng_one (n := w.length) (by omega)
  have cb := cl_enc (T := T) (i := 4) (elt := ir_law_least_e1) (ρ := [.lst .fz (matesL (3 * m) mt), .lst .fz (natsL w), .und, .und, .und, .und]) (fun (k : Nat) => D.int (k : Int)) w.reverse (fun p => .int (((mt p).getD 0 : Nat) : Int)) (fun p hp => by
    obtain ⟨hlt, s, hs⟩ := cw.mem (List.mem_reverse.mp hp)
    have a := matesL_at (mt := mt) hlt
    rw [hs] at a
    simp at a
    refine ⟨?_, rfl⟩
    simp -implicitDefEqProofs [ir_law_least_e1, a, hs])
  have ec : (w.reverse.map fun (k : Nat) => D.int (k : Int)) = (natsL w).reverse := by unfold natsL; rw [List.map_reverse]
  have ec2 : (w.reverse.map fun p => frz (D.int (((mt p).getD 0 : Nat) : Int))) = natsL (backW mt w) := by unfold natsL backW; rw [List.map_map]; rfl
  rw [ec, ec2] at cb
  simp at cb
  have bl : (intsOf (backW mt w)).length = w.length := by simp
  have wl : (intsOf w).length = w.length := by simp
  have fin := least2_of (intsOf_ne cw.ne) (bs := intsOf (backW mt w))
  have hcut : ∀ (ws : List Int), ws.length = w.length → ∀ k, k < w.length → cutD (ws.map D.int) (some (k : Int)) none = (ws.drop k).map .int ∧ cutD (ws.map D.int) none (some (k : Int)) = (ws.take k).map .int ∧ lenOk (ws.length - k + min k ws.length) = true := fun ws h k hk =>
    ⟨cut_ints_from (by omega), cut_ints_to (by omega), lenOk_le (by omega)⟩
  have bnat : natsL (backW mt w) = (intsOf (backW mt w)).map .int := natsL_ints
  have wnat : natsL w = (intsOf w).map .int := natsL_ints
  have wne := intsOf_ne cw.ne
  unfold leastW
  rw [bnat] at cb
  rw [wnat] at cb ⊢
  generalize intsOf w = ws at *
  generalize intsOf (backW mt w) = bs at *
  have c1 := cl_range (T := T) (i := 5) (elt := ir_law_least_e2) (ρ := [.lst .fz (matesL (3 * m) mt), .lst .fz (ws.map .int), .lst .own (bs.map .int), .und, .und, .und]) (n := w.length) (fun k => .lst .own ((turnL ws k).map .int)) (fun k hk => by
    obtain ⟨h1, h2, h3⟩ := hcut ws wl k hk
    refine ⟨?_, rfl⟩
    unfold turnL
    simp -implicitDefEqProofs [ir_law_least_e2, h1, h2, h3])
  have c2 := cl_range (T := T) (i := 5) (elt := ir_law_least_e3) (ρ := [.lst .fz (matesL (3 * m) mt), .lst .fz (ws.map .int), .lst .own (bs.map .int), .lst .own ((turnsI ws).map rowV), .und, .und]) (n := w.length) (fun k => .lst .own ((turnL bs k).map .int)) (fun k hk => by
    obtain ⟨h1, h2, h3⟩ := hcut bs bl k hk
    refine ⟨?_, rfl⟩
    unfold turnL
    simp -implicitDefEqProofs [ir_law_least_e3, h1, h2, h3])
  rw [← wl, turns_rows] at c1
  rw [← bl, turns_rows] at c2
  rw [wl] at c1
  rw [bl] at c2
  simp at c1 c2
  have mr := min_rows (w := .own) (n := ws) (l := restI ws (ws.length - 1) ++ turnsI bs)
  rw [← List.cons_append, ← turns_cons wne, List.map_append] at mr
  have l1 : ((turnsI ws).map rowV).length = w.length := by simp [turnsI, wl]
  have l2 : ((turnsI bs).map rowV).length = w.length := by simp [turnsI, bl]
  unfold least2
  generalize minL ws (restI ws (ws.length - 1) ++ turnsI bs) = L at mr
  rw [show rowV L = .lst .fz (L.map .int) from rfl] at mr
  generalize (turnsI ws).map rowV = A at c1 c2 mr l1
  generalize (turnsI bs).map rowV = B at c2 mr l2
  simp -implicitDefEqProofs [run_eq, ir_law_least, lw, lw2, r1, cb, c1, c2, mr, l1, l2, wl, bl]
end TL

namespace TL
open PySem PySem.Spec PyProof.Rows L2

/-! ### the least form of a turn and of the way back -/
theorem turnL_turnL {ws : List Int} {a b : Nat} (ha : a ≤ ws.length) (hb : b < ws.length) : turnL (turnL ws a) b = turnL ws ((a + b) % ws.length) := by
  apply List.ext_getElem?
  intro i
  by_cases hi : i < ws.length
  · rw [turn_get (by simp; omega) (by simpa using hi), turnL_len, turn_get ha (Nat.mod_lt _ (by omega)), turn_get (Nat.le_of_lt (Nat.mod_lt _ (by omega))) hi]
    congr 1
    rw [Nat.mod_add_mod, Nat.add_mod_mod]
    congr 1
    omega
  · rw [List.getElem?_eq_none (by simp; omega), List.getElem?_eq_none (by simp; omega)]
theorem mem_turns {ws : List Int} {y : List Int} : y ∈ turnsI ws ↔ ∃ b, b < ws.length ∧ turnL ws b = y := by simp [turnsI]
theorem turns_turn {ws : List Int} {a : Nat} (ha : a < ws.length) (y : List Int) : y ∈ turnsI (turnL ws a) ↔ y ∈ turnsI ws := by
  rw [mem_turns, mem_turns, turnL_len]
  constructor
  · rintro ⟨b, hb, rfl⟩
    exact ⟨(a + b) % ws.length, Nat.mod_lt _ (by omega), (turnL_turnL (by omega) hb).symm⟩
  · rintro ⟨b, hb, rfl⟩
    refine ⟨(b + (ws.length - a)) % ws.length, Nat.mod_lt _ (by omega), ?_⟩
    rw [turnL_turnL (by omega) (Nat.mod_lt _ (by omega)), Nat.add_mod_mod]
    congr 1
    rw [show a + (b + (ws.length - a)) = b + ws.length by omega, Nat.add_mod_right, Nat.mod_eq_of_lt hb]
def rotW (w : List Nat) (b : Nat) : List Nat := w.drop b ++ w.take b
theorem back_rot {mt : Nat → Option Nat} {w : List Nat} {a : Nat} (ha : a ≤ w.length) : backW mt (rotW w a) = rotW (backW mt w) (w.length - a) := by
  unfold backW rotW
  rw [List.reverse_append, List.map_append, ← List.map_drop, ← List.map_take, List.drop_reverse, List.take_reverse]
  congr 2 <;> congr 2 <;> omega
theorem leastW_of {m : Nat} {mt : Nat → Option Nat} {w : List Nat} (h : Closed m mt w) : LeastOf (fun y => y ∈ turnsI (intsOf w) ∨ y ∈ turnsI (intsOf (backW mt w))) (leastW mt w) := least2_of (intsOf_ne h.ne)
theorem leastW_back {m : Nat} {mt : Nat → Option Nat} {w : List Nat} (hm : Mates (3 * m) mt) (h : Closed m mt w) : leastW mt (backW mt w) = leastW mt w := by
  refine LeastOf.uniq ((leastW_of (h.back hm)).congr fun y => ?_) (leastW_of h)
  rw [back_back hm h]
  exact Or.comm
theorem ints_rot {w : List Nat} {b : Nat} : intsOf (rotW w b) = turnL (intsOf w) b := intsOf_rot
theorem leastW_rot {m : Nat} {mt : Nat → Option Nat} {w : List Nat} (h : Closed m mt w) {a : Nat} (ha : a < w.length) : leastW mt (rotW w a) = leastW mt w := by
  refine LeastOf.uniq ((leastW_of (h.rot ha)).congr fun y => ?_) (leastW_of h)
  show (y ∈ turnsI (intsOf (rotW w a)) ∨ y ∈ turnsI (intsOf (backW mt (rotW w a)))) ↔ _
  rw [ints_rot, turns_turn (by simpa using ha), back_rot (by omega), ints_rot]
  by_cases z : a = 0
  · subst z
    have e : turnL (intsOf (backW mt w)) (w.length - 0) = intsOf (backW mt w) := by
      have := @turn_full (intsOf (backW mt w))
      simpa using this
    rw [e]
  · rw [turns_turn (by simp; omega)]
end TL

namespace TL
open PySem PySem.Spec PyProof.Rows L2

theorem mul_nats {w : List Nat} {c : Nat} (hc : c ≤ 1000) (hw : w.length ≤ 1000) : ap_mul [.lst .own (natsL w), .int (c : Int)] = some (.lst .own (natsL (List.replicate c w).flatten)) := by
  have e : repD c (natsL w) = natsL (List.replicate c w).flatten := by
    rw [natsL_ints, rep_nat, ← intsOf_rep, ← natsL_ints]
  have l : lenOk ((natsL w).length * c) = true := lenOk_le (by
    rw [natsL_len]
    have := Nat.mul_le_mul hw hc
    omega)
  rw [mul_lst_r, Int.toNat_natCast, l, e, if_pos]
  simp
  omega
theorem ok_law_k16 (T : Tbl) (h206 : Sp_tent (T.F 206)) (h1 : Sp_Tent_init (T.F 1)) (h23 : Sp_Tent_size (T.F 23)) (h39 : Sp_least (T.F 39)) (h105 : Sp_cell (T.F 105)) (h109 : Sp_list (T.F 109)) (h168 : Sp_law_least (T.F 168)) (h209 : Sp_thread (T.F 209))
    (u206 : T.muts 206 = []) (u23 : T.muts 23 = []) (u39 : T.muts 39 = []) (u105 : T.muts 105 = []) (u109 : T.muts 109 = []) (u168 : T.muts 168 = []) (u209 : T.muts 209 = []) (m23 : T.mc 23 = 0) : Sp_law (run T ir_law_k16) := fun ns _ => by
  obtain ⟨m, mt, nm, t, e0⟩ := h206 ns
  have hl := t.le
  have e1 := t.make h1
  have c4 := h105 ns 4 (by decide)
  generalize cellF ns 4 = x at c4
  simp at c4
  obtain ⟨w, w1, w2, e3⟩ := h209 ns 3 m mt (by decide) hl t.mates
  simp at e3
  have es := h23 (csOf m nm)
  rw [csOf_len] at es
  by_cases wn : w = []
  · subst wn
    simp at e3
    simp -implicitDefEqProofs [run_eq, ir_law_k16, u206, u209, u23, m23, e0, e1, e3, es]
  · have cw0 : Closed m mt w := w1.resolve_left wn
    have wp0 := List.length_pos_iff.mpr wn
    obtain ⟨i, hi, il⟩ := mod_nat x (m := 6) (by decide)
    have hi : x % 6 = (i : Int) := hi
    obtain ⟨c, ec, c1, c2⟩ : ∃ c : Nat, atI [D.int 1, .int 1, .int 1, .int 2, .int 3, .int 1] (x % 6) = some (.int (c : Int)) ∧ 0 < c ∧ c ≤ 3 := by
      rw [hi, atI_nat']
      rcases (by omega : i = 0 ∨ i = 1 ∨ i = 2 ∨ i = 3 ∨ i = 4 ∨ i = 5) with rfl | rfl | rfl | rfl | rfl | rfl
      · exact ⟨1, rfl, by decide, by decide⟩
      · exact ⟨1, rfl, by decide, by decide⟩
      · exact ⟨1, rfl, by decide, by decide⟩
      · exact ⟨2, rfl, by decide, by decide⟩
      · exact ⟨3, rfl, by decide, by decide⟩
      · exact ⟨1, rfl, by decide, by decide⟩
    have mu := mul_nats (w := w) (c := c) (by omega) (by omega)
    have cw := cw0.rep c1
    have wl : (List.replicate c w).flatten.length ≤ 159 := by
      have := @rep_len Nat w c
      have h2 := Nat.mul_le_mul c2 w2
      omega
    generalize (List.replicate c w).flatten = V at mu cw wl
    have vp := List.length_pos_iff.mpr cw.ne
    have vp2 : (0 : Int) < (V.length : Int) := by omega
    obtain ⟨b, hb, bl⟩ := mod_nat (x / 6) vp
    have d6 : divOk 6 = true := divOk_lit (by decide) (by decide)
    have g1 := h168 m mt V (by omega) cw (by omega)
    obtain ⟨u1, v1, g2⟩ := h39.yes m mt nm V t cw (by omega)
    have cb := cw.back t.mates
    obtain ⟨u2, v2, g3⟩ := h39.yes m mt nm (backW mt V) t cb (by simp; omega)
    have cr := cw.rot bl
    obtain ⟨u3, v3, g4⟩ := h39.yes m mt nm (rotW V b) t cr (by simp [rotW]; omega)
    rw [leastW_back t.mates cw] at g3
    rw [leastW_rot cw bl] at g4
    have len : (leastW mt V).length = V.length := by
      rcases (leastW_of cw).mem with h | h <;> obtain ⟨b', _, e⟩ := mem_turns.mp h <;> rw [← e, turnL_len] <;> simp
    have g5 := h109 ((leastW mt V).map .int) allInt_ints (by simp; omega)
    have lw : lenOk V.length = true := lenOk_le (by omega)
    have lw2 : lenOk (V.length - b + min b V.length) = true := lenOk_le (by omega)
    have cmb := cl_enc (T := T) (i := 10) (elt := ir_law_k16_e1) (ρ := [script ns, tentO .own (csOf m nm), .lst .fz (natsL V), .int x, .lst .fz ((leastW mt V).map .int), .int (b : Int), .und, .und, .lst .fz (matesL (3 * m) mt), .lst .fz (rowsL m nm), .und]) (fun (k : Nat) => D.int (k : Int)) V.reverse (fun p => .int (((mt p).getD 0 : Nat) : Int)) (fun p hp => by
      obtain ⟨hlt, s, hs⟩ := cw.mem (List.mem_reverse.mp hp)
      have a := matesL_at (mt := mt) hlt
      rw [hs] at a
      simp at a
      refine ⟨?_, rfl⟩
      simp -implicitDefEqProofs [ir_law_k16_e1, a, hs])
    have ec1 : (V.reverse.map fun (k : Nat) => D.int (k : Int)) = (natsL V).reverse := by unfold natsL; rw [List.map_reverse]
    have ec2 : (V.reverse.map fun p => frz (D.int (((mt p).getD 0 : Nat) : Int))) = natsL (backW mt V) := by unfold natsL backW; rw [List.map_map]; rfl
    rw [ec1, ec2] at cmb
    simp at cmb
    have ct1 : cutD (natsL V) (some (b : Int)) none = natsL (V.drop b) := by rw [cutD_from (by simp; omega)]; unfold natsL; rw [List.map_drop]
    have ct2 : cutD (natsL V) none (some (b : Int)) = natsL (V.take b) := by rw [cutD_to (by simp; omega)]; unfold natsL; rw [List.map_take]
    have ct3 : natsL (V.drop b) ++ natsL (V.take b) = natsL (rotW V b) := natsL_append.symm
    have nw : ∀ a c, ap_ne [.lst a (natsL V), .lst c (natsL V)] = some (.bl false) := fun a c => ne_nats
    generalize leastW mt V = L at g1 g2 g3 g4 g5 cmb
    generalize backW mt V = BW at g3 cmb
    generalize rotW V b = RW at g4 ct3
    have vn := cw.ne
    rcases v1 with rfl | rfl <;> rcases v2 with rfl | rfl <;> rcases v3 with rfl | rfl <;> simp -implicitDefEqProofs [run_eq, ir_law_k16, u206, u209, u23, m23, u39, u105, u109, u168, e0, e1, e3, es, c4, wn, wp0, ec, mu, vn, vp, vp2, hb, d6, g1, g2, g3, g4, g5, lw, lw2, cmb, ct1, ct2, ct3, nw]
end TL

namespace K16
open PySem PySem.Spec PyProof.Rows L2 TL
def kx (i : Nat) : Bool := decide (i ∈ ([1, 2, 7] : List Nat))
def b0 : Tbl := tb kx
end K16
open PySem PySem.Spec PyProof.Rows L2 TL
namespace K16
def top (i : Nat) : Stmt := PySem.Challenge.pw_tentloops_k16_least_forms.main.body.getD i (.Pass ⟨0, 0, 0, 0⟩)
def D_standing : Df := ⟨0, (top 9), "standing", "standing", ["rows", "where", "at", "cloth", "seam"], ["rows"], ir_standing⟩
def D_Tent__init_ : Df := ⟨1, (inClass (top 10) 0), "__init__", "Tent.__init__", ["self", "rows", "where", "seam", "cloth"], ["self", "rows"], ir_Tent_init⟩
def D_Tent_seam_at : Df := ⟨21, (inClass (top 10) 4), "seam_at", "Tent.seam_at", ["self", "place"], ["self", "place"], ir_Tent_seam_at⟩
def D_Tent_mate : Df := ⟨22, (inClass (top 10) 6), "mate", "Tent.mate", ["self", "place", "both"], ["self", "place"], ir_Tent_mate⟩
def D_Tent_size : Df := ⟨23, (inClass (top 10) 2), "size", "Tent.size", ["self"], ["self"], ir_Tent_size⟩
def D_plain : Df := ⟨24, (top 12), "plain", "plain", ["tent", "word", "many", "place", "at", "side"], ["tent", "word"], ir_plain⟩
def D_look_thread : Df := ⟨28, (top 13), "look_thread", "look_thread", ["tent", "word"], ["tent", "word"], ir_look_thread⟩
def D_backward : Df := ⟨36, (top 14), "backward", "backward", ["tent", "word", "place"], ["tent", "word"], ir_backward⟩
def D_turned : Df := ⟨37, (top 15), "turned", "turned", ["word", "by", "start"], ["word", "by"], ir_turned⟩
def D_least_turn : Df := ⟨38, (top 16), "least_turn", "least_turn", ["word", "best", "by", "row"], ["word"], ir_least_turn⟩
def D_least : Df := ⟨39, (top 17), "least", "least", ["tent", "word", "there", "back"], ["tent", "word"], ir_least⟩
def D__law_cell : Df := ⟨105, (top 19), "_law_cell", "_law_cell", ["_law_script", "_law_at"], ["_law_script", "_law_at"], ir_law_cell⟩
def D__law_whole : Df := ⟨108, (top 27), "_law_whole", "_law_whole", ["_law_found"], ["_law_found"], ir_law_whole⟩
def D__law_list : Df := ⟨109, (top 28), "_law_list", "_law_list", ["_law_found", "_law_due", "_law_k"], ["_law_found", "_law_due"], ir_law_list⟩
def D__law_numbers : Df := ⟨113, (top 20), "_law_numbers", "_law_numbers", ["_law_cell_here", "_law_many", "_law_row", "_law_rest", "_law_seed"], ["_law_cell_here", "_law_many"], ir_law_numbers⟩
def D__law_walk : Df := ⟨115, (top 24), "_law_walk", "_law_walk", ["_law_mates", "_law_nums", "_law_spots", "_law_row", "_law_pick", "_law_start", "_law_side", "_law_ways", "_law_stop", "_law_p", "_law_k"], ["_law_mates", "_law_nums"], ir_law_walk⟩
def D__law_rows : Df := ⟨151, (top 22), "_law_rows", "_law_rows", ["_law_mates", "_law_start", "_law_step", "_law_flat", "_law_at", "_law_mate", "_law_k"], ["_law_mates", "_law_start", "_law_step"], ir_law_rows⟩
def D__law_sewn : Df := ⟨152, (top 21), "_law_sewn", "_law_sewn", ["_law_nums", "_law_many", "_law_share", "_law_mates", "_law_free", "_law_at", "_law_one", "_law_pick", "_law_other"], ["_law_nums", "_law_many", "_law_share"], ir_law_sewn⟩
def D__law_least : Df := ⟨168, (top 26), "_law_least", "_law_least", ["_law_mates", "_law_word", "_law_back", "_law_rows_here", "_law_p", "_law_k"], ["_law_mates", "_law_word"], ir_law_least⟩
def D__law_tent : Df := ⟨206, (top 23), "_law_tent", "_law_tent", ["_law_script", "_law_head", "_law_many", "_law_names", "_law_share", "_law_mates", "_law_step"], ["_law_script"], ir_law_tent⟩
def D__law_thread : Df := ⟨209, (top 25), "_law_thread", "_law_thread", ["_law_script", "_law_at", "_law_mates", "_law_cell_here"], ["_law_script", "_law_at", "_law_mates"], ir_law_thread⟩
def D_law : Df := ⟨223, (top 29), "law", "law", ["_law_script", "_law_tent_here", "_law_word", "_law_pick", "_law_due", "_law_by", "_law_back", "_law_handed", "_law_mates", "_law_rows_here", "_law_p"], ["_law_script"], ir_law_k16⟩
def R_0 : List Df := []
def R_1 : List Df := D_standing :: R_0
def R_2 : List Df := D_Tent__init_ :: R_1
def R_3 : List Df := D_Tent_seam_at :: R_2
def R_4 : List Df := D_Tent_mate :: R_3
def R_5 : List Df := D_Tent_size :: R_4
def R_6 : List Df := D_plain :: R_5
def R_7 : List Df := D_look_thread :: R_6
def R_8 : List Df := D_backward :: R_7
def R_9 : List Df := D_turned :: R_8
def R_10 : List Df := D_least_turn :: R_9
def R_11 : List Df := D_least :: R_10
def R_12 : List Df := D__law_cell :: R_11
def R_13 : List Df := D__law_whole :: R_12
def R_14 : List Df := D__law_list :: R_13
def R_15 : List Df := D__law_numbers :: R_14
def R_16 : List Df := D__law_walk :: R_15
def R_17 : List Df := D__law_rows :: R_16
def R_18 : List Df := D__law_sewn :: R_17
def R_19 : List Df := D__law_least :: R_18
def R_20 : List Df := D__law_tent :: R_19
def R_21 : List Df := D__law_thread :: R_20
def R_22 : List Df := D_law :: R_21
def ar (i : Nat) : Nat := (([(0, 1), (1, 2), (21, 2), (22, 2), (23, 1), (24, 2), (28, 2), (36, 2), (37, 2), (38, 1), (39, 2), (105, 2), (108, 1), (109, 2), (113, 2), (115, 2), (151, 3), (152, 3), (168, 2), (206, 1), (209, 3), (223, 1)] : List (Nat × Nat)).lookup i).getD 0
def e0 (xs cs : List Addr) : Pm := { nm := nm0, T := b0, ca := fun i => cs.getD i 0, xa := fun i => xs.getD i 0, ar := ar }
def oks : Oks := { fn := fun i => decide (i ∈ ([0, 24, 28, 36, 37, 38, 39, 105, 108, 109, 113, 115, 151, 152, 168, 206, 209] : List Nat)), me := fun i => decide (i ∈ ([21, 22, 23] : List Nat)), mak := fun c f => decide ((c, f) ∈ ([(0, 1)] : List (Nat × Nat))), fl := fun c f => decide ((c, f) ∈ ([(0, 0), (0, 1)] : List (Nat × Nat))), bl := fun x => decide (x ∈ (["bool", "int", "isinstance", "len", "list", "min", "range", "reversed", "tuple"] : List String).map Str.ofString), cn := fun i => decide (i ∈ ([0] : List Nat)), ex := fun i => decide (i ∈ ([1, 2, 7] : List Nat)), hx := fun i => decide (i ∈ ([] : List Nat)) }
theorem chk_standing : chkSs nm0 (oks.below R_0) ar ⟨["rows", "where", "at", "cloth", "seam"], defScope (top 9), true⟩ ir_standing.body (defBody (top 9)) = true := by decide +kernel
theorem sc_standing : FnScope ["rows", "where", "at", "cloth", "seam"] ["rows"] (defScope (top 9)) := ⟨rfl, rfl, rfl, by decide +kernel, rfl, by decide +kernel, by decide +kernel⟩
theorem chk_Tent__init_ : chkSs nm0 (oks.below R_1) ar ⟨["self", "rows", "where", "seam", "cloth"], defScope (inClass (top 10) 0), true⟩ ir_Tent_init.body (defBody (inClass (top 10) 0)) = true := by decide +kernel
theorem sc_Tent__init_ : FnScope ["self", "rows", "where", "seam", "cloth"] ["self", "rows"] (defScope (inClass (top 10) 0)) := ⟨rfl, rfl, rfl, by decide +kernel, rfl, by decide +kernel, by decide +kernel⟩
theorem chk_Tent_seam_at : chkSs nm0 (oks.below R_2) ar ⟨["self", "place"], defScope (inClass (top 10) 4), true⟩ ir_Tent_seam_at.body (defBody (inClass (top 10) 4)) = true := by decide +kernel
theorem sc_Tent_seam_at : FnScope ["self", "place"] ["self", "place"] (defScope (inClass (top 10) 4)) := ⟨rfl, rfl, rfl, by decide +kernel, rfl, by decide +kernel, by decide +kernel⟩
theorem chk_Tent_mate : chkSs nm0 (oks.below R_3) ar ⟨["self", "place", "both"], defScope (inClass (top 10) 6), true⟩ ir_Tent_mate.body (defBody (inClass (top 10) 6)) = true := by decide +kernel
theorem sc_Tent_mate : FnScope ["self", "place", "both"] ["self", "place"] (defScope (inClass (top 10) 6)) := ⟨rfl, rfl, rfl, by decide +kernel, rfl, by decide +kernel, by decide +kernel⟩
theorem chk_Tent_size : chkSs nm0 (oks.below R_4) ar ⟨["self"], defScope (inClass (top 10) 2), true⟩ ir_Tent_size.body (defBody (inClass (top 10) 2)) = true := by decide +kernel
theorem sc_Tent_size : FnScope ["self"] ["self"] (defScope (inClass (top 10) 2)) := ⟨rfl, rfl, rfl, by decide +kernel, rfl, by decide +kernel, by decide +kernel⟩
theorem chk_plain : chkSs nm0 (oks.below R_5) ar ⟨["tent", "word", "many", "place", "at", "side"], defScope (top 12), true⟩ ir_plain.body (defBody (top 12)) = true := by decide +kernel
theorem sc_plain : FnScope ["tent", "word", "many", "place", "at", "side"] ["tent", "word"] (defScope (top 12)) := ⟨rfl, rfl, rfl, by decide +kernel, rfl, by decide +kernel, by decide +kernel⟩
theorem chk_look_thread : chkSs nm0 (oks.below R_6) ar ⟨["tent", "word"], defScope (top 13), true⟩ ir_look_thread.body (defBody (top 13)) = true := by decide +kernel
theorem sc_look_thread : FnScope ["tent", "word"] ["tent", "word"] (defScope (top 13)) := ⟨rfl, rfl, rfl, by decide +kernel, rfl, by decide +kernel, by decide +kernel⟩
theorem chk_backward : chkSs nm0 (oks.below R_7) ar ⟨["tent", "word", "place"], defScope (top 14), true⟩ ir_backward.body (defBody (top 14)) = true := by decide +kernel
theorem sc_backward : FnScope ["tent", "word", "place"] ["tent", "word"] (defScope (top 14)) := ⟨rfl, rfl, rfl, by decide +kernel, rfl, by decide +kernel, by decide +kernel⟩
theorem chk_turned : chkSs nm0 (oks.below R_8) ar ⟨["word", "by", "start"], defScope (top 15), true⟩ ir_turned.body (defBody (top 15)) = true := by decide +kernel
theorem sc_turned : FnScope ["word", "by", "start"] ["word", "by"] (defScope (top 15)) := ⟨rfl, rfl, rfl, by decide +kernel, rfl, by decide +kernel, by decide +kernel⟩
theorem chk_least_turn : chkSs nm0 (oks.below R_9) ar ⟨["word", "best", "by", "row"], defScope (top 16), true⟩ ir_least_turn.body (defBody (top 16)) = true := by decide +kernel
theorem sc_least_turn : FnScope ["word", "best", "by", "row"] ["word"] (defScope (top 16)) := ⟨rfl, rfl, rfl, by decide +kernel, rfl, by decide +kernel, by decide +kernel⟩
theorem chk_least : chkSs nm0 (oks.below R_10) ar ⟨["tent", "word", "there", "back"], defScope (top 17), true⟩ ir_least.body (defBody (top 17)) = true := by decide +kernel
theorem sc_least : FnScope ["tent", "word", "there", "back"] ["tent", "word"] (defScope (top 17)) := ⟨rfl, rfl, rfl, by decide +kernel, rfl, by decide +kernel, by decide +kernel⟩
theorem chk__law_cell : chkSs nm0 (oks.below R_11) ar ⟨["_law_script", "_law_at"], defScope (top 19), true⟩ ir_law_cell.body (defBody (top 19)) = true := by decide +kernel
theorem sc__law_cell : FnScope ["_law_script", "_law_at"] ["_law_script", "_law_at"] (defScope (top 19)) := ⟨rfl, rfl, rfl, by decide +kernel, rfl, by decide +kernel, by decide +kernel⟩
theorem chk__law_whole : chkSs nm0 (oks.below R_12) ar ⟨["_law_found"], defScope (top 27), true⟩ ir_law_whole.body (defBody (top 27)) = true := by decide +kernel
theorem sc__law_whole : FnScope ["_law_found"] ["_law_found"] (defScope (top 27)) := ⟨rfl, rfl, rfl, by decide +kernel, rfl, by decide +kernel, by decide +kernel⟩
theorem chk__law_list : chkSs nm0 (oks.below R_13) ar ⟨["_law_found", "_law_due", "_law_k"], defScope (top 28), true⟩ ir_law_list.body (defBody (top 28)) = true := by decide +kernel
theorem sc__law_list : FnScope ["_law_found", "_law_due", "_law_k"] ["_law_found", "_law_due"] (defScope (top 28)) := ⟨rfl, rfl, rfl, by decide +kernel, rfl, by decide +kernel, by decide +kernel⟩
theorem chk__law_numbers : chkSs nm0 (oks.below R_14) ar ⟨["_law_cell_here", "_law_many", "_law_row", "_law_rest", "_law_seed"], defScope (top 20), true⟩ ir_law_numbers.body (defBody (top 20)) = true := by decide +kernel
theorem sc__law_numbers : FnScope ["_law_cell_here", "_law_many", "_law_row", "_law_rest", "_law_seed"] ["_law_cell_here", "_law_many"] (defScope (top 20)) := ⟨rfl, rfl, rfl, by decide +kernel, rfl, by decide +kernel, by decide +kernel⟩
theorem chk__law_walk : chkSs nm0 (oks.below R_15) ar ⟨["_law_mates", "_law_nums", "_law_spots", "_law_row", "_law_pick", "_law_start", "_law_side", "_law_ways", "_law_stop", "_law_p", "_law_k"], defScope (top 24), true⟩ ir_law_walk.body (defBody (top 24)) = true := by decide +kernel
theorem sc__law_walk : FnScope ["_law_mates", "_law_nums", "_law_spots", "_law_row", "_law_pick", "_law_start", "_law_side", "_law_ways", "_law_stop", "_law_p", "_law_k"] ["_law_mates", "_law_nums"] (defScope (top 24)) := ⟨rfl, rfl, rfl, by decide +kernel, rfl, by decide +kernel, by decide +kernel⟩
theorem chk__law_rows : chkSs nm0 (oks.below R_16) ar ⟨["_law_mates", "_law_start", "_law_step", "_law_flat", "_law_at", "_law_mate", "_law_k"], defScope (top 22), true⟩ ir_law_rows.body (defBody (top 22)) = true := by decide +kernel
theorem sc__law_rows : FnScope ["_law_mates", "_law_start", "_law_step", "_law_flat", "_law_at", "_law_mate", "_law_k"] ["_law_mates", "_law_start", "_law_step"] (defScope (top 22)) := ⟨rfl, rfl, rfl, by decide +kernel, rfl, by decide +kernel, by decide +kernel⟩
theorem chk__law_sewn : chkSs nm0 (oks.below R_17) ar ⟨["_law_nums", "_law_many", "_law_share", "_law_mates", "_law_free", "_law_at", "_law_one", "_law_pick", "_law_other"], defScope (top 21), true⟩ ir_law_sewn.body (defBody (top 21)) = true := by decide +kernel
theorem sc__law_sewn : FnScope ["_law_nums", "_law_many", "_law_share", "_law_mates", "_law_free", "_law_at", "_law_one", "_law_pick", "_law_other"] ["_law_nums", "_law_many", "_law_share"] (defScope (top 21)) := ⟨rfl, rfl, rfl, by decide +kernel, rfl, by decide +kernel, by decide +kernel⟩
theorem chk__law_least : chkSs nm0 (oks.below R_18) ar ⟨["_law_mates", "_law_word", "_law_back", "_law_rows_here", "_law_p", "_law_k"], defScope (top 26), true⟩ ir_law_least.body (defBody (top 26)) = true := by decide +kernel
theorem sc__law_least : FnScope ["_law_mates", "_law_word", "_law_back", "_law_rows_here", "_law_p", "_law_k"] ["_law_mates", "_law_word"] (defScope (top 26)) := ⟨rfl, rfl, rfl, by decide +kernel, rfl, by decide +kernel, by decide +kernel⟩
theorem chk__law_tent : chkSs nm0 (oks.below R_19) ar ⟨["_law_script", "_law_head", "_law_many", "_law_names", "_law_share", "_law_mates", "_law_step"], defScope (top 23), true⟩ ir_law_tent.body (defBody (top 23)) = true := by decide +kernel
theorem sc__law_tent : FnScope ["_law_script", "_law_head", "_law_many", "_law_names", "_law_share", "_law_mates", "_law_step"] ["_law_script"] (defScope (top 23)) := ⟨rfl, rfl, rfl, by decide +kernel, rfl, by decide +kernel, by decide +kernel⟩
theorem chk__law_thread : chkSs nm0 (oks.below R_20) ar ⟨["_law_script", "_law_at", "_law_mates", "_law_cell_here"], defScope (top 25), true⟩ ir_law_thread.body (defBody (top 25)) = true := by decide +kernel
theorem sc__law_thread : FnScope ["_law_script", "_law_at", "_law_mates", "_law_cell_here"] ["_law_script", "_law_at", "_law_mates"] (defScope (top 25)) := ⟨rfl, rfl, rfl, by decide +kernel, rfl, by decide +kernel, by decide +kernel⟩
theorem chk_law : chkSs nm0 (oks.below R_21) ar ⟨["_law_script", "_law_tent_here", "_law_word", "_law_pick", "_law_due", "_law_by", "_law_back", "_law_handed", "_law_mates", "_law_rows_here", "_law_p"], defScope (top 29), true⟩ ir_law_k16.body (defBody (top 29)) = true := by decide +kernel
theorem sc_law : FnScope ["_law_script", "_law_tent_here", "_law_word", "_law_pick", "_law_due", "_law_by", "_law_back", "_law_handed", "_law_mates", "_law_rows_here", "_law_p"] ["_law_script"] (defScope (top 29)) := ⟨rfl, rfl, rfl, by decide +kernel, rfl, by decide +kernel, by decide +kernel⟩
set_option maxHeartbeats 0 in
theorem all_mk {l : PySem.W.OpenLaw} {w : World} {K : PySem.W.Frag} {h : Heap} {mg : Str → Option Value} {fa f0 f1 f2 f3 f4 f5 f6 f7 f8 f9 f10 f11 f12 f13 f14 f15 f16 f17 f18 f19 f20 f21 c1 c2 c7 C0 : Addr} (X : K.In h) (G : h.Ns mainGlobals mg) (hfa : mg "law" = some (.ref fa)) {ct_0 : Tok}
    {od0 an0 od1 an1 od2 an2 od3 an3 od4 an4 od5 an5 od6 an6 od7 an7 od8 an8 od9 an9 od10 an10 od11 an11 od12 an12 od13 an13 od14 an14 od15 an15 od16 an16 od17 an17 od18 an18 od19 an19 od20 an20 od21 an21 : Option Addr} {sl0 sl1 sl2 sl3 sl4 sl5 sl6 sl7 sl8 sl9 sl10 sl11 sl12 sl13 sl14 sl15 sl16 sl17 sl18 sl19 sl20 sl21 : Array (Option Value)} {oc0 kV0 dc0 pm0 cd0 ct0 oc1 kV1 dc1 pm1 cd1 ct1 oc2 kV2 dc2 pm2 cd2 ct2 oc3 kV3 dc3 pm3 cd3 ct3 oc4 kV4 dc4 pm4 cd4 ct4 oc5 kV5 dc5 pm5 cd5 ct5 oc6 kV6 dc6 pm6 cd6 ct6 oc7 kV7 dc7 pm7 cd7 ct7 oc8 kV8 dc8 pm8 cd8 ct8 oc9 kV9 dc9 pm9 cd9 ct9 oc10 kV10 dc10 pm10 cd10 ct10 oc11 kV11 dc11 pm11 cd11 ct11 oc12 kV12 dc12 pm12 cd12 ct12 oc13 kV13 dc13 pm13 cd13 ct13 oc14 kV14 dc14 pm14 cd14 ct14 oc15 kV15 dc15 pm15 cd15 ct15 oc16 kV16 dc16 pm16 cd16 ct16 oc17 kV17 dc17 pm17 cd17 ct17 oc18 kV18 dc18 pm18 cd18 ct18 oc19 kV19 dc19 pm19 cd19 ct19 oc20 kV20 dc20 pm20 cd20 ct20 oc21 kV21 dc21 pm21 cd21 ct21 : Value}
    (aC0 : PySem.W.nsIn K mainGlobals "Tent" = some (some (.ref C0)))
    (pg0 : PySem.W.plainGet K C0 Str.empty = true)
    (hd0 : PySem.W.hasDictIn K C0 = true)
    (po0 : PySem.W.plainOver K C0 = true)
    (sa0 : PySem.W.findIn K (.ref C0) "__setattr__" = some (some (.builtin "object.__setattr__")))
    (mk0 : PySem.W.makesIn K C0 = true)
    (kc0 : PySem.W.keepIn K (.ref C0) = true)
    (nf0 : PySem.W.findIn K (.ref C0) "cloths" = some none)
    (nf1 : PySem.W.findIn K (.ref C0) "where" = some none)
    (cn0 : PySem.W.nsIn K mainGlobals "GREATEST" = some (some (.int 9999 ct_0)))
    (a0 : PySem.W.nsIn K mainGlobals "standing" = some (some (.ref f0)))
    (l0 : K.lookup f0 = some ⟨oc0, od0, .func (PySem.W.fnOf "standing" "standing" (defArgs (top 9)) (defBody (top 9)) (defScope (top 9)) .none kV0 dc0 pm0 an0 cd0 ct0), sl0⟩)
    (t0 : PySem.W.codeIn K cd0 "standing" = true)
    (k0 : PySem.W.keepIn K (.ref f0) = true)
    (a1 : PySem.W.findIn K (.ref C0) "__init__" = some (some (.ref f1)))
    (i1 : PySem.W.isFn K (.ref f1) = true)
    (l1 : K.lookup f1 = some ⟨oc1, od1, .func (PySem.W.fnOf "__init__" "Tent.__init__" (defArgs (inClass (top 10) 0)) (defBody (inClass (top 10) 0)) (defScope (inClass (top 10) 0)) .none kV1 dc1 pm1 an1 cd1 ct1), sl1⟩)
    (t1 : PySem.W.codeIn K cd1 "Tent.__init__" = true)
    (k1 : PySem.W.keepIn K (.ref f1) = true)
    (a2 : PySem.W.findIn K (.ref C0) "seam_at" = some (some (.ref f2)))
    (i2 : PySem.W.isFn K (.ref f2) = true)
    (l2 : K.lookup f2 = some ⟨oc2, od2, .func (PySem.W.fnOf "seam_at" "Tent.seam_at" (defArgs (inClass (top 10) 4)) (defBody (inClass (top 10) 4)) (defScope (inClass (top 10) 4)) .none kV2 dc2 pm2 an2 cd2 ct2), sl2⟩)
    (t2 : PySem.W.codeIn K cd2 "Tent.seam_at" = true)
    (k2 : PySem.W.keepIn K (.ref f2) = true)
    (a3 : PySem.W.findIn K (.ref C0) "mate" = some (some (.ref f3)))
    (i3 : PySem.W.isFn K (.ref f3) = true)
    (l3 : K.lookup f3 = some ⟨oc3, od3, .func (PySem.W.fnOf "mate" "Tent.mate" (defArgs (inClass (top 10) 6)) (defBody (inClass (top 10) 6)) (defScope (inClass (top 10) 6)) .none kV3 dc3 pm3 an3 cd3 ct3), sl3⟩)
    (t3 : PySem.W.codeIn K cd3 "Tent.mate" = true)
    (k3 : PySem.W.keepIn K (.ref f3) = true)
    (a4 : PySem.W.findIn K (.ref C0) "size" = some (some (.ref f4)))
    (i4 : PySem.W.isFn K (.ref f4) = true)
    (l4 : K.lookup f4 = some ⟨oc4, od4, .func (PySem.W.fnOf "size" "Tent.size" (defArgs (inClass (top 10) 2)) (defBody (inClass (top 10) 2)) (defScope (inClass (top 10) 2)) .none kV4 dc4 pm4 an4 cd4 ct4), sl4⟩)
    (t4 : PySem.W.codeIn K cd4 "Tent.size" = true)
    (k4 : PySem.W.keepIn K (.ref f4) = true)
    (a5 : PySem.W.nsIn K mainGlobals "plain" = some (some (.ref f5)))
    (l5 : K.lookup f5 = some ⟨oc5, od5, .func (PySem.W.fnOf "plain" "plain" (defArgs (top 12)) (defBody (top 12)) (defScope (top 12)) .none kV5 dc5 pm5 an5 cd5 ct5), sl5⟩)
    (t5 : PySem.W.codeIn K cd5 "plain" = true)
    (k5 : PySem.W.keepIn K (.ref f5) = true)
    (a6 : PySem.W.nsIn K mainGlobals "look_thread" = some (some (.ref f6)))
    (l6 : K.lookup f6 = some ⟨oc6, od6, .func (PySem.W.fnOf "look_thread" "look_thread" (defArgs (top 13)) (defBody (top 13)) (defScope (top 13)) .none kV6 dc6 pm6 an6 cd6 ct6), sl6⟩)
    (t6 : PySem.W.codeIn K cd6 "look_thread" = true)
    (k6 : PySem.W.keepIn K (.ref f6) = true)
    (a7 : PySem.W.nsIn K mainGlobals "backward" = some (some (.ref f7)))
    (l7 : K.lookup f7 = some ⟨oc7, od7, .func (PySem.W.fnOf "backward" "backward" (defArgs (top 14)) (defBody (top 14)) (defScope (top 14)) .none kV7 dc7 pm7 an7 cd7 ct7), sl7⟩)
    (t7 : PySem.W.codeIn K cd7 "backward" = true)
    (k7 : PySem.W.keepIn K (.ref f7) = true)
    (a8 : PySem.W.nsIn K mainGlobals "turned" = some (some (.ref f8)))
    (l8 : K.lookup f8 = some ⟨oc8, od8, .func (PySem.W.fnOf "turned" "turned" (defArgs (top 15)) (defBody (top 15)) (defScope (top 15)) .none kV8 dc8 pm8 an8 cd8 ct8), sl8⟩)
    (t8 : PySem.W.codeIn K cd8 "turned" = true)
    (k8 : PySem.W.keepIn K (.ref f8) = true)
    (a9 : PySem.W.nsIn K mainGlobals "least_turn" = some (some (.ref f9)))
    (l9 : K.lookup f9 = some ⟨oc9, od9, .func (PySem.W.fnOf "least_turn" "least_turn" (defArgs (top 16)) (defBody (top 16)) (defScope (top 16)) .none kV9 dc9 pm9 an9 cd9 ct9), sl9⟩)
    (t9 : PySem.W.codeIn K cd9 "least_turn" = true)
    (k9 : PySem.W.keepIn K (.ref f9) = true)
    (a10 : PySem.W.nsIn K mainGlobals "least" = some (some (.ref f10)))
    (l10 : K.lookup f10 = some ⟨oc10, od10, .func (PySem.W.fnOf "least" "least" (defArgs (top 17)) (defBody (top 17)) (defScope (top 17)) .none kV10 dc10 pm10 an10 cd10 ct10), sl10⟩)
    (t10 : PySem.W.codeIn K cd10 "least" = true)
    (k10 : PySem.W.keepIn K (.ref f10) = true)
    (a11 : PySem.W.nsIn K mainGlobals "_law_cell" = some (some (.ref f11)))
    (l11 : K.lookup f11 = some ⟨oc11, od11, .func (PySem.W.fnOf "_law_cell" "_law_cell" (defArgs (top 19)) (defBody (top 19)) (defScope (top 19)) .none kV11 dc11 pm11 an11 cd11 ct11), sl11⟩)
    (t11 : PySem.W.codeIn K cd11 "_law_cell" = true)
    (k11 : PySem.W.keepIn K (.ref f11) = true)
    (a12 : PySem.W.nsIn K mainGlobals "_law_whole" = some (some (.ref f12)))
    (l12 : K.lookup f12 = some ⟨oc12, od12, .func (PySem.W.fnOf "_law_whole" "_law_whole" (defArgs (top 27)) (defBody (top 27)) (defScope (top 27)) .none kV12 dc12 pm12 an12 cd12 ct12), sl12⟩)
    (t12 : PySem.W.codeIn K cd12 "_law_whole" = true)
    (k12 : PySem.W.keepIn K (.ref f12) = true)
    (a13 : PySem.W.nsIn K mainGlobals "_law_list" = some (some (.ref f13)))
    (l13 : K.lookup f13 = some ⟨oc13, od13, .func (PySem.W.fnOf "_law_list" "_law_list" (defArgs (top 28)) (defBody (top 28)) (defScope (top 28)) .none kV13 dc13 pm13 an13 cd13 ct13), sl13⟩)
    (t13 : PySem.W.codeIn K cd13 "_law_list" = true)
    (k13 : PySem.W.keepIn K (.ref f13) = true)
    (a14 : PySem.W.nsIn K mainGlobals "_law_numbers" = some (some (.ref f14)))
    (l14 : K.lookup f14 = some ⟨oc14, od14, .func (PySem.W.fnOf "_law_numbers" "_law_numbers" (defArgs (top 20)) (defBody (top 20)) (defScope (top 20)) .none kV14 dc14 pm14 an14 cd14 ct14), sl14⟩)
    (t14 : PySem.W.codeIn K cd14 "_law_numbers" = true)
    (k14 : PySem.W.keepIn K (.ref f14) = true)
    (a15 : PySem.W.nsIn K mainGlobals "_law_walk" = some (some (.ref f15)))
    (l15 : K.lookup f15 = some ⟨oc15, od15, .func (PySem.W.fnOf "_law_walk" "_law_walk" (defArgs (top 24)) (defBody (top 24)) (defScope (top 24)) .none kV15 dc15 pm15 an15 cd15 ct15), sl15⟩)
    (t15 : PySem.W.codeIn K cd15 "_law_walk" = true)
    (k15 : PySem.W.keepIn K (.ref f15) = true)
    (a16 : PySem.W.nsIn K mainGlobals "_law_rows" = some (some (.ref f16)))
    (l16 : K.lookup f16 = some ⟨oc16, od16, .func (PySem.W.fnOf "_law_rows" "_law_rows" (defArgs (top 22)) (defBody (top 22)) (defScope (top 22)) .none kV16 dc16 pm16 an16 cd16 ct16), sl16⟩)
    (t16 : PySem.W.codeIn K cd16 "_law_rows" = true)
    (k16 : PySem.W.keepIn K (.ref f16) = true)
    (a17 : PySem.W.nsIn K mainGlobals "_law_sewn" = some (some (.ref f17)))
    (l17 : K.lookup f17 = some ⟨oc17, od17, .func (PySem.W.fnOf "_law_sewn" "_law_sewn" (defArgs (top 21)) (defBody (top 21)) (defScope (top 21)) .none kV17 dc17 pm17 an17 cd17 ct17), sl17⟩)
    (t17 : PySem.W.codeIn K cd17 "_law_sewn" = true)
    (k17 : PySem.W.keepIn K (.ref f17) = true)
    (a18 : PySem.W.nsIn K mainGlobals "_law_least" = some (some (.ref f18)))
    (l18 : K.lookup f18 = some ⟨oc18, od18, .func (PySem.W.fnOf "_law_least" "_law_least" (defArgs (top 26)) (defBody (top 26)) (defScope (top 26)) .none kV18 dc18 pm18 an18 cd18 ct18), sl18⟩)
    (t18 : PySem.W.codeIn K cd18 "_law_least" = true)
    (k18 : PySem.W.keepIn K (.ref f18) = true)
    (a19 : PySem.W.nsIn K mainGlobals "_law_tent" = some (some (.ref f19)))
    (l19 : K.lookup f19 = some ⟨oc19, od19, .func (PySem.W.fnOf "_law_tent" "_law_tent" (defArgs (top 23)) (defBody (top 23)) (defScope (top 23)) .none kV19 dc19 pm19 an19 cd19 ct19), sl19⟩)
    (t19 : PySem.W.codeIn K cd19 "_law_tent" = true)
    (k19 : PySem.W.keepIn K (.ref f19) = true)
    (a20 : PySem.W.nsIn K mainGlobals "_law_thread" = some (some (.ref f20)))
    (l20 : K.lookup f20 = some ⟨oc20, od20, .func (PySem.W.fnOf "_law_thread" "_law_thread" (defArgs (top 25)) (defBody (top 25)) (defScope (top 25)) .none kV20 dc20 pm20 an20 cd20 ct20), sl20⟩)
    (t20 : PySem.W.codeIn K cd20 "_law_thread" = true)
    (k20 : PySem.W.keepIn K (.ref f20) = true)
    (a21 : PySem.W.nsIn K mainGlobals "law" = some (some (.ref f21)))
    (l21 : K.lookup f21 = some ⟨oc21, od21, .func (PySem.W.fnOf "law" "law" (defArgs (top 29)) (defBody (top 29)) (defScope (top 29)) .none kV21 dc21 pm21 an21 cd21 ct21), sl21⟩)
    (t21 : PySem.W.codeIn K cd21 "law" = true)
    (k21 : PySem.W.keepIn K (.ref f21) = true)
    (ga1 : PySem.W.nsIn K mainGlobals "NoTent" = some (some (.ref c1)))
    (ga2 : PySem.W.nsIn K mainGlobals "NoPlace" = some (some (.ref c2)))
    (ga7 : PySem.W.nsIn K mainGlobals "NoThread" = some (some (.ref c7)))
    (gx1 : PySem.W.excIn K c1 [.type "ValueError", .type "Exception", .type "BaseException", .type "object"] "ValueError.__new__" = true)
    (gk1 : PySem.W.keepIn K (.ref c1) = true)
    (gx2 : PySem.W.excIn K c2 [.type "ValueError", .type "Exception", .type "BaseException", .type "object"] "ValueError.__new__" = true)
    (gk2 : PySem.W.keepIn K (.ref c2) = true)
    (gx7 : PySem.W.excIn K c7 [.type "ValueError", .type "Exception", .type "BaseException", .type "object"] "ValueError.__new__" = true)
    (gk7 : PySem.W.keepIn K (.ref c7) = true)
    (gb1 : PySem.W.subIn K (.ref c1) (.type "BaseException") = some true)
    (gt1 : PySem.W.typeIn K (.ref c1) = some (.type "type"))
    (gb2 : PySem.W.subIn K (.ref c2) (.type "BaseException") = some true)
    (gt2 : PySem.W.typeIn K (.ref c2) = some (.type "type"))
    (gb7 : PySem.W.subIn K (.ref c7) (.type "BaseException") = some true)
    (gt7 : PySem.W.typeIn K (.ref c7) = some (.type "type"))
    (z0 : PySem.W.nsIn K mainGlobals "bool" = some none)
    (z1 : PySem.W.nsIn K mainGlobals "int" = some none)
    (z2 : PySem.W.nsIn K mainGlobals "isinstance" = some none)
    (z3 : PySem.W.nsIn K mainGlobals "len" = some none)
    (z4 : PySem.W.nsIn K mainGlobals "list" = some none)
    (z5 : PySem.W.nsIn K mainGlobals "min" = some none)
    (z6 : PySem.W.nsIn K mainGlobals "range" = some none)
    (z7 : PySem.W.nsIn K mainGlobals "reversed" = some none)
    (z8 : PySem.W.nsIn K mainGlobals "tuple" = some none)
    : ∃ fd : FuncData, (∀ (s : Shared) (v : Value), BindsTo s fd ⟨[v], []⟩ [("_law_script", v)]) ∧ ∀ base : Heap, K.In base → base.Ns mainGlobals mg → FnOk l.prog w K mg base (L2.CX l.prog w) 43 fa fd ["_law_script"] (TL.spLaw K (tabS b0 R_22 223)) := by
  have e := hfa.symm.trans (PySem.W.mg_of X G a21)
  cases e
  have F0 := fun_mk (st := (top 9)) l0 t0 k0
  have F1 := fun_mk (st := (inClass (top 10) 0)) l1 t1 k1
  have F2 := fun_mk (st := (inClass (top 10) 4)) l2 t2 k2
  have F3 := fun_mk (st := (inClass (top 10) 6)) l3 t3 k3
  have F4 := fun_mk (st := (inClass (top 10) 2)) l4 t4 k4
  have F5 := fun_mk (st := (top 12)) l5 t5 k5
  have F6 := fun_mk (st := (top 13)) l6 t6 k6
  have F7 := fun_mk (st := (top 14)) l7 t7 k7
  have F8 := fun_mk (st := (top 15)) l8 t8 k8
  have F9 := fun_mk (st := (top 16)) l9 t9 k9
  have F10 := fun_mk (st := (top 17)) l10 t10 k10
  have F11 := fun_mk (st := (top 19)) l11 t11 k11
  have F12 := fun_mk (st := (top 27)) l12 t12 k12
  have F13 := fun_mk (st := (top 28)) l13 t13 k13
  have F14 := fun_mk (st := (top 20)) l14 t14 k14
  have F15 := fun_mk (st := (top 24)) l15 t15 k15
  have F16 := fun_mk (st := (top 22)) l16 t16 k16
  have F17 := fun_mk (st := (top 21)) l17 t17 k17
  have F18 := fun_mk (st := (top 26)) l18 t18 k18
  have F19 := fun_mk (st := (top 23)) l19 t19 k19
  have F20 := fun_mk (st := (top 25)) l20 t20 k20
  have F21 := fun_mk (st := (top 29)) l21 t21 k21
  have cl0 : Cls K C0 := ⟨pg0, hd0, po0, sa0⟩
  have S : Stat K mg (e0 [0, c1, c2, 0, 0, 0, 0, c7, 0, 0, 0, 0, 0, 0, 0, 0, 0, 0, 0, 0, 0, 0] [C0, 0]) oks :=
    {
      fl := fun c f h => by
        have hm : (c, f) ∈ ([(0, 0), (0, 1)] : List (Nat × Nat)) := of_decide_eq_true h
        simp only [List.map_cons, List.map_nil, List.mem_cons, List.not_mem_nil, or_false, Prod.mk.injEq] at hm
        rcases hm with ⟨rfl, rfl⟩ | ⟨rfl, rfl⟩
        · exact ⟨cl0, nf0⟩
        · exact ⟨cl0, nf1⟩
      inj := fd_inj
      bl := fun x h => by
        have hm : x ∈ (["bool", "int", "isinstance", "len", "list", "min", "range", "reversed", "tuple"] : List String).map Str.ofString := of_decide_eq_true h
        simp only [List.map_cons, List.map_nil, List.mem_cons, List.not_mem_nil, or_false] at hm
        rcases hm with rfl | rfl | rfl | rfl | rfl | rfl | rfl | rfl | rfl
        · exact PySem.W.mg_none_of X G z0
        · exact PySem.W.mg_none_of X G z1
        · exact PySem.W.mg_none_of X G z2
        · exact PySem.W.mg_none_of X G z3
        · exact PySem.W.mg_none_of X G z4
        · exact PySem.W.mg_none_of X G z5
        · exact PySem.W.mg_none_of X G z6
        · exact PySem.W.mg_none_of X G z7
        · exact PySem.W.mg_none_of X G z8
      cn := fun n h => by
        have hm : n ∈ ([0] : List Nat) := of_decide_eq_true h
        simp only [List.map_cons, List.map_nil, List.mem_cons, List.not_mem_nil, or_false] at hm
        rcases hm with rfl
        · exact ⟨(show nm0.cn 0 ≠ "__debug__" by decide +kernel), .int 9999, _, PySem.W.mg_of X G cn0, ⟨ct_0, rfl⟩, fun _ _ => by show Fz _ _ _ (.int _) _; unfold Fz; rfl⟩
      ex := fun c h => by
        have hm : c ∈ ([1, 2, 7] : List Nat) := of_decide_eq_true h
        simp only [List.map_cons, List.map_nil, List.mem_cons, List.not_mem_nil, or_false] at hm
        rcases hm with rfl | rfl | rfl
        · exact ⟨(show nm0.ex 1 ≠ "__debug__" by decide +kernel), PySem.W.mg_of X G ga1, gk1, gx1, gb1, gt1⟩
        · exact ⟨(show nm0.ex 2 ≠ "__debug__" by decide +kernel), PySem.W.mg_of X G ga2, gk2, gx2, gb2, gt2⟩
        · exact ⟨(show nm0.ex 7 ≠ "__debug__" by decide +kernel), PySem.W.mg_of X G ga7, gk7, gx7, gb7, gt7⟩
      hx := fun c h => by cases (of_decide_eq_true h : c ∈ ([] : List Nat))
    }
  have A0 : AllOk K mg (e0 [0, c1, c2, 0, 0, 0, 0, c7, 0, 0, 0, 0, 0, 0, 0, 0, 0, 0, 0, 0, 0, 0] [C0, 0]) oks R_0 := trivial
  have A1 : AllOk K mg (e0 [0, c1, c2, 0, 0, 0, 0, c7, 0, 0, 0, 0, 0, 0, 0, 0, 0, 0, 0, 0, 0, 0] [C0, 0]) oks R_1 := by
    refine ⟨⟨⟨_, _, F0, F0.binds (ps := ["rows"]) fun _ _ _ _ _ _ us hl => match us, hl with | [_], _ => rfl, ?_, ?_, ?_⟩, sc_standing, (show ar 0 = 1 by decide +kernel), rfl, rfl, (show muts0 0 = [] by decide +kernel), by decide, by decide, chk_standing⟩, by decide +kernel, A0⟩
    · exact fun _ => ⟨(show nm0.fn 0 ≠ "__debug__" by decide +kernel), PySem.W.mg_of X G a0⟩
    · exact fun h => Bool.noConfusion (h.symm.trans (show oks.me 0 = false by decide +kernel))
    · exact fun c h => by
        have hm : (c, 0) ∈ ([(0, 1)] : List (Nat × Nat)) := of_decide_eq_true h
        exact absurd (congrArg Prod.snd (List.mem_singleton.mp hm)) (show ¬ 0 = _ by decide)
  have A2 : AllOk K mg (e0 [0, c1, c2, 0, 0, 0, 0, c7, 0, 0, 0, 0, 0, 0, 0, 0, 0, 0, 0, 0, 0, 0] [C0, 0]) oks R_2 := by
    refine ⟨⟨⟨_, _, F1, F1.binds (ps := ["self", "rows"]) fun _ _ _ _ _ _ us hl => match us, hl with | [_, _], _ => rfl, ?_, ?_, ?_⟩, sc_Tent__init_, (show ar 1 = 2 by decide +kernel), rfl, rfl, (show muts0 1 = [0] by decide +kernel), by decide, by decide, chk_Tent__init_⟩, by decide +kernel, A1⟩
    · exact fun h => Bool.noConfusion (h.symm.trans (show oks.fn 1 = false by decide +kernel))
    · exact fun h => Bool.noConfusion (h.symm.trans (show oks.me 1 = false by decide +kernel))
    · exact fun c h => by
        have hm : (c, 1) ∈ ([(0, 1)] : List (Nat × Nat)) := of_decide_eq_true h
        simp only [List.mem_cons, List.not_mem_nil, or_false, Prod.mk.injEq] at hm
        have hc : c = 0 := by omega
        subst hc
        exact ⟨(show nm0.cl 0 ≠ "__debug__" by decide +kernel), rfl, PySem.W.mg_of X G aC0, ⟨mk0, a1, i1, kc0⟩⟩
  have A3 : AllOk K mg (e0 [0, c1, c2, 0, 0, 0, 0, c7, 0, 0, 0, 0, 0, 0, 0, 0, 0, 0, 0, 0, 0, 0] [C0, 0]) oks R_3 := by
    refine ⟨⟨⟨_, _, F2, F2.binds (ps := ["self", "place"]) fun _ _ _ _ _ _ us hl => match us, hl with | [_, _], _ => rfl, ?_, ?_, ?_⟩, sc_Tent_seam_at, (show ar 21 = 2 by decide +kernel), rfl, rfl, (show muts0 21 = [] by decide +kernel), by decide, by decide, chk_Tent_seam_at⟩, by decide +kernel, A2⟩
    · exact fun h => Bool.noConfusion (h.symm.trans (show oks.fn 21 = false by decide +kernel))
    · exact fun _ => ⟨rfl, cl0, (show ∀ n, nthName fdNames n ≠ Str.ofString "seam_at" from nth_ne (by decide +kernel) (by decide +kernel)), ⟨a2, i2, k2⟩⟩
    · exact fun c h => by
        have hm : (c, 21) ∈ ([(0, 1)] : List (Nat × Nat)) := of_decide_eq_true h
        exact absurd (congrArg Prod.snd (List.mem_singleton.mp hm)) (show ¬ 21 = _ by decide)
  have A4 : AllOk K mg (e0 [0, c1, c2, 0, 0, 0, 0, c7, 0, 0, 0, 0, 0, 0, 0, 0, 0, 0, 0, 0, 0, 0] [C0, 0]) oks R_4 := by
    refine ⟨⟨⟨_, _, F3, F3.binds (ps := ["self", "place"]) fun _ _ _ _ _ _ us hl => match us, hl with | [_, _], _ => rfl, ?_, ?_, ?_⟩, sc_Tent_mate, (show ar 22 = 2 by decide +kernel), rfl, rfl, (show muts0 22 = [] by decide +kernel), by decide, by decide, chk_Tent_mate⟩, by decide +kernel, A3⟩
    · exact fun h => Bool.noConfusion (h.symm.trans (show oks.fn 22 = false by decide +kernel))
    · exact fun _ => ⟨rfl, cl0, (show ∀ n, nthName fdNames n ≠ Str.ofString "mate" from nth_ne (by decide +kernel) (by decide +kernel)), ⟨a3, i3, k3⟩⟩
    · exact fun c h => by
        have hm : (c, 22) ∈ ([(0, 1)] : List (Nat × Nat)) := of_decide_eq_true h
        exact absurd (congrArg Prod.snd (List.mem_singleton.mp hm)) (show ¬ 22 = _ by decide)
  have A5 : AllOk K mg (e0 [0, c1, c2, 0, 0, 0, 0, c7, 0, 0, 0, 0, 0, 0, 0, 0, 0, 0, 0, 0, 0, 0] [C0, 0]) oks R_5 := by
    refine ⟨⟨⟨_, _, F4, F4.binds (ps := ["self"]) fun _ _ _ _ _ _ us hl => match us, hl with | [_], _ => rfl, ?_, ?_, ?_⟩, sc_Tent_size, (show ar 23 = 1 by decide +kernel), rfl, rfl, (show muts0 23 = [] by decide +kernel), by decide, by decide, chk_Tent_size⟩, by decide +kernel, A4⟩
    · exact fun h => Bool.noConfusion (h.symm.trans (show oks.fn 23 = false by decide +kernel))
    · exact fun _ => ⟨rfl, cl0, (show ∀ n, nthName fdNames n ≠ Str.ofString "size" from nth_ne (by decide +kernel) (by decide +kernel)), ⟨a4, i4, k4⟩⟩
    · exact fun c h => by
        have hm : (c, 23) ∈ ([(0, 1)] : List (Nat × Nat)) := of_decide_eq_true h
        exact absurd (congrArg Prod.snd (List.mem_singleton.mp hm)) (show ¬ 23 = _ by decide)
  have A6 : AllOk K mg (e0 [0, c1, c2, 0, 0, 0, 0, c7, 0, 0, 0, 0, 0, 0, 0, 0, 0, 0, 0, 0, 0, 0] [C0, 0]) oks R_6 := by
    refine ⟨⟨⟨_, _, F5, F5.binds (ps := ["tent", "word"]) fun _ _ _ _ _ _ us hl => match us, hl with | [_, _], _ => rfl, ?_, ?_, ?_⟩, sc_plain, (show ar 24 = 2 by decide +kernel), rfl, rfl, (show muts0 24 = [] by decide +kernel), by decide, by decide, chk_plain⟩, by decide +kernel, A5⟩
    · exact fun _ => ⟨(show nm0.fn 24 ≠ "__debug__" by decide +kernel), PySem.W.mg_of X G a5⟩
    · exact fun h => Bool.noConfusion (h.symm.trans (show oks.me 24 = false by decide +kernel))
    · exact fun c h => by
        have hm : (c, 24) ∈ ([(0, 1)] : List (Nat × Nat)) := of_decide_eq_true h
        exact absurd (congrArg Prod.snd (List.mem_singleton.mp hm)) (show ¬ 24 = _ by decide)
  have A7 : AllOk K mg (e0 [0, c1, c2, 0, 0, 0, 0, c7, 0, 0, 0, 0, 0, 0, 0, 0, 0, 0, 0, 0, 0, 0] [C0, 0]) oks R_7 := by
    refine ⟨⟨⟨_, _, F6, F6.binds (ps := ["tent", "word"]) fun _ _ _ _ _ _ us hl => match us, hl with | [_, _], _ => rfl, ?_, ?_, ?_⟩, sc_look_thread, (show ar 28 = 2 by decide +kernel), rfl, rfl, (show muts0 28 = [] by decide +kernel), by decide, by decide, chk_look_thread⟩, by decide +kernel, A6⟩
    · exact fun _ => ⟨(show nm0.fn 28 ≠ "__debug__" by decide +kernel), PySem.W.mg_of X G a6⟩
    · exact fun h => Bool.noConfusion (h.symm.trans (show oks.me 28 = false by decide +kernel))
    · exact fun c h => by
        have hm : (c, 28) ∈ ([(0, 1)] : List (Nat × Nat)) := of_decide_eq_true h
        exact absurd (congrArg Prod.snd (List.mem_singleton.mp hm)) (show ¬ 28 = _ by decide)
  have A8 : AllOk K mg (e0 [0, c1, c2, 0, 0, 0, 0, c7, 0, 0, 0, 0, 0, 0, 0, 0, 0, 0, 0, 0, 0, 0] [C0, 0]) oks R_8 := by
    refine ⟨⟨⟨_, _, F7, F7.binds (ps := ["tent", "word"]) fun _ _ _ _ _ _ us hl => match us, hl with | [_, _], _ => rfl, ?_, ?_, ?_⟩, sc_backward, (show ar 36 = 2 by decide +kernel), rfl, rfl, (show muts0 36 = [] by decide +kernel), by decide, by decide, chk_backward⟩, by decide +kernel, A7⟩
    · exact fun _ => ⟨(show nm0.fn 36 ≠ "__debug__" by decide +kernel), PySem.W.mg_of X G a7⟩
    · exact fun h => Bool.noConfusion (h.symm.trans (show oks.me 36 = false by decide +kernel))
    · exact fun c h => by
        have hm : (c, 36) ∈ ([(0, 1)] : List (Nat × Nat)) := of_decide_eq_true h
        exact absurd (congrArg Prod.snd (List.mem_singleton.mp hm)) (show ¬ 36 = _ by decide)
  have A9 : AllOk K mg (e0 [0, c1, c2, 0, 0, 0, 0, c7, 0, 0, 0, 0, 0, 0, 0, 0, 0, 0, 0, 0, 0, 0] [C0, 0]) oks R_9 := by
    refine ⟨⟨⟨_, _, F8, F8.binds (ps := ["word", "by"]) fun _ _ _ _ _ _ us hl => match us, hl with | [_, _], _ => rfl, ?_, ?_, ?_⟩, sc_turned, (show ar 37 = 2 by decide +kernel), rfl, rfl, (show muts0 37 = [] by decide +kernel), by decide, by decide, chk_turned⟩, by decide +kernel, A8⟩
    · exact fun _ => ⟨(show nm0.fn 37 ≠ "__debug__" by decide +kernel), PySem.W.mg_of X G a8⟩
    · exact fun h => Bool.noConfusion (h.symm.trans (show oks.me 37 = false by decide +kernel))
    · exact fun c h => by
        have hm : (c, 37) ∈ ([(0, 1)] : List (Nat × Nat)) := of_decide_eq_true h
        exact absurd (congrArg Prod.snd (List.mem_singleton.mp hm)) (show ¬ 37 = _ by decide)
  have A10 : AllOk K mg (e0 [0, c1, c2, 0, 0, 0, 0, c7, 0, 0, 0, 0, 0, 0, 0, 0, 0, 0, 0, 0, 0, 0] [C0, 0]) oks R_10 := by
    refine ⟨⟨⟨_, _, F9, F9.binds (ps := ["word"]) fun _ _ _ _ _ _ us hl => match us, hl with | [_], _ => rfl, ?_, ?_, ?_⟩, sc_least_turn, (show ar 38 = 1 by decide +kernel), rfl, rfl, (show muts0 38 = [] by decide +kernel), by decide, by decide, chk_least_turn⟩, by decide +kernel, A9⟩
    · exact fun _ => ⟨(show nm0.fn 38 ≠ "__debug__" by decide +kernel), PySem.W.mg_of X G a9⟩
    · exact fun h => Bool.noConfusion (h.symm.trans (show oks.me 38 = false by decide +kernel))
    · exact fun c h => by
        have hm : (c, 38) ∈ ([(0, 1)] : List (Nat × Nat)) := of_decide_eq_true h
        exact absurd (congrArg Prod.snd (List.mem_singleton.mp hm)) (show ¬ 38 = _ by decide)
  have A11 : AllOk K mg (e0 [0, c1, c2, 0, 0, 0, 0, c7, 0, 0, 0, 0, 0, 0, 0, 0, 0, 0, 0, 0, 0, 0] [C0, 0]) oks R_11 := by
    refine ⟨⟨⟨_, _, F10, F10.binds (ps := ["tent", "word"]) fun _ _ _ _ _ _ us hl => match us, hl with | [_, _], _ => rfl, ?_, ?_, ?_⟩, sc_least, (show ar 39 = 2 by decide +kernel), rfl, rfl, (show muts0 39 = [] by decide +kernel), by decide, by decide, chk_least⟩, by decide +kernel, A10⟩
    · exact fun _ => ⟨(show nm0.fn 39 ≠ "__debug__" by decide +kernel), PySem.W.mg_of X G a10⟩
    · exact fun h => Bool.noConfusion (h.symm.trans (show oks.me 39 = false by decide +kernel))
    · exact fun c h => by
        have hm : (c, 39) ∈ ([(0, 1)] : List (Nat × Nat)) := of_decide_eq_true h
        exact absurd (congrArg Prod.snd (List.mem_singleton.mp hm)) (show ¬ 39 = _ by decide)
  have A12 : AllOk K mg (e0 [0, c1, c2, 0, 0, 0, 0, c7, 0, 0, 0, 0, 0, 0, 0, 0, 0, 0, 0, 0, 0, 0] [C0, 0]) oks R_12 := by
    refine ⟨⟨⟨_, _, F11, F11.binds (ps := ["_law_script", "_law_at"]) fun _ _ _ _ _ _ us hl => match us, hl with | [_, _], _ => rfl, ?_, ?_, ?_⟩, sc__law_cell, (show ar 105 = 2 by decide +kernel), rfl, rfl, (show muts0 105 = [] by decide +kernel), by decide, by decide, chk__law_cell⟩, by decide +kernel, A11⟩
    · exact fun _ => ⟨(show nm0.fn 105 ≠ "__debug__" by decide +kernel), PySem.W.mg_of X G a11⟩
    · exact fun h => Bool.noConfusion (h.symm.trans (show oks.me 105 = false by decide +kernel))
    · exact fun c h => by
        have hm : (c, 105) ∈ ([(0, 1)] : List (Nat × Nat)) := of_decide_eq_true h
        exact absurd (congrArg Prod.snd (List.mem_singleton.mp hm)) (show ¬ 105 = _ by decide)
  have A13 : AllOk K mg (e0 [0, c1, c2, 0, 0, 0, 0, c7, 0, 0, 0, 0, 0, 0, 0, 0, 0, 0, 0, 0, 0, 0] [C0, 0]) oks R_13 := by
    refine ⟨⟨⟨_, _, F12, F12.binds (ps := ["_law_found"]) fun _ _ _ _ _ _ us hl => match us, hl with | [_], _ => rfl, ?_, ?_, ?_⟩, sc__law_whole, (show ar 108 = 1 by decide +kernel), rfl, rfl, (show muts0 108 = [] by decide +kernel), by decide, by decide, chk__law_whole⟩, by decide +kernel, A12⟩
    · exact fun _ => ⟨(show nm0.fn 108 ≠ "__debug__" by decide +kernel), PySem.W.mg_of X G a12⟩
    · exact fun h => Bool.noConfusion (h.symm.trans (show oks.me 108 = false by decide +kernel))
    · exact fun c h => by
        have hm : (c, 108) ∈ ([(0, 1)] : List (Nat × Nat)) := of_decide_eq_true h
        exact absurd (congrArg Prod.snd (List.mem_singleton.mp hm)) (show ¬ 108 = _ by decide)
  have A14 : AllOk K mg (e0 [0, c1, c2, 0, 0, 0, 0, c7, 0, 0, 0, 0, 0, 0, 0, 0, 0, 0, 0, 0, 0, 0] [C0, 0]) oks R_14 := by
    refine ⟨⟨⟨_, _, F13, F13.binds (ps := ["_law_found", "_law_due"]) fun _ _ _ _ _ _ us hl => match us, hl with | [_, _], _ => rfl, ?_, ?_, ?_⟩, sc__law_list, (show ar 109 = 2 by decide +kernel), rfl, rfl, (show muts0 109 = [] by decide +kernel), by decide, by decide, chk__law_list⟩, by decide +kernel, A13⟩
    · exact fun _ => ⟨(show nm0.fn 109 ≠ "__debug__" by decide +kernel), PySem.W.mg_of X G a13⟩
    · exact fun h => Bool.noConfusion (h.symm.trans (show oks.me 109 = false by decide +kernel))
    · exact fun c h => by
        have hm : (c, 109) ∈ ([(0, 1)] : List (Nat × Nat)) := of_decide_eq_true h
        exact absurd (congrArg Prod.snd (List.mem_singleton.mp hm)) (show ¬ 109 = _ by decide)
  have A15 : AllOk K mg (e0 [0, c1, c2, 0, 0, 0, 0, c7, 0, 0, 0, 0, 0, 0, 0, 0, 0, 0, 0, 0, 0, 0] [C0, 0]) oks R_15 := by
    refine ⟨⟨⟨_, _, F14, F14.binds (ps := ["_law_cell_here", "_law_many"]) fun _ _ _ _ _ _ us hl => match us, hl with | [_, _], _ => rfl, ?_, ?_, ?_⟩, sc__law_numbers, (show ar 113 = 2 by decide +kernel), rfl, rfl, (show muts0 113 = [] by decide +kernel), by decide, by decide, chk__law_numbers⟩, by decide +kernel, A14⟩
    · exact fun _ => ⟨(show nm0.fn 113 ≠ "__debug__" by decide +kernel), PySem.W.mg_of X G a14⟩
    · exact fun h => Bool.noConfusion (h.symm.trans (show oks.me 113 = false by decide +kernel))
    · exact fun c h => by
        have hm : (c, 113) ∈ ([(0, 1)] : List (Nat × Nat)) := of_decide_eq_true h
        exact absurd (congrArg Prod.snd (List.mem_singleton.mp hm)) (show ¬ 113 = _ by decide)
  have A16 : AllOk K mg (e0 [0, c1, c2, 0, 0, 0, 0, c7, 0, 0, 0, 0, 0, 0, 0, 0, 0, 0, 0, 0, 0, 0] [C0, 0]) oks R_16 := by
    refine ⟨⟨⟨_, _, F15, F15.binds (ps := ["_law_mates", "_law_nums"]) fun _ _ _ _ _ _ us hl => match us, hl with | [_, _], _ => rfl, ?_, ?_, ?_⟩, sc__law_walk, (show ar 115 = 2 by decide +kernel), rfl, rfl, (show muts0 115 = [] by decide +kernel), by decide, by decide, chk__law_walk⟩, by decide +kernel, A15⟩
    · exact fun _ => ⟨(show nm0.fn 115 ≠ "__debug__" by decide +kernel), PySem.W.mg_of X G a15⟩
    · exact fun h => Bool.noConfusion (h.symm.trans (show oks.me 115 = false by decide +kernel))
    · exact fun c h => by
        have hm : (c, 115) ∈ ([(0, 1)] : List (Nat × Nat)) := of_decide_eq_true h
        exact absurd (congrArg Prod.snd (List.mem_singleton.mp hm)) (show ¬ 115 = _ by decide)
  have A17 : AllOk K mg (e0 [0, c1, c2, 0, 0, 0, 0, c7, 0, 0, 0, 0, 0, 0, 0, 0, 0, 0, 0, 0, 0, 0] [C0, 0]) oks R_17 := by
    refine ⟨⟨⟨_, _, F16, F16.binds (ps := ["_law_mates", "_law_start", "_law_step"]) fun _ _ _ _ _ _ us hl => match us, hl with | [_, _, _], _ => rfl, ?_, ?_, ?_⟩, sc__law_rows, (show ar 151 = 3 by decide +kernel), rfl, rfl, (show muts0 151 = [] by decide +kernel), by decide, by decide, chk__law_rows⟩, by decide +kernel, A16⟩
    · exact fun _ => ⟨(show nm0.fn 151 ≠ "__debug__" by decide +kernel), PySem.W.mg_of X G a16⟩
    · exact fun h => Bool.noConfusion (h.symm.trans (show oks.me 151 = false by decide +kernel))
    · exact fun c h => by
        have hm : (c, 151) ∈ ([(0, 1)] : List (Nat × Nat)) := of_decide_eq_true h
        exact absurd (congrArg Prod.snd (List.mem_singleton.mp hm)) (show ¬ 151 = _ by decide)
  have A18 : AllOk K mg (e0 [0, c1, c2, 0, 0, 0, 0, c7, 0, 0, 0, 0, 0, 0, 0, 0, 0, 0, 0, 0, 0, 0] [C0, 0]) oks R_18 := by
    refine ⟨⟨⟨_, _, F17, F17.binds (ps := ["_law_nums", "_law_many", "_law_share"]) fun _ _ _ _ _ _ us hl => match us, hl with | [_, _, _], _ => rfl, ?_, ?_, ?_⟩, sc__law_sewn, (show ar 152 = 3 by decide +kernel), rfl, rfl, (show muts0 152 = [] by decide +kernel), by decide, by decide, chk__law_sewn⟩, by decide +kernel, A17⟩
    · exact fun _ => ⟨(show nm0.fn 152 ≠ "__debug__" by decide +kernel), PySem.W.mg_of X G a17⟩
    · exact fun h => Bool.noConfusion (h.symm.trans (show oks.me 152 = false by decide +kernel))
    · exact fun c h => by
        have hm : (c, 152) ∈ ([(0, 1)] : List (Nat × Nat)) := of_decide_eq_true h
        exact absurd (congrArg Prod.snd (List.mem_singleton.mp hm)) (show ¬ 152 = _ by decide)
  have A19 : AllOk K mg (e0 [0, c1, c2, 0, 0, 0, 0, c7, 0, 0, 0, 0, 0, 0, 0, 0, 0, 0, 0, 0, 0, 0] [C0, 0]) oks R_19 := by
    refine ⟨⟨⟨_, _, F18, F18.binds (ps := ["_law_mates", "_law_word"]) fun _ _ _ _ _ _ us hl => match us, hl with | [_, _], _ => rfl, ?_, ?_, ?_⟩, sc__law_least, (show ar 168 = 2 by decide +kernel), rfl, rfl, (show muts0 168 = [] by decide +kernel), by decide, by decide, chk__law_least⟩, by decide +kernel, A18⟩
    · exact fun _ => ⟨(show nm0.fn 168 ≠ "__debug__" by decide +kernel), PySem.W.mg_of X G a18⟩
    · exact fun h => Bool.noConfusion (h.symm.trans (show oks.me 168 = false by decide +kernel))
    · exact fun c h => by
        have hm : (c, 168) ∈ ([(0, 1)] : List (Nat × Nat)) := of_decide_eq_true h
        exact absurd (congrArg Prod.snd (List.mem_singleton.mp hm)) (show ¬ 168 = _ by decide)
  have A20 : AllOk K mg (e0 [0, c1, c2, 0, 0, 0, 0, c7, 0, 0, 0, 0, 0, 0, 0, 0, 0, 0, 0, 0, 0, 0] [C0, 0]) oks R_20 := by
    refine ⟨⟨⟨_, _, F19, F19.binds (ps := ["_law_script"]) fun _ _ _ _ _ _ us hl => match us, hl with | [_], _ => rfl, ?_, ?_, ?_⟩, sc__law_tent, (show ar 206 = 1 by decide +kernel), rfl, rfl, (show muts0 206 = [] by decide +kernel), by decide, by decide, chk__law_tent⟩, by decide +kernel, A19⟩
    · exact fun _ => ⟨(show nm0.fn 206 ≠ "__debug__" by decide +kernel), PySem.W.mg_of X G a19⟩
    · exact fun h => Bool.noConfusion (h.symm.trans (show oks.me 206 = false by decide +kernel))
    · exact fun c h => by
        have hm : (c, 206) ∈ ([(0, 1)] : List (Nat × Nat)) := of_decide_eq_true h
        exact absurd (congrArg Prod.snd (List.mem_singleton.mp hm)) (show ¬ 206 = _ by decide)
  have A21 : AllOk K mg (e0 [0, c1, c2, 0, 0, 0, 0, c7, 0, 0, 0, 0, 0, 0, 0, 0, 0, 0, 0, 0, 0, 0] [C0, 0]) oks R_21 := by
    refine ⟨⟨⟨_, _, F20, F20.binds (ps := ["_law_script", "_law_at", "_law_mates"]) fun _ _ _ _ _ _ us hl => match us, hl with | [_, _, _], _ => rfl, ?_, ?_, ?_⟩, sc__law_thread, (show ar 209 = 3 by decide +kernel), rfl, rfl, (show muts0 209 = [] by decide +kernel), by decide, by decide, chk__law_thread⟩, by decide +kernel, A20⟩
    · exact fun _ => ⟨(show nm0.fn 209 ≠ "__debug__" by decide +kernel), PySem.W.mg_of X G a20⟩
    · exact fun h => Bool.noConfusion (h.symm.trans (show oks.me 209 = false by decide +kernel))
    · exact fun c h => by
        have hm : (c, 209) ∈ ([(0, 1)] : List (Nat × Nat)) := of_decide_eq_true h
        exact absurd (congrArg Prod.snd (List.mem_singleton.mp hm)) (show ¬ 209 = _ by decide)
  have A22 : AllOk K mg (e0 [0, c1, c2, 0, 0, 0, 0, c7, 0, 0, 0, 0, 0, 0, 0, 0, 0, 0, 0, 0, 0, 0] [C0, 0]) oks R_22 := by
    refine ⟨⟨⟨_, _, F21, F21.binds (ps := ["_law_script"]) fun _ _ _ _ _ _ us hl => match us, hl with | [_], _ => rfl, ?_, ?_, ?_⟩, sc_law, (show ar 223 = 1 by decide +kernel), rfl, rfl, (show muts0 223 = [] by decide +kernel), by decide, by decide, chk_law⟩, by decide +kernel, A21⟩
    · exact fun h => Bool.noConfusion (h.symm.trans (show oks.fn 223 = false by decide +kernel))
    · exact fun h => Bool.noConfusion (h.symm.trans (show oks.me 223 = false by decide +kernel))
    · exact fun c h => by
        have hm : (c, 223) ∈ ([(0, 1)] : List (Nat × Nat)) := of_decide_eq_true h
        exact absurd (congrArg Prod.snd (List.mem_singleton.mp hm)) (show ¬ 223 = _ by decide)
  exact ⟨PySem.W.fnOf "law" "law" (defArgs (top 29)) (defBody (top 29)) (defScope (top 29)) .none kV21 dc21 pm21 an21 cd21 ct21, fun s v => .of_eq rfl, fun base _ _ => law_fn S A22 rfl rfl F21⟩
theorem tabS_lift {P : (List TL.D → FR) → Prop} {b : Tbl} {r : List Df} {f : Nat} : ∀ ds : List Df, (ds.any fun d => decide (d.id = f)) = false → P (tabS b r f) → P (tabS b (ds ++ r) f)
  | [], _, p => p
  | d :: ds, h, p => by
    simp only [List.any_cons, Bool.or_eq_false_iff, decide_eq_false_iff_not] at h
    show P (tabS b (d :: (ds ++ r)) f)
    rw [tabS_ne (fun e => h.1 e.symm)]
    exact tabS_lift ds h.2 p
theorem sp_standing_Sp_standing : Sp_standing (tabS b0 R_1 0) := by
  have z : tabS b0 (D_standing :: R_0) 0 = run (tabT b0 R_0) ir_standing := tabS_at
  show Sp_standing (tabS b0 (D_standing :: R_0) 0)
  rw [z]
  exact ok_standing (tabT b0 R_0) 
theorem sp_Tent__init__Sp_Tent_init : Sp_Tent_init (tabS b0 R_2 1) := by
  have h0 : Sp_standing (tabS b0 R_1 0) := by
    rw [show R_1 = [] ++ R_1 from rfl]
    exact tabS_lift (P := Sp_standing) _ (by decide +kernel) sp_standing_Sp_standing
  have u0 : muts0 0 = [] := by decide +kernel
  have hc : con0 0 = .int 9999 := rfl
  have z : tabS b0 (D_Tent__init_ :: R_1) 1 = run (tabT b0 R_1) ir_Tent_init := tabS_at
  show Sp_Tent_init (tabS b0 (D_Tent__init_ :: R_1) 1)
  rw [z]
  exact ok_Tent_init (tabT b0 R_1) h0 u0 hc
theorem sp_Tent_seam_at_Sp_Tent_seam_at : Sp_Tent_seam_at (tabS b0 R_3 21) := by
  have z : tabS b0 (D_Tent_seam_at :: R_2) 21 = run (tabT b0 R_2) ir_Tent_seam_at := tabS_at
  show Sp_Tent_seam_at (tabS b0 (D_Tent_seam_at :: R_2) 21)
  rw [z]
  exact ok_Tent_seam_at (tabT b0 R_2) 
theorem sp_Tent_mate_Sp_Tent_mate : Sp_Tent_mate (tabS b0 R_4 22) := by
  have h21 : Sp_Tent_seam_at (tabS b0 R_3 21) := by
    rw [show R_3 = [] ++ R_3 from rfl]
    exact tabS_lift (P := Sp_Tent_seam_at) _ (by decide +kernel) sp_Tent_seam_at_Sp_Tent_seam_at
  have m21 : mc0 21 = 0 := by decide +kernel
  have u21 : muts0 21 = [] := by decide +kernel
  have z : tabS b0 (D_Tent_mate :: R_3) 22 = run (tabT b0 R_3) ir_Tent_mate := tabS_at
  show Sp_Tent_mate (tabS b0 (D_Tent_mate :: R_3) 22)
  rw [z]
  exact ok_Tent_mate (tabT b0 R_3) h21 m21 u21
theorem sp_Tent_size_Sp_Tent_size : Sp_Tent_size (tabS b0 R_5 23) := by
  have z : tabS b0 (D_Tent_size :: R_4) 23 = run (tabT b0 R_4) ir_Tent_size := tabS_at
  show Sp_Tent_size (tabS b0 (D_Tent_size :: R_4) 23)
  rw [z]
  exact ok_Tent_size (tabT b0 R_4) 
theorem sp_plain_Sp_plain : Sp_plain (tabS b0 R_6 24) := by
  have h22 : Sp_Tent_mate (tabS b0 R_5 22) := by
    rw [show R_5 = [D_Tent_size] ++ R_4 from rfl]
    exact tabS_lift (P := Sp_Tent_mate) _ (by decide +kernel) sp_Tent_mate_Sp_Tent_mate
  have h23 : Sp_Tent_size (tabS b0 R_5 23) := by
    rw [show R_5 = [] ++ R_5 from rfl]
    exact tabS_lift (P := Sp_Tent_size) _ (by decide +kernel) sp_Tent_size_Sp_Tent_size
  have u22 : muts0 22 = [] := by decide +kernel
  have u23 : muts0 23 = [] := by decide +kernel
  have m22 : mc0 22 = 0 := by decide +kernel
  have m23 : mc0 23 = 0 := by decide +kernel
  have z : tabS b0 (D_plain :: R_5) 24 = run (tabT b0 R_5) ir_plain := tabS_at
  show Sp_plain (tabS b0 (D_plain :: R_5) 24)
  rw [z]
  exact ok_plain (tabT b0 R_5) h22 h23 u22 u23 m22 m23
theorem sp_look_thread_Sp_look_thread : Sp_look_thread (tabS b0 R_7 28) := by
  have h24 : Sp_plain (tabS b0 R_6 24) := by
    rw [show R_6 = [] ++ R_6 from rfl]
    exact tabS_lift (P := Sp_plain) _ (by decide +kernel) sp_plain_Sp_plain
  have u24 : muts0 24 = [] := by decide +kernel
  have z : tabS b0 (D_look_thread :: R_6) 28 = run (tabT b0 R_6) ir_look_thread := tabS_at
  show Sp_look_thread (tabS b0 (D_look_thread :: R_6) 28)
  rw [z]
  exact ok_look_thread (tabT b0 R_6) h24 u24
theorem sp_backward_Sp_backward : Sp_backward (tabS b0 R_8 36) := by
  have h28 : Sp_look_thread (tabS b0 R_7 28) := by
    rw [show R_7 = [] ++ R_7 from rfl]
    exact tabS_lift (P := Sp_look_thread) _ (by decide +kernel) sp_look_thread_Sp_look_thread
  have h22 : Sp_Tent_mate (tabS b0 R_7 22) := by
    rw [show R_7 = [D_look_thread, D_plain, D_Tent_size] ++ R_4 from rfl]
    exact tabS_lift (P := Sp_Tent_mate) _ (by decide +kernel) sp_Tent_mate_Sp_Tent_mate
  have u28 : muts0 28 = [] := by decide +kernel
  have u22 : muts0 22 = [] := by decide +kernel
  have m22 : mc0 22 = 0 := by decide +kernel
  have z : tabS b0 (D_backward :: R_7) 36 = run (tabT b0 R_7) ir_backward := tabS_at
  show Sp_backward (tabS b0 (D_backward :: R_7) 36)
  rw [z]
  exact ok_backward (tabT b0 R_7) h28 h22 u28 u22 m22
theorem sp_turned_Sp_turned : Sp_turned (tabS b0 R_9 37) := by
  have z : tabS b0 (D_turned :: R_8) 37 = run (tabT b0 R_8) ir_turned := tabS_at
  show Sp_turned (tabS b0 (D_turned :: R_8) 37)
  rw [z]
  exact ok_turned (tabT b0 R_8) 
theorem sp_least_turn_Sp_least_turn : Sp_least_turn (tabS b0 R_10 38) := by
  have h37 : Sp_turned (tabS b0 R_9 37) := by
    rw [show R_9 = [] ++ R_9 from rfl]
    exact tabS_lift (P := Sp_turned) _ (by decide +kernel) sp_turned_Sp_turned
  have u37 : muts0 37 = [] := by decide +kernel
  have z : tabS b0 (D_least_turn :: R_9) 38 = run (tabT b0 R_9) ir_least_turn := tabS_at
  show Sp_least_turn (tabS b0 (D_least_turn :: R_9) 38)
  rw [z]
  exact ok_least_turn (tabT b0 R_9) h37 u37
theorem sp_least_Sp_least : Sp_least (tabS b0 R_11 39) := by
  have h36 : Sp_backward (tabS b0 R_10 36) := by
    rw [show R_10 = [D_least_turn, D_turned] ++ R_8 from rfl]
    exact tabS_lift (P := Sp_backward) _ (by decide +kernel) sp_backward_Sp_backward
  have h38 : Sp_least_turn (tabS b0 R_10 38) := by
    rw [show R_10 = [] ++ R_10 from rfl]
    exact tabS_lift (P := Sp_least_turn) _ (by decide +kernel) sp_least_turn_Sp_least_turn
  have u36 : muts0 36 = [] := by decide +kernel
  have u38 : muts0 38 = [] := by decide +kernel
  have z : tabS b0 (D_least :: R_10) 39 = run (tabT b0 R_10) ir_least := tabS_at
  show Sp_least (tabS b0 (D_least :: R_10) 39)
  rw [z]
  exact ok_least (tabT b0 R_10) h36 h38 u36 u38
theorem sp__law_cell_Sp_cell : Sp_cell (tabS b0 R_12 105) := by
  have z : tabS b0 (D__law_cell :: R_11) 105 = run (tabT b0 R_11) ir_law_cell := tabS_at
  show Sp_cell (tabS b0 (D__law_cell :: R_11) 105)
  rw [z]
  exact ok_cell (tabT b0 R_11) 
theorem sp__law_whole_Sp_whole : Sp_whole (tabS b0 R_13 108) := by
  have z : tabS b0 (D__law_whole :: R_12) 108 = run (tabT b0 R_12) ir_law_whole := tabS_at
  show Sp_whole (tabS b0 (D__law_whole :: R_12) 108)
  rw [z]
  exact ok_whole (tabT b0 R_12) 
theorem sp__law_list_Sp_list : Sp_list (tabS b0 R_14 109) := by
  have h108 : Sp_whole (tabS b0 R_13 108) := by
    rw [show R_13 = [] ++ R_13 from rfl]
    exact tabS_lift (P := Sp_whole) _ (by decide +kernel) sp__law_whole_Sp_whole
  have u108 : muts0 108 = [] := by decide +kernel
  have z : tabS b0 (D__law_list :: R_13) 109 = run (tabT b0 R_13) ir_law_list := tabS_at
  show Sp_list (tabS b0 (D__law_list :: R_13) 109)
  rw [z]
  exact ok_list (tabT b0 R_13) h108 u108
theorem sp__law_numbers_Sp_numbers : Sp_numbers (tabS b0 R_15 113) := by
  have z : tabS b0 (D__law_numbers :: R_14) 113 = run (tabT b0 R_14) ir_law_numbers := tabS_at
  show Sp_numbers (tabS b0 (D__law_numbers :: R_14) 113)
  rw [z]
  exact ok_numbers (tabT b0 R_14) 
theorem sp__law_walk_Sp_walk : Sp_walk (tabS b0 R_16 115) := by
  have z : tabS b0 (D__law_walk :: R_15) 115 = run (tabT b0 R_15) ir_law_walk := tabS_at
  show Sp_walk (tabS b0 (D__law_walk :: R_15) 115)
  rw [z]
  exact ok_walk (tabT b0 R_15) 
theorem sp__law_rows_Sp_rows : Sp_rows (tabS b0 R_17 151) := by
  have z : tabS b0 (D__law_rows :: R_16) 151 = run (tabT b0 R_16) ir_law_rows := tabS_at
  show Sp_rows (tabS b0 (D__law_rows :: R_16) 151)
  rw [z]
  exact ok_rows (tabT b0 R_16) 
theorem sp__law_sewn_Sp_sewn : Sp_sewn (tabS b0 R_18 152) := by
  have z : tabS b0 (D__law_sewn :: R_17) 152 = run (tabT b0 R_17) ir_law_sewn := tabS_at
  show Sp_sewn (tabS b0 (D__law_sewn :: R_17) 152)
  rw [z]
  exact ok_sewn (tabT b0 R_17) 
theorem sp__law_least_Sp_law_least : Sp_law_least (tabS b0 R_19 168) := by
  have z : tabS b0 (D__law_least :: R_18) 168 = run (tabT b0 R_18) ir_law_least := tabS_at
  show Sp_law_least (tabS b0 (D__law_least :: R_18) 168)
  rw [z]
  exact ok_law_least (tabT b0 R_18) 
theorem sp__law_tent_Sp_tent : Sp_tent (tabS b0 R_20 206) := by
  have h105 : Sp_cell (tabS b0 R_19 105) := by
    rw [show R_19 = [D__law_least, D__law_sewn, D__law_rows, D__law_walk, D__law_numbers, D__law_list, D__law_whole] ++ R_12 from rfl]
    exact tabS_lift (P := Sp_cell) _ (by decide +kernel) sp__law_cell_Sp_cell
  have h113 : Sp_numbers (tabS b0 R_19 113) := by
    rw [show R_19 = [D__law_least, D__law_sewn, D__law_rows, D__law_walk] ++ R_15 from rfl]
    exact tabS_lift (P := Sp_numbers) _ (by decide +kernel) sp__law_numbers_Sp_numbers
  have h152 : Sp_sewn (tabS b0 R_19 152) := by
    rw [show R_19 = [D__law_least] ++ R_18 from rfl]
    exact tabS_lift (P := Sp_sewn) _ (by decide +kernel) sp__law_sewn_Sp_sewn
  have h151 : Sp_rows (tabS b0 R_19 151) := by
    rw [show R_19 = [D__law_least, D__law_sewn] ++ R_17 from rfl]
    exact tabS_lift (P := Sp_rows) _ (by decide +kernel) sp__law_rows_Sp_rows
  have u105 : muts0 105 = [] := by decide +kernel
  have u113 : muts0 113 = [] := by decide +kernel
  have u152 : muts0 152 = [] := by decide +kernel
  have u151 : muts0 151 = [] := by decide +kernel
  have z : tabS b0 (D__law_tent :: R_19) 206 = run (tabT b0 R_19) ir_law_tent := tabS_at
  show Sp_tent (tabS b0 (D__law_tent :: R_19) 206)
  rw [z]
  exact ok_tent (tabT b0 R_19) h105 h113 h152 h151 u105 u113 u152 u151
theorem sp__law_thread_Sp_thread : Sp_thread (tabS b0 R_21 209) := by
  have h105 : Sp_cell (tabS b0 R_20 105) := by
    rw [show R_20 = [D__law_tent, D__law_least, D__law_sewn, D__law_rows, D__law_walk, D__law_numbers, D__law_list, D__law_whole] ++ R_12 from rfl]
    exact tabS_lift (P := Sp_cell) _ (by decide +kernel) sp__law_cell_Sp_cell
  have h113 : Sp_numbers (tabS b0 R_20 113) := by
    rw [show R_20 = [D__law_tent, D__law_least, D__law_sewn, D__law_rows, D__law_walk] ++ R_15 from rfl]
    exact tabS_lift (P := Sp_numbers) _ (by decide +kernel) sp__law_numbers_Sp_numbers
  have h115 : Sp_walk (tabS b0 R_20 115) := by
    rw [show R_20 = [D__law_tent, D__law_least, D__law_sewn, D__law_rows] ++ R_16 from rfl]
    exact tabS_lift (P := Sp_walk) _ (by decide +kernel) sp__law_walk_Sp_walk
  have u105 : muts0 105 = [] := by decide +kernel
  have u113 : muts0 113 = [] := by decide +kernel
  have u115 : muts0 115 = [] := by decide +kernel
  have z : tabS b0 (D__law_thread :: R_20) 209 = run (tabT b0 R_20) ir_law_thread := tabS_at
  show Sp_thread (tabS b0 (D__law_thread :: R_20) 209)
  rw [z]
  exact ok_thread (tabT b0 R_20) h105 h113 h115 u105 u113 u115
theorem sp_law_Sp_law : Sp_law (tabS b0 R_22 223) := by
  have h206 : Sp_tent (tabS b0 R_21 206) := by
    rw [show R_21 = [D__law_thread] ++ R_20 from rfl]
    exact tabS_lift (P := Sp_tent) _ (by decide +kernel) sp__law_tent_Sp_tent
  have h1 : Sp_Tent_init (tabS b0 R_21 1) := by
    rw [show R_21 = [D__law_thread, D__law_tent, D__law_least, D__law_sewn, D__law_rows, D__law_walk, D__law_numbers, D__law_list, D__law_whole, D__law_cell, D_least, D_least_turn, D_turned, D_backward, D_look_thread, D_plain, D_Tent_size, D_Tent_mate, D_Tent_seam_at] ++ R_2 from rfl]
    exact tabS_lift (P := Sp_Tent_init) _ (by decide +kernel) sp_Tent__init__Sp_Tent_init
  have h23 : Sp_Tent_size (tabS b0 R_21 23) := by
    rw [show R_21 = [D__law_thread, D__law_tent, D__law_least, D__law_sewn, D__law_rows, D__law_walk, D__law_numbers, D__law_list, D__law_whole, D__law_cell, D_least, D_least_turn, D_turned, D_backward, D_look_thread, D_plain] ++ R_5 from rfl]
    exact tabS_lift (P := Sp_Tent_size) _ (by decide +kernel) sp_Tent_size_Sp_Tent_size
  have h39 : Sp_least (tabS b0 R_21 39) := by
    rw [show R_21 = [D__law_thread, D__law_tent, D__law_least, D__law_sewn, D__law_rows, D__law_walk, D__law_numbers, D__law_list, D__law_whole, D__law_cell] ++ R_11 from rfl]
    exact tabS_lift (P := Sp_least) _ (by decide +kernel) sp_least_Sp_least
  have h105 : Sp_cell (tabS b0 R_21 105) := by
    rw [show R_21 = [D__law_thread, D__law_tent, D__law_least, D__law_sewn, D__law_rows, D__law_walk, D__law_numbers, D__law_list, D__law_whole] ++ R_12 from rfl]
    exact tabS_lift (P := Sp_cell) _ (by decide +kernel) sp__law_cell_Sp_cell
  have h109 : Sp_list (tabS b0 R_21 109) := by
    rw [show R_21 = [D__law_thread, D__law_tent, D__law_least, D__law_sewn, D__law_rows, D__law_walk, D__law_numbers] ++ R_14 from rfl]
    exact tabS_lift (P := Sp_list) _ (by decide +kernel) sp__law_list_Sp_list
  have h168 : Sp_law_least (tabS b0 R_21 168) := by
    rw [show R_21 = [D__law_thread, D__law_tent] ++ R_19 from rfl]
    exact tabS_lift (P := Sp_law_least) _ (by decide +kernel) sp__law_least_Sp_law_least
  have h209 : Sp_thread (tabS b0 R_21 209) := by
    rw [show R_21 = [] ++ R_21 from rfl]
    exact tabS_lift (P := Sp_thread) _ (by decide +kernel) sp__law_thread_Sp_thread
  have u206 : muts0 206 = [] := by decide +kernel
  have u23 : muts0 23 = [] := by decide +kernel
  have u39 : muts0 39 = [] := by decide +kernel
  have u105 : muts0 105 = [] := by decide +kernel
  have u109 : muts0 109 = [] := by decide +kernel
  have u168 : muts0 168 = [] := by decide +kernel
  have u209 : muts0 209 = [] := by decide +kernel
  have m23 : mc0 23 = 0 := by decide +kernel
  have z : tabS b0 (D_law :: R_21) 223 = run (tabT b0 R_21) ir_law_k16 := tabS_at
  show Sp_law (tabS b0 (D_law :: R_21) 223)
  rw [z]
  exact ok_law_k16 (tabT b0 R_21) h206 h1 h23 h39 h105 h109 h168 h209 u206 u23 u39 u105 u109 u168 u209 m23
theorem plain (ns : List Int) (h : ns.length ≤ 63) : tabS b0 R_22 223 [TL.script ns] = .ok [] (.bl true) := sp_law_Sp_law ns h
end K16
open PySem PySem.W PyProof.Rows
set_option maxHeartbeats 0 in
theorem PySem.Challenge.cw_tentloops_k16_least_forms_holds : PySem.Challenge.rw_tentloops_k16_least_forms.Holds := by
  w_on; o_law; k_head; (case hw => w_witness2)
  k_fill
  refine L2.walk_of (l := PySem.Challenge.rw_tentloops_k16_least_forms) (n := 63) (k := 43) (x := "_law_script") (CX := fun w => L2.CX PySem.Challenge.rw_tentloops_k16_least_forms.prog w) (sp := fun w => TL.spLaw _ (TL.tabS K16.b0 K16.R_22 223)) rfl (by decide) rfl ⟨rfl, by decide, by decide⟩ (fun w h Y => PySem.W.kIn_of Y) ?F (fun _ _ a ns hl _ hS => TL.spLaw_ok hS (K16.plain ns hl)) (fun _ _ _ _ _ h => by obtain ⟨_, _, _, _, _, _, _, _, _, _, _, _, h⟩ := h; exact h)
  case F =>
    intro w mg fa h KX G hmg
    refine' K16.all_mk KX G hmg ?aC0 ?pg0 ?hd0 ?po0 ?sa0 ?mk0 ?kc0 ?nf0 ?nf1 ?cn0 ?a0 ?l0 ?t0 ?k0 ?a1 ?i1 ?l1 ?t1 ?k1 ?a2 ?i2 ?l2 ?t2 ?k2 ?a3 ?i3 ?l3 ?t3 ?k3 ?a4 ?i4 ?l4 ?t4 ?k4 ?a5 ?l5 ?t5 ?k5 ?a6 ?l6 ?t6 ?k6 ?a7 ?l7 ?t7 ?k7 ?a8 ?l8 ?t8 ?k8 ?a9 ?l9 ?t9 ?k9 ?a10 ?l10 ?t10 ?k10 ?a11 ?l11 ?t11 ?k11 ?a12 ?l12 ?t12 ?k12 ?a13 ?l13 ?t13 ?k13 ?a14 ?l14 ?t14 ?k14 ?a15 ?l15 ?t15 ?k15 ?a16 ?l16 ?t16 ?k16 ?a17 ?l17 ?t17 ?k17 ?a18 ?l18 ?t18 ?k18 ?a19 ?l19 ?t19 ?k19 ?a20 ?l20 ?t20 ?k20 ?a21 ?l21 ?t21 ?k21 ?ga1 ?ga2 ?ga7 ?gx1 ?gk1 ?gx2 ?gk2 ?gx7 ?gk7 ?gb1 ?gt1 ?gb2 ?gt2 ?gb7 ?gt7 ?z0 ?z1 ?z2 ?z3 ?z4 ?z5 ?z6 ?z7 ?z8
    (case aC0 => k_is)
    (case pg0 => k_is)
    (case hd0 => k_is)
    (case po0 => k_is)
    (case sa0 => k_is)
    (case mk0 => k_is)
    (case kc0 => k_is)
    (case nf0 => k_is)
    (case nf1 => k_is)
    (case cn0 => k_is)
    (case a0 => k_is)
    (case l0 => k_is)
    (case t0 => k_is)
    (case k0 => k_is)
    (case a1 => k_is)
    (case i1 => k_is)
    (case l1 => k_is)
    (case t1 => k_is)
    (case k1 => k_is)
    (case a2 => k_is)
    (case i2 => k_is)
    (case l2 => k_is)
    (case t2 => k_is)
    (case k2 => k_is)
    (case a3 => k_is)
    (case i3 => k_is)
    (case l3 => k_is)
    (case t3 => k_is)
    (case k3 => k_is)
    (case a4 => k_is)
    (case i4 => k_is)
    (case l4 => k_is)
    (case t4 => k_is)
    (case k4 => k_is)
    (case a5 => k_is)
    (case l5 => k_is)
    (case t5 => k_is)
    (case k5 => k_is)
    (case a6 => k_is)
    (case l6 => k_is)
    (case t6 => k_is)
    (case k6 => k_is)
    (case a7 => k_is)
    (case l7 => k_is)
    (case t7 => k_is)
    (case k7 => k_is)
    (case a8 => k_is)
    (case l8 => k_is)
    (case t8 => k_is)
    (case k8 => k_is)
    (case a9 => k_is)
    (case l9 => k_is)
    (case t9 => k_is)
    (case k9 => k_is)
    (case a10 => k_is)
    (case l10 => k_is)
    (case t10 => k_is)
    (case k10 => k_is)
    (case a11 => k_is)
    (case l11 => k_is)
    (case t11 => k_is)
    (case k11 => k_is)
    (case a12 => k_is)
    (case l12 => k_is)
    (case t12 => k_is)
    (case k12 => k_is)
    (case a13 => k_is)
    (case l13 => k_is)
    (case t13 => k_is)
    (case k13 => k_is)
    (case a14 => k_is)
    (case l14 => k_is)
    (case t14 => k_is)
    (case k14 => k_is)
    (case a15 => k_is)
    (case l15 => k_is)
    (case t15 => k_is)
    (case k15 => k_is)
    (case a16 => k_is)
    (case l16 => k_is)
    (case t16 => k_is)
    (case k16 => k_is)
    (case a17 => k_is)
    (case l17 => k_is)
    (case t17 => k_is)
    (case k17 => k_is)
    (case a18 => k_is)
    (case l18 => k_is)
    (case t18 => k_is)
    (case k18 => k_is)
    (case a19 => k_is)
    (case l19 => k_is)
    (case t19 => k_is)
    (case k19 => k_is)
    (case a20 => k_is)
    (case l20 => k_is)
    (case t20 => k_is)
    (case k20 => k_is)
    (case a21 => k_is)
    (case l21 => k_is)
    (case t21 => k_is)
    (case k21 => k_is)
    (case ga1 => k_is)
    (case ga2 => k_is)
    (case ga7 => k_is)
    (case gx1 => k_exc)
    (case gk1 => k_is)
    (case gx2 => k_exc)
    (case gk2 => k_is)
    (case gx7 => k_exc)
    (case gk7 => k_is)
    (case gb1 => k_is)
    (case gt1 => k_is)
    (case gb2 => k_is)
    (case gt2 => k_is)
    (case gb7 => k_is)
    (case gt7 => k_is)
    (case z0 => k_is)
    (case z1 => k_is)
    (case z2 => k_is)
    (case z3 => k_is)
    (case z4 => k_is)
    (case z5 => k_is)
    (case z6 => k_is)
    (case z7 => k_is)
    (case z8 => k_is)
