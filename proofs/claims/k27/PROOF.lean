import PyProof.Rows.All
import HandS.ForMost
import HandS.TupAny
import KE.DataEq
import KE.DataCmp
import KE.DataFind
import KE.DataMinMax
import KE.SortData
import KE.DataIsa
import HandS.SetFor
import HandS.Exc
import HandS.ExcOwn
import HandS.TryOnly
import HandS.WordsExc
import HandS.Strs
import HandS.Lambda
import HandS.HeadHook4
import HandS.IsInst
import HandS.Text
import HandS.More
import HandS.Deep
import HandS.Conv
import HandS.NestedK
import KE.SortKeyHeap
import KE.KSortKey
import HandS.Style
import KE.KDictPairs
import HandS.HeadHook3
import HandS.HeadEnd
import HandS.EndTab
import HandS.HeadWalk
import HandS.Head0
import HandS.Head1
import HandS.Head2
import PySem.Challenge.RW_clausebook_k27_whole_questions_asked_on
set_option Elab.async false
set_option linter.all false
section
set_option maxRecDepth 100000
/-! A small language of data, its meaning. -/
namespace Mi
open PySem PySem.Spec PyProof.Rows L2

abbrev D := PySem.PyData
inductive Tag | fr | fz | bo
  deriving DecidableEq, Repr
def Tag.mx : Tag → Tag → Tag
  | .fr, t => t
  | .fz, .bo => .bo
  | .fz, _ => .fz
  | .bo, _ => .bo
structure G where
  ns : List Int
  p : Int
  m : Int
  r : Int
/-- a leaf holds no list -/
def leaf : D → Bool
  | .none => true
  | .bool _ => true
  | .int _ => true
  | .str _ => true
  | _ => false
mutual
def lf : D → Bool
  | .none => true
  | .bool _ => true
  | .int _ => true
  | .str _ => true
  | .tuple ds => lfs ds
  | _ => false
def lfs : List D → Bool
  | [] => true
  | d :: ds => lf d && lfs ds
end
def nrm (d : D) (t : Tag) : Tag := if lf d then .fr else t
@[simp] theorem nrm_none (t) : nrm .none t = .fr := rfl
@[simp] theorem nrm_bool (b t) : nrm (.bool b) t = .fr := rfl
@[simp] theorem nrm_int (b t) : nrm (.int b) t = .fr := rfl
@[simp] theorem nrm_str (b t) : nrm (.str b) t = .fr := rfl
inductive BOp | add | sub | mul | fdiv | mod | pow
  deriving DecidableEq
inductive COp | eq | ne | lt | le | gt | ge | isin | notin
  deriving DecidableEq
inductive Bi | len | list | tuple | sorted | min | min2 | int | str
  deriving DecidableEq
inductive Mt | count | index
  deriving DecidableEq
/-- a target: one name, or names of a tuple -/
inductive Tg | one (i : Nat) | many (l : List Nat)
mutual
inductive E where
  | cst (d : D)
  | var (i : Nat)
  | glo (x : Str) (d : D)
  | bin (o : BOp) (a b : E)
  | neg (a : E)
  | not (a : E)
  | and (a b : E)
  | or (a b : E)
  | cmp (o : COp) (a b : E)
  | chn (o p : COp) (a b c : E)
  | isN (a : E)
  | noN (a : E)
  | ite (c a b : E)
  | tup (es : Es)
  | lst (es : Es)
  | sub (a b : E)
  | slc (a : E) (lo hi : Es)
  | comp (elt : E) (tg : Tg) (it : It) (cs : Es)
  | isi (T : String) (a : E)
  | bi (f : Bi) (es : Es)
  | call (f : Str) (row : Option Nat) (es : Es)
  | meth (f : Mt) (o a : E)
  | inG (x : Str) (neg : Bool) (a : E)
  | getG (x : Str) (a : E)
  | rowGet (i k : Nat)
  | rowLen (i : Nat)
  | rowCell (i : Nat) (a : E)
  | isq (fl : Bool) (a : E)
  | join (z : Str) (a : E)
  | lrg (a : E)
  | lcp (a : E)
  | scp (a : E) (lo hi : Es)
  | sset (a : E)
  | dget (i : Nat) (a : E)
inductive Es where
  | nil
  | cons (e : E) (es : Es)
inductive It where
  | val (e : E)
  | rng1 (e : E)
  | rng2 (a b : E)
  | rng3 (a b c : E)
end

/-! ### operations on data -/
abbrev LINE : Nat := 16777216
def addD : D → D → Option D
  | .int i, .int j => some (.int (i + j))
  | .str x, .str y => if x.length + y.length ≤ LINE then some (.str (x ++ y)) else none
  | .list xs, .list ys => if xs.length + ys.length ≤ LINE then some (.list (xs ++ ys)) else none
  | .tuple xs, .tuple ys => if xs.length + ys.length ≤ LINE then some (.tuple (xs ++ ys)) else none
  | _, _ => none
def subD : D → D → Option D
  | .int i, .int j => some (.int (i - j))
  | _, _ => none
def rep {α : Type} (n : Nat) (xs : List α) : List α := (List.replicate n xs).flatten
def mulD : D → D → Option D
  | .int i, .int j => if (-(2 ^ 64) < i ∧ i < 2 ^ 64) ∨ (-(2 ^ 64) < j ∧ j < 2 ^ 64) then some (.int (i * j)) else none
  | .list xs, .int k => if 0 ≤ k ∧ k ≤ 1000 ∧ xs.length ≤ 1000 then some (.list (rep k.toNat xs)) else none
  | _, _ => none
def fdivD : D → D → Option D
  | .int i, .int j => if j ≠ 0 ∧ j.natAbs < 1073741824 then some (.int (i.fdiv j)) else none
  | _, _ => none
def modD : D → D → Option D
  | .int i, .int j => if j ≠ 0 then some (.int (i.fmod j)) else none
  | _, _ => none
def powD : D → D → Option D
  | .int i, .int j => if 0 ≤ j ∧ j ≤ 1000000 ∧ i.natAbs < 2 ^ 64 then some (.int (i ^ j.toNat)) else none
  | _, _ => none
def binD : BOp → D → D → Option D
  | .add => addD
  | .sub => subD
  | .mul => mulD
  | .fdiv => fdivD
  | .mod => modD
  | .pow => powD
def eqD (x y : D) : Option Bool := if min x.depth y.depth ≤ 60 then some (PyData.eqv x y) else none
def inD : D → D → Option Bool
  | x, .list ys => if min (PyData.depthAll ys) x.depth ≤ 60 then some (ys.any fun z => PyData.eqv z x) else none
  | x, .tuple ys => if min (PyData.depthAll ys) x.depth ≤ 60 then some (ys.any fun z => PyData.eqv z x) else none
  | .str ⟨⟨[c]⟩⟩, .str z => some (decide (c ∈ z.cps.toList))
  | _, _ => none
def isNone : D → Bool
  | .none => true
  | _ => false
def isTup : D → Bool
  | .tuple _ => true
  | _ => false
def ordOk (x y : D) : Bool := PySem.W.alike x y && !isNone x && decide (min x.depth y.depth ≤ 60)
def ltD : D → D → Option Bool
  | .int i, .int j => some (decide (i < j))
  | x, y => if ordOk x y then some (PySem.W.dataLt x y) else none
def gtD : D → D → Option Bool
  | .int i, .int j => some (decide (j < i))
  | x, y => if ordOk x y then some (PySem.W.dataLt y x) else none
def leD : D → D → Option Bool
  | .int i, .int j => some (decide (i ≤ j))
  | x, y => if ordOk x y then some (!PySem.W.dataLt y x) else none
def geD : D → D → Option Bool
  | .int i, .int j => some (decide (j ≤ i))
  | x, y => if ordOk x y then some (!PySem.W.dataLt x y) else none
def cmpD : COp → D → D → Option Bool
  | .eq => eqD
  | .ne => fun x y => (eqD x y).map (!·)
  | .lt => ltD
  | .le => leD
  | .gt => gtD
  | .ge => geD
  | .isin => inD
  | .notin => fun x y => (inD x y).map (!·)
def idxD : D → D → Option D
  | .list xs, .int i => atI xs i
  | .tuple xs, .int i => atI xs i
  | .str z, .int i => if z.length ≤ LINE then (atI z.cps.toList i).map fun c => .str ⟨#[c]⟩ else none
  | _, _ => none
def cutD (xs : List D) (lo hi : Option Int) : List D := (xs.drop (HT.sIx xs.length 0 lo)).take (HT.sIx xs.length xs.length hi - HT.sIx xs.length 0 lo)
def slcD : D → Option Int → Option Int → Option D
  | .list xs, lo, hi => some (.list (cutD xs lo hi))
  | .tuple xs, lo, hi => some (.tuple (cutD xs lo hi))
  | .str z, lo, hi => if z.length ≤ LINE then some (.str (cutS z lo hi)) else none
  | _, _, _ => none
/-- isinstance(x, T) -/
def isiD (T : String) (d : D) : Option Bool :=
  if T = "int" then some (PySem.PyData.isInt d) else if T = "bool" then some (PySem.PyData.isBool d) else if T = "str" then some (PySem.PyData.isStr d) else if T = "tuple" then some (PySem.PyData.isTuple d) else if T = "list" then some (PySem.PyData.isList d) else none
def allAlike (ds : List D) : Bool := ds.all fun d => ds.all fun d' => PySem.W.alike d d'
def dle (a b : D) : Bool := !PySem.W.dataLt b a
def sortD (ds : List D) : Option (List D) :=
  if allAlike ds && (ds.all isTup || ds.all fun d => !isTup d && !isNone d) && decide (PyData.depthAll ds ≤ 60) && decide (ds.length ≤ LINE) then some (ds.mergeSort dle) else none
def minL (x : D) (xs : List D) : D := xs.foldl (fun a y => if PySem.W.dataLt y a then y else a) x
def leastD : List D → Option D
  | [] => none
  | x :: xs => if allAlike (x :: xs) && (x :: xs).all (fun d => !isNone d) && decide (PyData.depthAll (x :: xs) ≤ 60) then some (minL x xs) else none
/-- isinstance(x, (tuple, list)) -/
def isqD (d : D) : Bool := PySem.PyData.isTuple d || PySem.PyData.isList d
def strsD : List D → Option (List Str)
  | [] => some []
  | .str x :: ds => (strsD ds).map fun xs => x :: xs
  | _ :: _ => none
def joinL (z : Str) (ds : List D) : Option D := match strsD ds with
  | none => none
  | some ys => if (ys.map (·.length)).sum + ys.length * z.length ≤ LINE then some (.str (Txt.join z ys)) else none
def joinD (z : Str) (d : D) : Option D := match d with
  | .list ds => joinL z ds
  | .tuple ds => joinL z ds
  | _ => none
def biD : Bi → List D → Option D
  | .len, [.list xs] => some (.int xs.length)
  | .len, [.tuple xs] => some (.int xs.length)
  | .len, [.str z] => if z.length ≤ LINE then some (.int z.length) else none
  | .list, [.list xs] => some (.list xs)
  | .list, [.tuple xs] => some (.list xs)
  | .tuple, [.list xs] => some (.tuple xs)
  | .tuple, [.tuple xs] => some (.tuple xs)
  | .sorted, [.list xs] => (sortD xs).map .list
  | .min, [.list xs] => leastD xs
  | .int, [.int i] => some (.int i)
  | .int, [.bool b] => some (.int (if b then 1 else 0))
  | .min2, [.int i, .int j] => some (.int (if j < i then j else i))
  | .str, [.int i] => if i.natAbs.log2 < 1920 then some (.str (toString i)) else none
  | _, _ => none
def mtD : Mt → D → D → Option D
  | .count, .list xs, y => if min (PyData.depthAll xs) y.depth ≤ 60 then some (.int (xs.countP fun z => PyData.eqv z y : Nat)) else none
  | .index, .list xs, y => if SeqAt.shaped (.list xs) && SeqAt.shaped y then (SeqAt.dataPlace xs y).map fun j => .int (j : Nat) else none
  | _, _, _ => none

/-! ### expressions -/
inductive Sx | no | row | val (d : D) (t : Tag) | dct (es : List (List L2.Key × D))
abbrev Ex := List Sx
/-- the name by which is asked what a def raises -/
def xn (f : Str) : Str := "!" ++ f
abbrev Call := Str → Bool → List D → G → Option (D × Tag × G)
def setAll : List Nat → List D → Tag → Ex → Option Ex
  | [], [], _, ρ => some ρ
  | i :: is, d :: ds, t, ρ => setAll is ds t (ρ.set i (.val d t))
  | _, _, _, _ => none
def setT (tg : Tg) (d : D) (t : Tag) (ρ : Ex) : Option Ex := match tg with
  | .one i => some (ρ.set i (.val d t))
  | .many l => match d with
    | .tuple ds => setAll l ds t ρ
    | _ => none
def Tg.list : Tg → List Nat
  | .one i => [i]
  | .many l => l
def wipeX (ρ : Ex) : List Nat → Ex
  | [] => ρ
  | v :: vs => (wipeX ρ vs).set v .no
/-- what a comprehension makes of its items -/
def compL (f : D → G → Option (Option (D × Tag) × G)) : List D → G → Option (List D × Tag × G)
  | [], g => some ([], .fr, g)
  | x :: xs, g => match f x g with
    | none => none
    | some (r, g1) => match compL f xs g1 with
      | none => none
      | some (ys, t, g2) => match r with
        | none => some (ys, t, g2)
        | some (y, ty) => some (y :: ys, ty.mx t, g2)
def strItems (x : Str) : List D := x.cps.toList.map fun c => .str ⟨#[c]⟩
def rngItems (lo : Int) (n : Nat) : List D := (List.range n).map fun (k : Nat) => .int (lo + k)
def items : D → Option (List D)
  | .list xs => some xs
  | .tuple xs => some xs
  | .str x => if x.length ≤ LINE then some (strItems x) else none
  | _ => none
def SMALL (i : Int) : Prop := -1000000 ≤ i ∧ i ≤ 1000000
instance (i : Int) : Decidable (SMALL i) := by unfold SMALL; infer_instance
def rng (lo hi : D) : Option (List D) := match lo, hi with
  | .int a, .int b => if SMALL a ∧ SMALL b then some (rngItems a (b - a).toNat) else none
  | _, _ => none
def dnItems (lo : Int) (n : Nat) : List D := (List.range n).map fun (k : Nat) => .int (lo - k)
/-- range(x, y, -1) -/
def rngN (x y z : D) : Option (List D) := match x, y, z with
  | .int a, .int b, .int c => if SMALL a ∧ SMALL b ∧ c = -1 then some (dnItems a (a - b).toNat) else none
  | _, _, _ => none
/-- a new list of things without lists -/
def cpD : D → Option (List D)
  | .list ds => if lfs ds then some ds else none
  | .tuple ds => if lfs ds then some ds else none
  | _ => none
def scpD : D → Option Int → Option Int → Option (List D)
  | .list ds, l, h => if lfs ds then some (cutD ds l h) else none
  | _, _, _ => none
/-- the ints of data -/
def intsD : List D → Option (List Int)
  | [] => some []
  | .int i :: ds => (intsD ds).map fun l => i :: l
  | _ :: _ => none
def insU (x : Int) : List Int → List Int
  | [] => [x]
  | y :: l => if x < y then x :: y :: l else if x = y then y :: l else y :: insU x l
def ssetL : List Int → List Int
  | [] => []
  | x :: l => insU x (ssetL l)
/-- sorted(set(x)), x a tuple of ints -/
def ssetD : D → Option (List D)
  | .tuple ds => match intsD ds with
    | some ns => if ns.length < 60 then some ((ssetL ns).map .int) else none
    | none => none
  | _ => none
/-- a key: a tuple of ints -/
def dkeyD : D → Option (List L2.Key)
  | .tuple ds => (intsD ds).map fun l => l.map Sum.inl
  | _ => none
def getE (es : List (List L2.Key × D)) (k : List L2.Key) : Option D := (es.find? fun p => decide (p.1 = k)).map (·.2)
def putE (es : List (List L2.Key × D)) (k : List L2.Key) (d : D) : List (List L2.Key × D) := if (es.any fun p => decide (p.1 = k)) = true then es.map (fun p => if p.1 = k then (p.1, d) else p) else es ++ [(k, d)]
def kD : L2.Key → D
  | .inl i => .int i
  | .inr x => .str x
def keyE (k : List L2.Key) : D := .tuple (k.map kD)
/-- what a list of pairs tells a dict -/
def pairsE : List D → Option (List (List L2.Key × D))
  | [] => some []
  | .tuple [k, v] :: ds => match dkeyD k with
    | none => none
    | some k => match pairsE ds with
      | none => none
      | some es => some ((k, v) :: es)
  | _ :: _ => none
abbrev TblS := Str → Option (List (Str × Str))
def rowOk (row : Option Nat) (ρ : Ex) : Bool := match row with
  | none => true
  | some i => match ρ[i]? with
    | some .row => true
    | _ => false
variable (call : Call) (tbl : TblS)
mutual
def evE (ρ : Ex) : E → G → Option (D × Tag × G)
  | .cst d, g => some (d, .fr, g)
  | .glo _ d, g => some (d, .fr, g)
  | .var i, g => match ρ[i]? with
    | some (.val d t) => some (d, nrm d t, g)
    | _ => none
  | .bin o a b, g => match evE ρ a g with
    | none => none
    | some (x, t, g1) => match evE ρ b g1 with
      | none => none
      | some (y, u, g2) => match binD o x y with
        | none => none
        | some d => some (d, nrm d (t.mx u), g2)
  | .neg a, g => match evE ρ a g with
    | some (.int i, _, g1) => some (.int (-i), .fr, g1)
    | _ => none
  | .not a, g => match evE ρ a g with
    | some (.bool b, _, g1) => some (.bool (!b), .fr, g1)
    | _ => none
  | .and a b, g => match evE ρ a g with
    | some (.bool c, _, g1) => if c then evE ρ b g1 else some (.bool false, .fr, g1)
    | _ => none
  | .or a b, g => match evE ρ a g with
    | some (.bool c, _, g1) => if c then some (.bool true, .fr, g1) else evE ρ b g1
    | _ => none
  | .cmp o a b, g => match evE ρ a g with
    | none => none
    | some (x, _, g1) => match evE ρ b g1 with
      | none => none
      | some (y, _, g2) => match cmpD o x y with
        | none => none
        | some r => some (.bool r, .fr, g2)
  | .chn o p a b c, g => match evE ρ a g with
    | none => none
    | some (x, _, g1) => match evE ρ b g1 with
      | none => none
      | some (y, _, g2) => match cmpD o x y with
        | none => none
        | some false => some (.bool false, .fr, g2)
        | some true => match evE ρ c g2 with
          | none => none
          | some (z, _, g3) => match cmpD p y z with
            | none => none
            | some r => some (.bool r, .fr, g3)
  | .isN a, g => match evE ρ a g with
    | some (d, _, g1) => some (.bool (isNone d != false), .fr, g1)
    | none => none
  | .noN a, g => match evE ρ a g with
    | some (d, _, g1) => some (.bool (isNone d != true), .fr, g1)
    | none => none
  | .ite c a b, g => match evE ρ c g with
    | some (.bool k, _, g1) => if k then evE ρ a g1 else evE ρ b g1
    | _ => none
  | .tup es, g => match evEs ρ es g with
    | some (ds, t, g1) => if ds.length ≤ LINE then some (.tuple ds, t, g1) else none
    | none => none
  | .lst es, g => match evEs ρ es g with
    | some (ds, t, g1) => if ds.length ≤ LINE then some (.list ds, t, g1) else none
    | none => none
  | .sub a b, g => match evE ρ a g with
    | none => none
    | some (x, t, g1) => match evE ρ b g1 with
      | none => none
      | some (y, _, g2) => match idxD x y with
        | none => none
        | some d => some (d, nrm d t, g2)
  | .slc a lo hi, g => match evE ρ a g with
    | none => none
    | some (x, t, g1) => match evO ρ lo g1 with
      | none => none
      | some (l, g2) => match evO ρ hi g2 with
        | none => none
        | some (h, g3) => match slcD x l h with
            | none => none
            | some d => some (d, nrm d t, g3)
  | .comp elt tg it cs, g => match evI ρ it g with
    | none => none
    | some (xs, t, g1) => match compL (fun x g => match setT tg x (nrm x t) (wipeX ρ tg.list) with
        | none => none
        | some ρ' => match evC ρ' cs g with
          | none => none
          | some (false, g2) => some (none, g2)
          | some (true, g2) => match evE ρ' elt g2 with
            | none => none
            | some (d, u, g3) => some (some (d, u), g3)) xs g1 with
      | none => none
      | some (ys, u, g2) => some (.list ys, u, g2)
  | .isi T a, g => match evE ρ a g with
    | none => none
    | some (x, _, g1) => match isiD T x with
      | none => none
      | some b => some (.bool b, .fr, g1)
  | .isq _ a, g => match evE ρ a g with
    | none => none
    | some (x, _, g1) => some (.bool (isqD x), .fr, g1)
  | .join z a, g => match evE ρ a g with
    | none => none
    | some (x, _, g1) => match joinD z x with
      | none => none
      | some d => some (d, .fr, g1)
  | .lrg a, g => match evE ρ a g with
    | some (.int n, _, g1) => if SMALL n then some (.list (rngItems 0 n.toNat), .fr, g1) else none
    | _ => none
  | .lcp a, g => match evE ρ a g with
    | none => none
    | some (x, _, g1) => match cpD x with
      | none => none
      | some ds => some (.list ds, .fr, g1)
  | .scp a lo hi, g => match evE ρ a g with
    | none => none
    | some (x, _, g1) => match evO ρ lo g1 with
      | none => none
      | some (l, g2) => match evO ρ hi g2 with
        | none => none
        | some (h, g3) => match scpD x l h with
          | none => none
          | some ds => some (.list ds, .fr, g3)
  | .sset a, g => match evE ρ a g with
    | none => none
    | some (x, _, g1) => match ssetD x with
      | none => none
      | some ds => some (.list ds, .fr, g1)
  | .dget i a, g => match evE ρ a g with
    | none => none
    | some (x, _, g1) => match ρ[i]? with
      | some (.dct es) => (match dkeyD x with
        | none => none
        | some k => match getE es k with
          | none => none
          | some d => some (d, nrm d .bo, g1))
      | _ => none
  | .bi f es, g => match evEs ρ es g with
    | none => none
    | some (ds, t, g1) => match biD f ds with
      | none => none
      | some d => some (d, nrm d t, g1)
  | .call f row es, g => match rowOk row ρ with
    | false => none
    | true => match evEs ρ es g with
      | none => none
      | some (ds, t, g1) => match call f row.isSome ds g1 with
        | none => none
        | some (d, u, g2) => some (d, (match u with | .fr => Tag.fr | _ => t), g2)
  | .meth f o a, g => match evE ρ o g with
    | none => none
    | some (x, _, g1) => match evE ρ a g1 with
      | none => none
      | some (y, _, g2) => match mtD f x y with
        | none => none
        | some d => some (d, nrm d .bo, g2)
  | .inG x neg a, g => match evE ρ a g with
    | some (.str k, _, g1) => match tbl x with
      | none => none
      | some l => some (.bool ((l.lookup k).isSome != neg), .fr, g1)
    | _ => none
  | .getG x a, g => match evE ρ a g with
    | some (.str k, _, g1) => match tbl x with
      | none => none
      | some l => match l.lookup k with
        | none => none
        | some v => some (.str v, .fr, g1)
    | _ => none
  | .rowGet i k, g => match ρ[i]? with
    | some .row => match k with
      | 1 => some (.int g.p, .fr, g)
      | 2 => some (.int g.m, .fr, g)
      | 3 => some (.int g.r, .fr, g)
      | _ => none
    | _ => none
  | .rowLen i, g => match ρ[i]? with
    | some .row => some (.int g.ns.length, .fr, g)
    | _ => none
  | .rowCell i a, g => match ρ[i]? with
    | some .row => match evE ρ a g with
      | some (.int j, _, g1) => match atI g1.ns j with
        | none => none
        | some n => some (.int n, .fr, g1)
      | _ => none
    | _ => none
def evEs (ρ : Ex) : Es → G → Option (List D × Tag × G)
  | .nil, g => some ([], .fr, g)
  | .cons e es, g => match evE ρ e g with
    | none => none
    | some (d, t, g1) => match evEs ρ es g1 with
      | none => none
      | some (ds, u, g2) => some (d :: ds, t.mx u, g2)
/-- a slice's part -/
def evO (ρ : Ex) : Es → G → Option (Option Int × G)
  | .nil, g => some (none, g)
  | .cons e _, g => match evE ρ e g with
    | some (.int i, _, g1) => some (some i, g1)
    | _ => none
/-- tests, one behind another -/
def evC (ρ : Ex) : Es → G → Option (Bool × G)
  | .nil, g => some (true, g)
  | .cons e _, g => match evE ρ e g with
    | some (.bool b, _, g1) => some (b, g1)
    | _ => none
def evI (ρ : Ex) : It → G → Option (List D × Tag × G)
  | .val e, g => match evE ρ e g with
    | none => none
    | some (d, t, g1) => match items d with
      | none => none
      | some xs => some (xs, t, g1)
  | .rng1 e, g => match evE ρ e g with
    | none => none
    | some (d, _, g1) => match rng (.int 0) d with
      | none => none
      | some xs => some (xs, .fr, g1)
  | .rng2 a b, g => match evE ρ a g with
    | none => none
    | some (x, _, g1) => match evE ρ b g1 with
      | none => none
      | some (y, _, g2) => match rng x y with
        | none => none
        | some xs => some (xs, .fr, g2)
  | .rng3 a b c, g => match evE ρ a g with
    | none => none
    | some (x, _, g1) => match evE ρ b g1 with
      | none => none
      | some (y, _, g2) => match evE ρ c g2 with
        | none => none
        | some (z, _, g3) => match rngN x y z with
          | none => none
          | some xs => some (xs, .fr, g3)
end
end Mi
end
section
set_option maxRecDepth 100000
set_option maxHeartbeats 4000000
/-! How data stands in the heap. -/
namespace Mi
open PySem PySem.Spec PyProof.Rows L2

mutual
def Rep (S : Addr → Prop) (H : Hp) : D → V → Prop
  | .none, v => v = .non
  | .bool b, v => v = .bl b
  | .int i, v => v = .int i
  | .str x, v => v = .str x
  | .tuple ds, v => ∃ a vs, v = .ref a ∧ H a = some (.tup vs) ∧ RepA S H ds vs
  | .list ds, v => ∃ a vs, v = .ref a ∧ S a ∧ H a = some (.lst vs) ∧ RepA S H ds vs
  | .dict _, _ => False
def RepA (S : Addr → Prop) (H : Hp) : List D → List V → Prop
  | [], vs => vs = []
  | d :: ds, vs => ∃ v r, vs = v :: r ∧ Rep S H d v ∧ RepA S H ds r
end
section
variable {S S' : Addr → Prop} {H H' : Hp}
mutual
theorem Rep.mono (hl : ∀ a xs, S a → H a = some (.lst xs) → S' a ∧ H' a = some (.lst xs)) (ht : ∀ a xs, H a = some (.tup xs) → H' a = some (.tup xs)) : ∀ (d : D) (v : V), Rep S H d v → Rep S' H' d v
  | .none, _, h => by simpa only [Rep] using h
  | .bool _, _, h => by simpa only [Rep] using h
  | .int _, _, h => by simpa only [Rep] using h
  | .str _, _, h => by simpa only [Rep] using h
  | .tuple ds, v, h => by
    simp only [Rep] at h ⊢
    obtain ⟨a, vs, e, h1, h2⟩ := h
    exact ⟨a, vs, e, ht _ _ h1, RepA.mono hl ht ds vs h2⟩
  | .list ds, v, h => by
    simp only [Rep] at h ⊢
    obtain ⟨a, vs, e, h0, h1, h2⟩ := h
    exact ⟨a, vs, e, (hl _ _ h0 h1).1, (hl _ _ h0 h1).2, RepA.mono hl ht ds vs h2⟩
  | .dict _, _, h => by simp only [Rep] at h
theorem RepA.mono (hl : ∀ a xs, S a → H a = some (.lst xs) → S' a ∧ H' a = some (.lst xs)) (ht : ∀ a xs, H a = some (.tup xs) → H' a = some (.tup xs)) : ∀ (ds : List D) (vs : List V), RepA S H ds vs → RepA S' H' ds vs
  | [], _, h => by simpa only [RepA] using h
  | d :: ds, vs, h => by
    simp only [RepA] at h ⊢
    obtain ⟨v, r, e, h1, h2⟩ := h
    exact ⟨v, r, e, Rep.mono hl ht d v h1, RepA.mono hl ht ds r h2⟩
end
mutual
theorem Rep.lf {S S' : Addr → Prop} {H : Hp} : ∀ (d : D) (v : V), lf d = true → Rep S H d v → Rep S' H d v
  | .none, _, _, h => by simpa only [Rep] using h
  | .bool _, _, _, h => by simpa only [Rep] using h
  | .int _, _, _, h => by simpa only [Rep] using h
  | .str _, _, _, h => by simpa only [Rep] using h
  | .tuple ds, v, l, h => by
    simp only [Rep] at h ⊢
    obtain ⟨a, vs, e, h1, h2⟩ := h
    exact ⟨a, vs, e, h1, RepA.lf ds vs (by simpa only [Mi.lf] using l) h2⟩
  | .list ds, v, l, h => by simp [Mi.lf] at l
  | .dict _, _, _, h => by simp only [Rep] at h
theorem RepA.lf {S S' : Addr → Prop} {H : Hp} : ∀ (ds : List D) (vs : List V), lfs ds = true → RepA S H ds vs → RepA S' H ds vs
  | [], _, _, h => by simpa only [RepA] using h
  | d :: ds, vs, l, h => by
    simp only [RepA] at h ⊢
    simp only [Mi.lfs, Bool.and_eq_true] at l
    obtain ⟨v, r, e, h1, h2⟩ := h
    exact ⟨v, r, e, Rep.lf d v l.1 h1, RepA.lf ds r l.2 h2⟩
end
theorem RepA.length : ∀ {ds : List D} {vs : List V}, RepA S H ds vs → vs.length = ds.length
  | [], _, h => by
    simp only [RepA] at h
    rw [h]
    rfl
  | d :: ds, vs, h => by
    simp only [RepA] at h
    obtain ⟨v, r, e, h1, h2⟩ := h
    rw [e, List.length_cons, List.length_cons, RepA.length h2]
theorem RepA.nil : RepA S H [] [] := by simp only [RepA]
theorem RepA.cons {d : D} {ds : List D} {v : V} {vs : List V} (h1 : Rep S H d v) (h2 : RepA S H ds vs) : RepA S H (d :: ds) (v :: vs) := by
  simp only [RepA]
  exact ⟨v, vs, rfl, h1, h2⟩
theorem RepA.inv {d : D} {ds : List D} {vs : List V} (h : RepA S H (d :: ds) vs) : ∃ v r, vs = v :: r ∧ Rep S H d v ∧ RepA S H ds r := by
  simpa only [RepA] using h
theorem RepA.nil_inv {vs : List V} (h : RepA S H [] vs) : vs = [] := by simpa only [RepA] using h
theorem RepA.append : ∀ {ds es : List D} {vs ws : List V}, RepA S H ds vs → RepA S H es ws → RepA S H (ds ++ es) (vs ++ ws)
  | [], es, vs, ws, h, k => by
    rw [h.nil_inv]
    exact k
  | d :: ds, es, vs, ws, h, k => by
    obtain ⟨v, r, e, h1, h2⟩ := h.inv
    rw [e]
    exact .cons h1 (RepA.append h2 k)
theorem RepA.get : ∀ {ds : List D} {vs : List V} {i : Nat} {d : D}, RepA S H ds vs → ds[i]? = some d → ∃ v, vs[i]? = some v ∧ Rep S H d v
  | [], _, _, _, _, e => by simp at e
  | d :: ds, vs, 0, d', h, e => by
    obtain ⟨v, r, e1, h1, h2⟩ := h.inv
    simp at e
    subst e
    exact ⟨v, by rw [e1]; rfl, h1⟩
  | d :: ds, vs, i + 1, d', h, e => by
    obtain ⟨v, r, e1, h1, h2⟩ := h.inv
    obtain ⟨w, f1, f2⟩ := RepA.get (i := i) h2 (by simpa using e)
    exact ⟨w, by rw [e1]; simpa using f1, f2⟩
theorem RepA.getV : ∀ {ds : List D} {vs : List V} {i : Nat} {v : V}, RepA S H ds vs → vs[i]? = some v → ∃ d, ds[i]? = some d ∧ Rep S H d v
  | [], vs, _, _, h, e => by rw [h.nil_inv] at e; simp at e
  | d :: ds, vs, 0, d', h, e => by
    obtain ⟨v, r, e1, h1, h2⟩ := h.inv
    rw [e1] at e
    simp at e
    subst e
    exact ⟨d, rfl, h1⟩
  | d :: ds, vs, i + 1, d', h, e => by
    obtain ⟨v, r, e1, h1, h2⟩ := h.inv
    rw [e1] at e
    obtain ⟨w, f1, f2⟩ := RepA.getV (i := i) h2 (by simpa using e)
    exact ⟨w, by simpa using f1, f2⟩
theorem RepA.drop : ∀ {ds : List D} {vs : List V} (n : Nat), RepA S H ds vs → RepA S H (ds.drop n) (vs.drop n)
  | _, _, 0, h => h
  | [], vs, n + 1, h => by rw [h.nil_inv]; exact .nil
  | d :: ds, vs, n + 1, h => by
    obtain ⟨v, r, e1, h1, h2⟩ := h.inv
    rw [e1]
    exact RepA.drop n h2
theorem RepA.take : ∀ {ds : List D} {vs : List V} (n : Nat), RepA S H ds vs → RepA S H (ds.take n) (vs.take n)
  | _, _, 0, h => .nil
  | [], vs, n + 1, h => by rw [h.nil_inv]; exact .nil
  | d :: ds, vs, n + 1, h => by
    obtain ⟨v, r, e1, h1, h2⟩ := h.inv
    rw [e1]
    exact .cons h1 (RepA.take n h2)
theorem Rep.tuple {ds : List D} {a : Addr} {vs : List V} (h1 : H a = some (.tup vs)) (h2 : RepA S H ds vs) : Rep S H (.tuple ds) (.ref a) := by
  simp only [Rep]
  exact ⟨a, vs, rfl, h1, h2⟩
theorem Rep.list {ds : List D} {a : Addr} {vs : List V} (h0 : S a) (h1 : H a = some (.lst vs)) (h2 : RepA S H ds vs) : Rep S H (.list ds) (.ref a) := by
  simp only [Rep]
  exact ⟨a, vs, rfl, h0, h1, h2⟩
theorem Rep.tuple_inv {ds : List D} {v : V} (h : Rep S H (.tuple ds) v) : ∃ a vs, v = .ref a ∧ H a = some (.tup vs) ∧ RepA S H ds vs := by
  simpa only [Rep] using h
theorem Rep.list_inv {ds : List D} {v : V} (h : Rep S H (.list ds) v) : ∃ a vs, v = .ref a ∧ S a ∧ H a = some (.lst vs) ∧ RepA S H ds vs := by
  simpa only [Rep] using h
theorem Rep.int_inv {i : Int} {v : V} (h : Rep S H (.int i) v) : v = .int i := by simpa only [Rep] using h
theorem Rep.bool_inv {i : Bool} {v : V} (h : Rep S H (.bool i) v) : v = .bl i := by simpa only [Rep] using h
theorem Rep.str_inv {i : Str} {v : V} (h : Rep S H (.str i) v) : v = .str i := by simpa only [Rep] using h
theorem Rep.none_inv {v : V} (h : Rep S H .none v) : v = .non := by simpa only [Rep] using h
theorem Rep.dict_inv {l} {v : V} (h : Rep S H (.dict l) v) : False := by simpa only [Rep] using h
theorem Rep.int (i : Int) : Rep S H (.int i) (.int i) := by simp only [Rep]
theorem Rep.bool (i : Bool) : Rep S H (.bool i) (.bl i) := by simp only [Rep]
theorem Rep.str (i : Str) : Rep S H (.str i) (.str i) := by simp only [Rep]
theorem Rep.none : Rep S H .none .non := by simp only [Rep]
theorem Rep.leaf {d : D} {v : V} (l : leaf d = true) (h : Rep S H d v) : Rep S' H' d v := by
  cases d <;> first
    | simpa only [Rep] using h
    | simp [Mi.leaf] at l
/-- all that is tracked stays; it is there all the same -/
theorem Rep.same {d : D} {v : V} (e : Same H H') (h : Rep S H d v) : Rep S H' d v := Rep.mono (fun a xs h1 h2 => ⟨h1, e _ _ h2⟩) (fun a xs h => e _ _ h) d v h
theorem RepA.same {d : List D} {v : List V} (e : Same H H') (h : RepA S H d v) : RepA S H' d v := RepA.mono (fun a xs h1 h2 => ⟨h1, e _ _ h2⟩) (fun a xs h => e _ _ h) d v h
theorem Rep.sub {d : D} {v : V} (e : ∀ a, S a → S' a) (h : Rep S H d v) : Rep S' H d v := Rep.mono (fun a xs h1 h2 => ⟨e _ h1, h2⟩) (fun a xs h => h) d v h
theorem RepA.sub {d : List D} {v : List V} (e : ∀ a, S a → S' a) (h : RepA S H d v) : RepA S' H d v := RepA.mono (fun a xs h1 h2 => ⟨e _ h1, h2⟩) (fun a xs h => h) d v h
mutual
theorem Rep.dp {K : PySem.W.Frag} : ∀ (d : D) (v : V), Rep S H d v → Dp K H v d
  | .none, _, h => by rw [h.none_inv]; exact .non
  | .bool _, _, h => by rw [h.bool_inv]; exact .bl _
  | .int _, _, h => by rw [h.int_inv]; exact .int _
  | .str _, _, h => by rw [h.str_inv]; exact .str _
  | .tuple ds, v, h => by
    obtain ⟨a, vs, e, h1, h2⟩ := h.tuple_inv
    rw [e]
    exact .tup (SqT.of h1) (RepA.dp ds vs h2)
  | .list ds, v, h => by
    obtain ⟨a, vs, e, h0, h1, h2⟩ := h.list_inv
    rw [e]
    exact .lst (SqL.of h1) (RepA.dp ds vs h2)
  | .dict _, _, h => h.dict_inv.elim
theorem RepA.dp {K : PySem.W.Frag} : ∀ (ds : List D) (vs : List V), RepA S H ds vs → DpAll K H vs ds
  | [], _, h => by rw [h.nil_inv]; exact .nil
  | d :: ds, vs, h => by
    obtain ⟨v, r, e, h1, h2⟩ := h.inv
    rw [e]
    exact .cons (Rep.dp d v h1) (RepA.dp ds r h2)
end
end

/-! ### operations by values -/
/-- a new set: S and what is not there yet -/
def Nw (S : Addr → Prop) (H : Hp) : Addr → Prop := fun a => S a ∨ H a = none
theorem same_upd {H : Hp} {p : Addr} {o : HO} (h : H p = none) : Same H (upd H p o) := fun b x e => by
  rw [upd_ne (ne_of_none e h)]
  exact e
def rD2 (F : D → D → Option D) : R2 := fun x y H Q => ∃ S d1 d2 d, Rep S H d1 x ∧ Rep S H d2 y ∧ F d1 d2 = some d ∧ ∀ v H', Same H H' → Rep (Nw S H) H' d v → Q v H'
def rC (F : List D → Option D) : List V → Hp → VK → Prop := fun xs H Q => ∃ S ds d, RepA S H ds xs ∧ F ds = some d ∧ ∀ v H', Same H H' → Rep (Nw S H) H' d v → Q v H'
theorem line_eq : sizeLine = LINE := sizeLine_eq
section
variable {X : Cx}
theorem new_list {S : Addr → Prop} {H : Hp} {p : Addr} {ds : List D} {vs : List V} (np : H p = none) (h : RepA S H ds vs) : Same H (upd H p (.lst vs)) ∧ Rep (Nw S H) (upd H p (.lst vs)) (.list ds) (.ref p) :=
  ⟨same_upd np, Rep.list (.inr np) upd_same ((h.same (same_upd np)).sub fun _ z => .inl z)⟩
theorem new_tup {S : Addr → Prop} {H : Hp} {p : Addr} {ds : List D} {vs : List V} (np : H p = none) (h : RepA S H ds vs) : Same H (upd H p (.tup vs)) ∧ Rep (Nw S H) (upd H p (.tup vs)) (.tuple ds) (.ref p) :=
  ⟨same_upd np, Rep.tuple upd_same ((h.same (same_upd np)).sub fun _ z => .inl z)⟩
theorem same_nw {S : Addr → Prop} {H : Hp} {d : D} {v : V} (h : Rep S H d v) : Rep (Nw S H) H d v := h.sub fun _ z => .inl z
theorem od_add : OpR X (binaryOp .Add) (rD2 addD) := by
  intro pins s σ H x y v u Q I rx ry h
  obtain ⟨S, d1, d2, d, h1, h2, e, q⟩ := h
  cases d1 <;> cases d2 <;> simp only [addD, reduceCtorEq] at e
  case int.int i j =>
    obtain rfl := Option.some.inj e
    exact op_add pins s σ H x y v u Q I rx ry ⟨i, j, h1.int_inv, h2.int_inv, q _ _ (Same.refl _) (.int _)⟩
  case str.str i j =>
    split at e
    · obtain rfl := Option.some.inj e
      rename_i z
      exact op_add_str pins s σ H x y v u Q I rx ry ⟨i, j, h1.str_inv, h2.str_inv, by rw [line_eq]; exact z, q _ _ (Same.refl _) (.str _)⟩
    · cases e
  case list.list a b =>
    split at e
    · obtain rfl := Option.some.inj e
      rename_i z
      obtain ⟨p, vs, e1, _, e2, e3⟩ := h1.list_inv
      obtain ⟨p', vs', e1', _, e2', e3'⟩ := h2.list_inv
      refine op_cat pins s σ H x y v u Q I rx ry ⟨p, p', vs, vs', e1, e1', e2, e2', by rw [line_eq, e3.length, e3'.length]; exact z, fun l nl => ?_⟩
      obtain ⟨z1, z2⟩ := new_list nl (e3.append e3')
      exact q _ _ z1 z2
    · cases e
  case tuple.tuple a b =>
    split at e
    · obtain rfl := Option.some.inj e
      rename_i z
      obtain ⟨p, vs, e1, e2, e3⟩ := h1.tuple_inv
      obtain ⟨p', vs', e1', e2', e3'⟩ := h2.tuple_inv
      refine op_catA pins s σ H x y v u Q I rx ry ⟨p, p', vs, vs', e1, e1', SqT.of e2, SqT.of e2', by rw [line_eq, e3.length, e3'.length]; exact z, fun n0 => ?_, fun _ n0 => ?_, fun _ _ l nl => ?_⟩
      · have : a = [] := List.eq_nil_of_length_eq_zero (by rw [← e3.length, n0]; rfl)
        subst this
        rw [← e1']
        exact q _ _ (Same.refl _) (same_nw h2)
      · have : b = [] := List.eq_nil_of_length_eq_zero (by rw [← e3'.length, n0]; rfl)
        subst this
        rw [← e1, List.append_nil] at *
        exact q _ _ (Same.refl _) (same_nw h1)
      · obtain ⟨z1, z2⟩ := new_tup nl (e3.append e3')
        exact q _ _ z1 z2
    · cases e
theorem od_sub : OpR X (binaryOp .Sub) (rD2 subD) := by
  intro pins s σ H x y v u Q I rx ry h
  obtain ⟨S, d1, d2, d, h1, h2, e, q⟩ := h
  cases d1 <;> cases d2 <;> simp only [subD, reduceCtorEq] at e
  case int.int i j =>
    obtain rfl := Option.some.inj e
    exact op_sub pins s σ H x y v u Q I rx ry ⟨i, j, h1.int_inv, h2.int_inv, q _ _ (Same.refl _) (.int _)⟩
theorem od_fdiv : OpR X (binaryOp .FloorDiv) (rD2 fdivD) := by
  intro pins s σ H x y v u Q I rx ry h
  obtain ⟨S, d1, d2, d, h1, h2, e, q⟩ := h
  cases d1 <;> cases d2 <;> simp only [fdivD, reduceCtorEq] at e
  case int.int i j =>
    split at e
    · obtain rfl := Option.some.inj e
      rename_i z
      exact op_fdivN pins s σ H x y v u Q I rx ry ⟨i, j, h1.int_inv, h2.int_inv, z, q _ _ (Same.refl _) (.int _)⟩
    · cases e
theorem od_mod : OpR X (binaryOp .Mod) (rD2 modD) := by
  intro pins s σ H x y v u Q I rx ry h
  obtain ⟨S, d1, d2, d, h1, h2, e, q⟩ := h
  cases d1 <;> cases d2 <;> simp only [modD, reduceCtorEq] at e
  case int.int i j =>
    split at e
    · obtain rfl := Option.some.inj e
      rename_i z
      exact op_modN pins s σ H x y v u Q I rx ry ⟨i, j, h1.int_inv, h2.int_inv, z, q _ _ (Same.refl _) (.int _)⟩
    · cases e
theorem od_pow : OpR X (binaryOp .Pow) (rD2 powD) := by
  intro pins s σ H x y v u Q I rx ry h
  obtain ⟨S, d1, d2, d, h1, h2, e, q⟩ := h
  cases d1 <;> cases d2 <;> simp only [powD, reduceCtorEq] at e
  case int.int i j =>
    split at e
    · obtain rfl := Option.some.inj e
      rename_i z
      exact op_pow pins s σ H x y v u Q I rx ry ⟨i, j, h1.int_inv, h2.int_inv, z, q _ _ (Same.refl _) (.int _)⟩
    · cases e
theorem repA_rep {S : Addr → Prop} {H : Hp} {ds : List D} {vs : List V} (h : RepA S H ds vs) : ∀ n : Nat, RepA S H (rep n ds) (List.replicate n vs).flatten
  | 0 => .nil
  | n + 1 => by
    unfold rep
    rw [List.replicate_succ, List.flatten_cons, List.replicate_succ, List.flatten_cons]
    exact h.append (repA_rep h n)
theorem od_mul : OpR X (binaryOp .Mult) (rD2 mulD) := by
  intro pins s σ H x y v u Q I rx ry h
  obtain ⟨S, d1, d2, d, h1, h2, e, q⟩ := h
  cases d1 <;> cases d2 <;> simp only [mulD, reduceCtorEq] at e
  case int.int i j =>
    split at e
    · obtain rfl := Option.some.inj e
      rename_i z
      exact op_mul pins s σ H x y v u Q I rx ry ⟨i, j, h1.int_inv, h2.int_inv, z, q _ _ (Same.refl _) (.int _)⟩
    · cases e
  case list.int a k =>
    split at e
    · obtain rfl := Option.some.inj e
      rename_i z
      obtain ⟨p, vs, e1, _, e2, e3⟩ := h1.list_inv
      refine op_rep pins s σ H x y v u Q I rx ry ⟨p, k, vs, e1, h2.int_inv, e2, by omega, by omega, ?_, fun l nl => ?_⟩
      · have a1 : vs.length ≤ 1000 := by rw [e3.length]; exact z.2.2
        have a2 : k.toNat ≤ 1000 := by omega
        have := Nat.mul_le_mul a1 a2
        rw [line_eq]
        show _ ≤ 16777216
        omega
      · obtain ⟨z1, z2⟩ := new_list nl (repA_rep e3 k.toNat)
        exact q _ _ z1 z2
    · cases e
end

/-! ### comparisons -/
section
variable {S S' : Addr → Prop} {H H' : Hp}
mutual
theorem Rep.plain : ∀ (d : D) (v : V), Rep S H d v → d.plain = true
  | .none, _, h => rfl
  | .bool _, _, h => rfl
  | .int _, _, h => rfl
  | .str _, _, h => rfl
  | .tuple ds, v, h => by
    obtain ⟨a, vs, e, h1, h2⟩ := h.tuple_inv
    exact RepA.plain ds vs h2
  | .list ds, v, h => by
    obtain ⟨a, vs, e, h0, h1, h2⟩ := h.list_inv
    exact RepA.plain ds vs h2
  | .dict _, _, h => h.dict_inv.elim
theorem RepA.plain : ∀ (ds : List D) (vs : List V), RepA S H ds vs → PyData.plainAll ds = true
  | [], _, h => rfl
  | d :: ds, vs, h => by
    obtain ⟨v, r, e, h1, h2⟩ := h.inv
    simp only [PyData.plainAll, Bool.and_eq_true]
    exact ⟨Rep.plain d v h1, RepA.plain ds r h2⟩
end
end
def rB2 (F : D → D → Option Bool) : R2 := fun x y H Q => ∃ S d1 d2 b, Rep S H d1 x ∧ Rep S H d2 y ∧ F d1 d2 = some b ∧ Q (.bl b) H
section
variable {X : Cx}
theorem Rep.reads {S : Addr → Prop} {H : Hp} {pins : List (Addr × Obj)} {σ : L2.St} {s : Shared} {d : D} {v : V} {u : Value} (I : Inv X pins σ H s) (h : Rep S H d v) (r : RelV v u) : ∃ as, Reads s.heap u d as :=
  Dp.reads I d v u (Rep.dp d v h) r
theorem oc_eq (hu : X.A.units + 64 < cLine) : OpR X (compareOp .Eq) (rB2 eqD) := by
  intro pins s σ H x y v u Q I rx ry h
  obtain ⟨S, d1, d2, b, h1, h2, e, q⟩ := h
  unfold eqD at e
  split at e
  · obtain rfl := Option.some.inj e
    obtain ⟨as, r1⟩ := h1.reads I rx
    obtain ⟨bs, r2⟩ := h2.reads I ry
    exact SeqAt.eq_plain r1 r2 (Rep.plain _ _ h1) (Rep.plain _ _ h2) (by omega) ⟨.bl _, H, I, rfl, q⟩
  · cases e
theorem oc_ne (hu : X.A.units + 64 < cLine) : OpR X (compareOp .NotEq) (rB2 fun x y => (eqD x y).map (!·)) := by
  intro pins s σ H x y v u Q I rx ry h
  obtain ⟨S, d1, d2, b, h1, h2, e, q⟩ := h
  have e0 : (eqD d1 d2).map (!·) = some b := e
  clear e
  obtain ⟨b', e, rfl⟩ := Option.map_eq_some_iff.mp e0
  unfold eqD at e
  split at e
  · obtain rfl := Option.some.inj e
    obtain ⟨as, r1⟩ := h1.reads I rx
    obtain ⟨bs, r2⟩ := h2.reads I ry
    exact SeqAt.ne_plain r1 r2 (Rep.plain _ _ h1) (Rep.plain _ _ h2) (by omega) ⟨.bl _, H, I, rfl, q⟩
  · cases e
theorem inD_cases {x y : D} {b : Bool} (e : inD x y = some b) : (∃ ys, (y = .list ys ∨ y = .tuple ys) ∧ min (PyData.depthAll ys) x.depth ≤ 60 ∧ b = ys.any fun z => PyData.eqv z x) ∨
    ∃ c z, x = .str ⟨⟨[c]⟩⟩ ∧ y = .str z ∧ b = decide (c ∈ z.cps.toList) := by
  unfold inD at e
  split at e
  · split at e
    · exact .inl ⟨_, .inl rfl, by assumption, (Option.some.inj e).symm⟩
    · cases e
  · split at e
    · exact .inl ⟨_, .inr rfl, by assumption, (Option.some.inj e).symm⟩
    · cases e
  · exact .inr ⟨_, _, rfl, rfl, (Option.some.inj e).symm⟩
  · cases e
theorem oc_in (hu : X.A.units + 64 < cLine) : OpR X (compareOp .In) (rB2 inD) := by
  intro pins s σ H x y v u Q I rx ry h
  obtain ⟨S, d1, d2, b, h1, h2, e, q⟩ := h
  rcases inD_cases e with ⟨ys, rfl | rfl, e1, rfl⟩ | ⟨c, z, rfl, rfl, rfl⟩
  · obtain ⟨as, r1⟩ := h1.reads I rx
    obtain ⟨bs, r2⟩ := h2.reads I ry
    exact SeqAt.in_list_data r2 r1 (by simpa only [PyData.plain] using Rep.plain _ _ h2) (Rep.plain _ _ h1) (by omega) ⟨.bl _, H, I, rfl, q⟩
  · obtain ⟨as, r1⟩ := h1.reads I rx
    obtain ⟨bs, r2⟩ := h2.reads I ry
    exact SeqAt.in_tuple_data r2 r1 (by simpa only [PyData.plain] using Rep.plain _ _ h2) (Rep.plain _ _ h1) (by omega) ⟨.bl _, H, I, rfl, q⟩
  · exact op_in_sign pins s σ H x y v u Q I rx ry ⟨c, z, h1.str_inv, h2.str_inv, q⟩
theorem oc_notin (hu : X.A.units + 64 < cLine) : OpR X (compareOp .NotIn) (rB2 fun x y => (inD x y).map (!·)) := by
  intro pins s σ H x y v u Q I rx ry h
  obtain ⟨S, d1, d2, b, h1, h2, e, q⟩ := h
  have e0 : (inD d1 d2).map (!·) = some b := e
  clear e
  obtain ⟨b', e, rfl⟩ := Option.map_eq_some_iff.mp e0
  rcases inD_cases e with ⟨ys, rfl | rfl, e1, rfl⟩ | ⟨c, z, rfl, rfl, rfl⟩
  · obtain ⟨as, r1⟩ := h1.reads I rx
    obtain ⟨bs, r2⟩ := h2.reads I ry
    exact SeqAt.notIn_list_data r2 r1 (by simpa only [PyData.plain] using Rep.plain _ _ h2) (Rep.plain _ _ h1) (by omega) ⟨.bl _, H, I, rfl, q⟩
  · obtain ⟨as, r1⟩ := h1.reads I rx
    obtain ⟨bs, r2⟩ := h2.reads I ry
    exact SeqAt.notIn_tuple_data r2 r1 (by simpa only [PyData.plain] using Rep.plain _ _ h2) (Rep.plain _ _ h1) (by omega) ⟨.bl _, H, I, rfl, q⟩
  · exact op_notIn_sign pins s σ H x y v u Q I rx ry ⟨c, z, h1.str_inv, h2.str_inv, q⟩
theorem ordOk_inv {x y : D} (h : ordOk x y = true) : PySem.W.alike x y = true ∧ x ≠ .none ∧ min x.depth y.depth ≤ 60 := by
  unfold ordOk at h
  simp only [Bool.and_eq_true, decide_eq_true_eq, Bool.not_eq_true'] at h
  refine ⟨h.1.1, ?_, h.2⟩
  rintro rfl
  exact absurd h.1.2 (by simp [isNone])
theorem oc_lt (hu : X.A.units + 64 < cLine) : OpR X (compareOp .Lt) (rB2 ltD) := by
  intro pins s σ H x y v u Q I rx ry h
  obtain ⟨S, d1, d2, b, h1, h2, e, q⟩ := h
  unfold ltD at e
  split at e
  · obtain rfl := Option.some.inj e
    exact op_lt pins s σ H x y v u Q I rx ry ⟨_, _, h1.int_inv, h2.int_inv, q⟩
  · split at e
    · obtain rfl := Option.some.inj e
      rename_i z
      obtain ⟨z1, z2, z3⟩ := ordOk_inv z
      obtain ⟨as, r1⟩ := h1.reads I rx
      obtain ⟨bs, r2⟩ := h2.reads I ry
      exact PySem.W.lt_data r1 r2 z1 z2 (by omega) ⟨.bl _, H, I, rfl, q⟩
    · cases e
theorem oc_gt (hu : X.A.units + 64 < cLine) : OpR X (compareOp .Gt) (rB2 gtD) := by
  intro pins s σ H x y v u Q I rx ry h
  obtain ⟨S, d1, d2, b, h1, h2, e, q⟩ := h
  unfold gtD at e
  split at e
  · obtain rfl := Option.some.inj e
    exact op_gt pins s σ H x y v u Q I rx ry ⟨_, _, h1.int_inv, h2.int_inv, q⟩
  · split at e
    · obtain rfl := Option.some.inj e
      rename_i z
      obtain ⟨z1, z2, z3⟩ := ordOk_inv z
      obtain ⟨as, r1⟩ := h1.reads I rx
      obtain ⟨bs, r2⟩ := h2.reads I ry
      exact PySem.W.gt_data r1 r2 z1 z2 (by omega) ⟨.bl _, H, I, rfl, q⟩
    · cases e
theorem oc_le (hu : X.A.units + 64 < cLine) : OpR X (compareOp .LtE) (rB2 leD) := by
  intro pins s σ H x y v u Q I rx ry h
  obtain ⟨S, d1, d2, b, h1, h2, e, q⟩ := h
  unfold leD at e
  split at e
  · obtain rfl := Option.some.inj e
    exact op_le pins s σ H x y v u Q I rx ry ⟨_, _, h1.int_inv, h2.int_inv, q⟩
  · split at e
    · obtain rfl := Option.some.inj e
      rename_i z
      obtain ⟨z1, z2, z3⟩ := ordOk_inv z
      obtain ⟨as, r1⟩ := h1.reads I rx
      obtain ⟨bs, r2⟩ := h2.reads I ry
      exact PySem.W.le_data r1 r2 z1 z2 (by omega) ⟨.bl _, H, I, rfl, q⟩
    · cases e
theorem oc_ge (hu : X.A.units + 64 < cLine) : OpR X (compareOp .GtE) (rB2 geD) := by
  intro pins s σ H x y v u Q I rx ry h
  obtain ⟨S, d1, d2, b, h1, h2, e, q⟩ := h
  unfold geD at e
  split at e
  · obtain rfl := Option.some.inj e
    exact op_ge pins s σ H x y v u Q I rx ry ⟨_, _, h1.int_inv, h2.int_inv, q⟩
  · split at e
    · obtain rfl := Option.some.inj e
      rename_i z
      obtain ⟨z1, z2, z3⟩ := ordOk_inv z
      obtain ⟨as, r1⟩ := h1.reads I rx
      obtain ⟨bs, r2⟩ := h2.reads I ry
      exact PySem.W.ge_data r1 r2 z1 z2 (by omega) ⟨.bl _, H, I, rfl, q⟩
    · cases e
def COp.py : COp → CmpOp
  | .eq => .Eq
  | .ne => .NotEq
  | .lt => .Lt
  | .le => .LtE
  | .gt => .Gt
  | .ge => .GtE
  | .isin => .In
  | .notin => .NotIn
theorem oc_cmp (hu : X.A.units + 64 < cLine) (o : COp) : OpR X (compareOp o.py) (rB2 (cmpD o)) := by
  cases o
  · exact oc_eq hu
  · exact oc_ne hu
  · exact oc_lt hu
  · exact oc_le hu
  · exact oc_gt hu
  · exact oc_ge hu
  · exact oc_in hu
  · exact oc_notin hu

/-! ### items, slices, built-ins -/
theorem ox_idx : IxR X (rD2 idxD) := by
  intro value slice pins s σ H x y v u Q I rx ry h
  obtain ⟨S, d1, d2, d, h1, h2, e, q⟩ := h
  unfold idxD at e
  split at e
  · rename_i xs i
    obtain ⟨p, vs, e1, _, e2, e3⟩ := h1.list_inv
    unfold atI at e
    obtain ⟨j, e4, e5⟩ := Option.bind_eq_some_iff.mp e
    obtain ⟨v', f1, f2⟩ := e3.get e5
    exact ix_list value slice pins s σ H x y v u Q I rx ry ⟨p, vs, i, v', e1, h2.int_inv, SqL.of e2, by unfold atI; rw [e3.length, e4]; exact f1, q _ _ (Same.refl _) (same_nw f2)⟩
  · rename_i xs i
    obtain ⟨p, vs, e1, e2, e3⟩ := h1.tuple_inv
    unfold atI at e
    obtain ⟨j, e4, e5⟩ := Option.bind_eq_some_iff.mp e
    obtain ⟨v', f1, f2⟩ := e3.get e5
    exact ix_tup value slice pins s σ H x y v u Q I rx ry ⟨p, vs, i, v', e1, h2.int_inv, SqT.of e2, by unfold atI; rw [e3.length, e4]; exact f1, q _ _ (Same.refl _) (same_nw f2)⟩
  · split at e
    · obtain ⟨c, e1, e2⟩ := Option.map_eq_some_iff.mp e
      subst e2
      exact ix_str value slice pins s σ H x y v u Q I rx ry ⟨_, _, c, h1.str_inv, h2.int_inv, by rw [line_eq]; assumption, e1, q _ _ (Same.refl _) (.str _)⟩
    · cases e
  · cases e
def rSl (F : D → Option Int → Option Int → Option D) : V → Option Int → Option Int → Hp → VK → Prop := fun x lo hi H Q => ∃ S d1 d, Rep S H d1 x ∧ F d1 lo hi = some d ∧ ∀ v H', Same H H' → Rep (Nw S H) H' d v → Q v H'
theorem repA_cut {S : Addr → Prop} {H : Hp} {ds : List D} {vs : List V} (h : RepA S H ds vs) (lo hi : Option Int) : RepA S H (cutD ds lo hi) (cutV vs lo hi) := by
  unfold cutD cutV
  rw [h.length]
  exact (h.drop _).take _
theorem os_slc : SlR X (rSl slcD) := by
  intro pins s σ H x v vl vu lo hi sl Q I rx hs pl pu h
  obtain ⟨S, d1, d, h1, e, q⟩ := h
  unfold slcD at e
  split at e
  · rename_i xs
    obtain rfl := Option.some.inj e
    obtain ⟨p, vs, e1, _, e2, e3⟩ := h1.list_inv
    refine sl_list pins s σ H x v vl vu _ _ sl Q I rx hs pl pu ⟨p, vs, e1, SqL.of e2, fun l nl => ?_⟩
    obtain ⟨z1, z2⟩ := new_list nl (repA_cut e3 lo hi)
    exact q _ _ z1 z2
  · rename_i xs
    obtain rfl := Option.some.inj e
    obtain ⟨p, vs, e1, e2, e3⟩ := h1.tuple_inv
    refine sl_tupA pins s σ H x v vl vu _ _ sl Q I rx hs pl pu ⟨p, vs, e1, SqT.of e2, fun hw => ?_, fun _ l nl => ?_⟩
    · have ec : cutD xs lo hi = xs := by
        unfold cutD
        rw [e3.length] at hw
        rw [hw.1, hw.2]
        simp
      rw [ec] at q
      rw [← e1]
      exact q _ _ (Same.refl _) (same_nw h1)
    · obtain ⟨z1, z2⟩ := new_tup nl (repA_cut e3 lo hi)
      exact q _ _ z1 z2
  · split at e
    · obtain rfl := Option.some.inj e
      exact sl_str pins s σ H x v vl vu _ _ sl Q I rx hs pl pu ⟨_, h1.str_inv, by rw [line_eq]; assumption, q _ _ (Same.refl _) (.str _)⟩
    · cases e
  · cases e
theorem ob_len : CallR X (.builtin "len") (rC (biD .len)) := by
  intro pins s σ H xs us Q I r h
  obtain ⟨S, ds, d, h1, e, q⟩ := h
  match ds, e with
  | [.list ys], e =>
    obtain rfl := Option.some.inj e
    obtain ⟨v, r', e0, h1, h2⟩ := h1.inv
    obtain ⟨p, vs, e1, _, e2, e3⟩ := h1.list_inv
    refine call_len_seq pins s σ H xs us Q I r ⟨p, vs, by rw [e0, h2.nil_inv, e1], .inl (SqL.of e2), ?_⟩
    rw [e3.length]
    exact q _ _ (Same.refl _) (.int _)
  | [.tuple ys], e =>
    obtain rfl := Option.some.inj e
    obtain ⟨v, r', e0, h1, h2⟩ := h1.inv
    obtain ⟨p, vs, e1, e2, e3⟩ := h1.tuple_inv
    refine call_len_seq pins s σ H xs us Q I r ⟨p, vs, by rw [e0, h2.nil_inv, e1], .inr (SqT.of e2), ?_⟩
    rw [e3.length]
    exact q _ _ (Same.refl _) (.int _)
  | [.str z], e =>
    simp only [biD] at e
    split at e
    · obtain rfl := Option.some.inj e
      obtain ⟨v, r', e0, h1, h2⟩ := h1.inv
      exact call_len_str pins s σ H xs us Q I r ⟨z, by rw [e0, h2.nil_inv, h1.str_inv], by rw [line_eq]; assumption, q _ _ (Same.refl _) (.int _)⟩
    · cases e
theorem ob_list : CallR X (.type "list") (rC (biD .list)) := by
  intro pins s σ H xs us Q I r h
  obtain ⟨S, ds, d, h1, e, q⟩ := h
  match ds, e with
  | [.list ys], e =>
    obtain rfl := Option.some.inj e
    obtain ⟨v, r', e0, h1, h2⟩ := h1.inv
    obtain ⟨p, vs, e1, _, e2, e3⟩ := h1.list_inv
    refine call_list_of pins s σ H xs us Q I r ⟨p, vs, by rw [e0, h2.nil_inv, e1], .inl (SqL.of e2), fun l nl => ?_⟩
    obtain ⟨z1, z2⟩ := new_list nl e3
    exact q _ _ z1 z2
  | [.tuple ys], e =>
    obtain rfl := Option.some.inj e
    obtain ⟨v, r', e0, h1, h2⟩ := h1.inv
    obtain ⟨p, vs, e1, e2, e3⟩ := h1.tuple_inv
    refine call_list_of pins s σ H xs us Q I r ⟨p, vs, by rw [e0, h2.nil_inv, e1], .inr (SqT.of e2), fun l nl => ?_⟩
    obtain ⟨z1, z2⟩ := new_list nl e3
    exact q _ _ z1 z2
theorem ob_tuple : CallR X (.type "tuple") (rC (biD .tuple)) := by
  intro pins s σ H xs us Q I r h
  obtain ⟨S, ds, d, h1, e, q⟩ := h
  match ds, e with
  | [.list ys], e =>
    obtain rfl := Option.some.inj e
    obtain ⟨v, r', e0, h1, h2⟩ := h1.inv
    obtain ⟨p, vs, e1, _, e2, e3⟩ := h1.list_inv
    refine call_tuple_of pins s σ H xs us Q I r ⟨p, vs, by rw [e0, h2.nil_inv, e1], .inl ⟨SqL.of e2, fun l nl => ?_⟩⟩
    obtain ⟨z1, z2⟩ := new_tup nl e3
    exact q _ _ z1 z2
  | [.tuple ys], e =>
    obtain rfl := Option.some.inj e
    obtain ⟨v, r', e0, h1, h2⟩ := h1.inv
    obtain ⟨p, vs, e1, e2, e3⟩ := h1.tuple_inv
    refine call_tuple_of pins s σ H xs us Q I r ⟨p, vs, by rw [e0, h2.nil_inv, e1], .inr ⟨SqT.of e2, ?_⟩⟩
    rw [← e1]
    exact q _ _ (Same.refl _) (same_nw h1)
theorem ob_int : CallR X (.type "int") (rC (biD .int)) := by
  intro pins s σ H xs us Q I r h
  obtain ⟨S, ds, d, h1, e, q⟩ := h
  match ds, e with
  | [.int i], e =>
    obtain rfl := Option.some.inj e
    obtain ⟨v, r', e0, h1, h2⟩ := h1.inv
    exact call_int1 pins s σ H xs us Q I r (.inl ⟨i, by rw [e0, h2.nil_inv, h1.int_inv], q _ _ (Same.refl _) (.int _)⟩)
  | [.bool i], e =>
    obtain rfl := Option.some.inj e
    obtain ⟨v, r', e0, h1, h2⟩ := h1.inv
    exact call_int1 pins s σ H xs us Q I r (.inr ⟨i, by rw [e0, h2.nil_inv, h1.bool_inv], q _ _ (Same.refl _) (.int _)⟩)
theorem ob_str : CallR X (.type "str") (rC (biD .str)) := by
  intro pins s σ H xs us Q I r h
  obtain ⟨S, ds, d, h1, e, q⟩ := h
  match ds, e with
  | [.int i], e =>
    simp only [biD] at e
    split at e
    · obtain rfl := Option.some.inj e
      obtain ⟨v, r', e0, h1, h2⟩ := h1.inv
      exact call_str_int pins s σ H xs us Q I r ⟨i, by rw [e0, h2.nil_inv, h1.int_inv], by assumption, q _ _ (Same.refl _) (.str _)⟩
    · cases e
theorem ob_min2 (hc : X.calm = true) : CallR X (.builtin "min") (rC (biD .min2)) := by
  intro pins s σ H xs us Q I r h
  obtain ⟨S, ds, d, h1, e, q⟩ := h
  match ds, e with
  | [.int i, .int j], e =>
    obtain rfl := Option.some.inj e
    obtain ⟨v, r', e0, h1, h2⟩ := h1.inv
    obtain ⟨v2, r2, e2, h3, h4⟩ := h2.inv
    exact call_min2 hc pins s σ H xs us Q I r ⟨i, j, by rw [e0, e2, h4.nil_inv, h1.int_inv, h3.int_inv], q _ _ (Same.refl _) (.int _)⟩
end
end Mi
end
section
set_option maxRecDepth 100000
set_option maxHeartbeats 4000000
/-! Sorting rows of tuples, the empty one among them; min, isinstance, count. -/
namespace Mi
section
open PySem PySem.W PySem.SeqAt PySem.Calls PyProof.Rows
variable {prog : Program} {w : World} {A : Around} {E : Value → Shared → Prop} {s : Shared}
theorem call_tuple_lt {Q : Value → Shared → Prop} {l b : Addr} {items items2 : Array Value} {e r : Nat → Bool} (hl : s.heap.IsTuple l items) (hb : s.heap.IsTuple b items2)
    (he : ∀ j (h1 : j < items.size) (h2 : j < items2.size), EqAt A.in1 s items[j] items2[j] (e j)) (hr : ∀ j (h1 : j < items.size) (h2 : j < items2.size), e j = false → RcLt A.in1 s items[j] items2[j] (r j))
    (h : Q (.bool (firstLt e r (decide (items.size < items2.size)) (List.range (min items.size items2.size)))) s) : wpAny (model prog w) A (call (.builtin "tuple.__lt__") [.ref l, .ref b]) Q E s := by
  obtain ⟨⟨cls, dd, data, sl⟩, ho, hc, n, hd⟩ := id hl
  obtain ⟨⟨cls2, dd2, data2, sl2⟩, ho2, hc2, n2, hd2⟩ := id hb
  simp only at hc hd hc2 hd2
  subst hc hd hc2 hd2
  exact call_meets F.slot_tuple_lt ⟨_, ho, rfl⟩ F.entry_tuple_lt (F.args_tuple_lt_2 _ _) (tuple_ltAt l b items items2 n n2 dd dd2 sl sl2 e r) ⟨ho, ho2, he, hr, h⟩
/-- both of them tuples, compared as list.sort compares things of one type -/
theorem oneLt_tup {xs ys : List PyData} {a b : Value} {as bs : List Addr} {Q : Bool → Shared → Prop} (ra : Reads s.heap a (.tuple xs) as) (rb : Reads s.heap b (.tuple ys) bs) (h : alikeAll xs ys = true)
    (hu : A.units + min (PyData.depth (.tuple xs)) (PyData.depth (.tuple ys)) < cLine) (hq : Q (dataLt (.tuple xs) (.tuple ys)) s) : wpAny (model prog w) A (oneLt' true a b) Q E s := by
  cases ra with
  | @tuple l o vs n _ as₁ h1 h2 h3 h4 =>
    cases rb with
    | @tuple l' o' vs' n' _ bs₁ k1 k2 k3 k4 =>
      have n1 : vs.size = xs.length := by simpa using ReadsAll.length _ _ _ h4
      have n2 : vs'.size = ys.length := by simpa using ReadsAll.length _ _ _ k4
      rw [dataLt_tuple, ← firstLt_toks xs ys h, ← n1, ← n2] at hq
      rw [oneLt'_eq]
      simp only [if_true]
      refine wpAny_bind (wpAny_cRoomFor (room_here hu) ?_)
      refine wpAny_bind (wpAny_callSpecialIfBound?_slot (T := "tuple") ⟨_, h1, h2⟩ F.slot_tuple_lt (call_tuple_lt (e := pairEq xs ys) (r := fun j => dataLt (xs.getD j .none) (ys.getD j .none)) ⟨_, h1, h2, _, h3⟩ ⟨_, k1, k2, _, k3⟩ (fun j j1 j2 => ?_) (fun j j1 j2 hj => ?_) ?_))
      · have := eqAt_alikeAll xs ys A.in1 s vs.toList vs'.toList _ _ h4 k4 h (room_in hu) j (by simpa using j1) (by simpa using j2)
        simpa using this
      · have := rcLt_alikeAll xs ys A.in1 s vs.toList vs'.toList _ _ h4 k4 h (room_in hu) j (by simpa using j1) (by simpa using j2) hj
        simpa using this
      · exact wpAny_truthy_bool hq
theorem first_tup {v : Value} {xs : List PyData} {as : List Addr} {M : Model} {Q : Option Value → Shared → Prop} (r : Reads s.heap v (.tuple xs) as) (h : ∀ f : Option Value, f.isSome = !xs.isEmpty → Q f s) : wpAny M A (firstOfTuple' v) Q E s := by
  cases r with
  | @tuple a o vs n _ as' ho hc hd hr =>
    rw [kas_first_eq]
    refine wpAny_bind (Looks.here (show Looks M s.heap (typeOf (.ref a)) o.cls from (Looks.ld ho).andThen .now) ?_)
    rw [hc, if_neg (by first | decide | simp)]
    refine wpAny_bind (listItems_at ho hd (wpAny_pure (h _ ?_)))
    have hl : vs.size = xs.length := by simpa using ReadsAll.length _ _ _ hr
    cases xs with
    | nil =>
      rw [Array.getElem?_eq_none (by rw [hl]; exact Nat.le_refl _)]
      rfl
    | cons x xs =>
      rw [Array.getElem?_eq_getElem (by rw [hl]; exact Nat.succ_pos _)]
      rfl
theorem mapM_firsts {M : Model} : ∀ {vs : List Value} {ds : List PyData} {Q : List (Option Value) → Shared → Prop}, EachIs (fun v d => ∃ as, Reads s.heap v d as) vs ds → (∀ d ∈ ds, ∃ xs, d = .tuple xs) →
    (∀ fs : List (Option Value), fs.map (·.isSome) = ds.map (fun d => match d with | .tuple xs => !xs.isEmpty | _ => false) → Q fs s) → wpAny M A (vs.mapM firstOfTuple') Q E s
  | _, _, _, .nil, _, h => by
    rw [List.mapM_nil]
    exact wpAny_pure (h [] rfl)
  | _, _, Q, .cons (b := d) ⟨as, r⟩ t, ht, h => by
    rw [List.mapM_cons]
    obtain ⟨xs, rfl⟩ := ht d (List.mem_cons_self ..)
    refine wpAny_bind (first_tup r fun f hf => wpAny_bind (mapM_firsts t (fun d hd => ht d (List.mem_cons_of_mem _ hd)) fun fs hfs => wpAny_pure (h (f :: fs) ?_)))
    rw [List.map_cons, List.map_cons, hf, hfs]
def kd0 : List PyData → SortKind
  | .tuple (_ :: _) :: _ => general'
  | _ => oneType'
theorem kind_tup {vs : List Value} {ds : List PyData} {Q : SortKind → Shared → Prop} (h2 : 2 ≤ vs.length) (e : EachIs (fun v d => ∃ as, Reads s.heap v d as) vs ds) (ht : ∀ d ∈ ds, ∃ xs, d = .tuple xs)
    (he : ∃ d ∈ ds, d = .tuple []) (h : Q (kd0 ds) s) : wpAny (model prog w) A (keyKind' vs.toArray) Q E s := by
  rw [keyKind'_eq, List.mapM_toArray, map_eq_pure_bind]
  refine wpAny_bind (wpAny_bind (mapM_firsts e ht fun fs hfs => wpAny_pure ?_))
  have hn : (fs.toArray.all fun x => x.isSome) = false := by
    obtain ⟨d, hd, rfl⟩ := he
    rw [List.all_toArray, List.all_eq_false]
    have hm : false ∈ fs.map (·.isSome) := by
      rw [hfs]
      exact List.mem_map.mpr ⟨_, hd, rfl⟩
    obtain ⟨x, hx, ex⟩ := List.mem_map.mp hm
    exact ⟨x, hx, by rw [ex]; exact Bool.false_ne_true⟩
  rw [hn, if_neg Bool.false_ne_true]
  cases e with
  | nil => exact absurd h2 (by simp)
  | @cons v d vs ds r t =>
    obtain ⟨xs, rfl⟩ := ht d (List.mem_cons_self ..)
    cases fs with
    | nil => simp at hfs
    | cons f fs =>
      rw [List.map_cons, List.map_cons] at hfs
      injection hfs with hf _
      have h0 : ((f :: fs).toArray[0]?.bind id).isSome = f.isSome := by
        simp
      cases xs with
      | cons x xs =>
        have hf' : f.isSome = true := hf
        rw [h0, hf', if_pos rfl]
        exact wpAny_pure h
      | nil =>
        have hf' : f.isSome = false := hf
        rw [h0, hf', if_neg Bool.false_ne_true]
        rw [oneTypeOnly'_eq, List.mapM_toArray, map_eq_pure_bind]
        refine wpAny_bind (wpAny_bind (wpAny_bind (kas_mapM (r := Value.type "tuple") _ (fun u hu Q' hq => ?_) (wpAny_pure ?_))))
        · have e2 : EachIs (fun v d => ∃ as, Reads s.heap v d as) (v :: vs) (.tuple [] :: ds) := .cons r t
          obtain ⟨d, hd, as, rd⟩ := e2.left u hu
          obtain ⟨ys, rfl⟩ := ht d hd
          exact (looks_reads rd).here hq
        · have hall : ((List.map (fun _ => Value.type "tuple") (v :: vs)).toArray.all fun x => x == Value.type "tuple") = true := by
            simp only [List.all_toArray, List.all_map, List.all_eq_true]
            intro _ _
            exact beq_self_eq_true _
          have h0 : (List.map (fun _ => Value.type "tuple") (v :: vs)).toArray[0]? = some (Value.type "tuple") := by simp
          rw [h0]
          simp only [hall, if_true]
          exact wpAny_pure (wpAny_pure h)
/-- tuples that are alike, the empty one may be among them -/
theorem SortsAt.tups {vs : List Value} {ds : List PyData} (e : EachIs (fun v d => ∃ as, Reads s.heap v d as) vs ds) (hal : AllAlike ds) (ht : ∀ d ∈ ds, ∃ xs, d = .tuple xs) (hu : ∀ d, d ∈ ds → A.units + d.depth < cLine) : SortsAt prog w A s (dataKind s.heap ds) vs := by
  by_cases he : ∃ d ∈ ds, d = .tuple []
  · have room : ∀ {d d' : PyData}, d ∈ ds → A.units + min d.depth d'.depth < cLine := fun {d d'} hd => Nat.lt_of_le_of_lt (Nat.add_le_add_left (Nat.min_le_left _ _) _) (hu d hd)
    have lt : ∀ kd, (kd = general' ∨ kd = oneType') → H.LtAt prog w A s (dataKind s.heap ds) kd := by
      intro kd hk E x y a b Q ha hb hq
      obtain ⟨d, as, hd, ra, rfl⟩ := dataKind_inv ha
      obtain ⟨d', as', hd', rb, rfl⟩ := dataKind_inv hb
      obtain ⟨xs, rfl⟩ := ht d hd
      obtain ⟨ys, rfl⟩ := ht d' hd'
      have hdd := hal _ hd _ hd'
      rcases hk with rfl | rfl
      · show wpAny _ _ (oneLt' false x y) Q E s
        exact oneLt_alike (fun z => nomatch z) ra rb hdd (fun z => nomatch z) (room hd) hq
      · rw [keyLt'_oneType]
        exact oneLt_tup ra rb (by simpa [alike] using hdd) (room hd) hq
    refine ⟨fun v hv => ?_, kd0 ds, lt _ ?_, fun h2 E Q hq => kind_tup h2 e ht he hq⟩
    · obtain ⟨d, hd, as, r⟩ := e.left v hv
      exact ⟨_, dataKind_some hal hd r⟩
    · unfold kd0
      split
      · exact .inl rfl
      · exact .inr rfl
  · refine SortsAt.data e hal (.inl fun d hd => ?_) hu
    obtain ⟨xs, rfl⟩ := ht d hd
    cases xs with
    | nil => exact absurd ⟨_, hd, rfl⟩ he
    | cons x r => exact ⟨x, r, rfl⟩
theorem sorted_tups {R : Value → PyData → Prop} {l : Addr} {vs : List Value} {ds : List PyData} {Q : Value → Shared → Prop} (hl : s.heap.IsList l vs.toArray) (e : EachIs R vs ds) (er : EachIs (fun v b => ∃ as, Reads s.heap v b as) vs ds) (hal : AllAlike ds)
    (ht : ∀ d ∈ ds, ∃ xs, d = .tuple xs) (hL : ds.length ≤ sizeLine) (hu : ∀ b, b ∈ ds → A.units + 2 + b.depth < cLine) (h : ∀ out, out.length = ds.length → EachIs R out (ds.mergeSort (dataLe false id)) → Q (.ref (s.heap.objs.size + 1)) { s with heap := sortedAll s.heap vs (List.toArray out) }) :
    wpAny (model prog w) A (call (.builtin "sorted") [.ref l]) Q E s := by
  have er' : EachIs (fun v b => ∃ as, Reads (sortingHeap (copyHeap s.heap vs) (s.heap.objs.size + 1) vs) v b as) vs ds := er.mono fun _ _ ⟨as, r⟩ => ⟨as, PyProof.Rows.Reads.keeps (fun _ _ => sorting_copy_old) r⟩
  have er2 : EachIs (fun v b => ∃ as, Reads (sortingHeap (copyHeap s.heap vs) (s.heap.objs.size + 1) vs) v (id b) as) vs ds := er'
  exact sorted_vals hl (SortsAt.tups (s := { s with heap := sortingHeap (copyHeap s.heap vs) (s.heap.objs.size + 1) vs }) er' hal ht fun d hd => hu d hd) (by rw [e.length]; exact hL)
    (h _ (by rw [sortVals_length false rfl]; exact e.length) (by
      have q := sortVals_data (enc := id) false e er2 (by rw [List.map_id]; exact hal)
      rw [List.map_id] at q
      exact q))
end

open PySem PySem.Spec PyProof.Rows L2
section
variable {X : Cx} {S : Addr → Prop} {H : Hp}
def IsR (S : Addr → Prop) (H : Hp) (u : Value) (d : D) : Prop := ∃ v, RelV v u ∧ Rep S H d v
theorem each_of : ∀ {ds : List D} {vs : List V} {us : List Value}, RepA S H ds vs → Vals vs us → PySem.W.EachIs (IsR S H) us ds
  | [], vs, us, h, r => by
    rw [h.nil_inv] at r
    cases r
    exact .nil
  | d :: ds, vs, us, h, r => by
    obtain ⟨v, r', e, h1, h2⟩ := h.inv
    rw [e] at r
    cases r with
    | cons r1 r2 => exact .cons ⟨v, r1, h1⟩ (each_of h2 r2)
theorem of_each : ∀ {ds : List D} {us : List Value}, PySem.W.EachIs (IsR S H) us ds → ∃ vs, RepA S H ds vs ∧ Vals vs us
  | _, _, .nil => ⟨[], .nil, .nil⟩
  | _, _, .cons ⟨v, r1, h1⟩ t => by
    obtain ⟨vs, a, b⟩ := of_each t
    exact ⟨v :: vs, .cons h1 a, .cons r1 b⟩
theorem each_reads {pins : List (Addr × Obj)} {σ : L2.St} {s : Shared} (I : Inv X pins σ H s) {ds : List D} {us : List Value} (h : PySem.W.EachIs (IsR S H) us ds) : PySem.W.EachIs (fun v b => ∃ as, Reads s.heap v b as) us ds :=
  h.mono fun _ _ ⟨v, r, h⟩ => h.reads I r
theorem allAlike_of {ds : List D} (h : allAlike ds = true) : PySem.W.AllAlike ds := by
  unfold allAlike at h
  intro d hd d' hd'
  exact List.all_eq_true.mp (List.all_eq_true.mp h d hd) d' hd'
theorem depth_all : ∀ {ds : List D} {d : D}, d ∈ ds → d.depth ≤ PyData.depthAll ds
  | x :: ds, d, h => by
    simp only [PyData.depthAll]
    rcases List.mem_cons.mp h with rfl | h
    · exact Nat.le_max_left _ _
    · exact Nat.le_trans (depth_all h) (Nat.le_max_right _ _)
theorem tup_of {d : D} (h : isTup d = true) : ∃ xs, d = .tuple xs := by
  cases d <;> first
    | exact ⟨_, rfl⟩
    | cases h
theorem ob_sorted (hu : X.A.units + 64 < cLine) : CallR X (.builtin "sorted") (rC (biD .sorted)) := by
  intro pins s σ H xs us Q I r h
  obtain ⟨S, ds, d, h1, e, q⟩ := h
  match ds, e with
  | [.list ys], e =>
    have e : (sortD ys).map PyData.list = some d := e
    unfold sortD at e
    split at e
    · rename_i z
      obtain rfl := Option.some.inj e
      simp only [Bool.and_eq_true, Bool.or_eq_true, decide_eq_true_eq] at z
      obtain ⟨⟨⟨z1, z2⟩, z3⟩, z4⟩ := z
      obtain ⟨v, r', e0, h1, h2⟩ := h1.inv
      obtain ⟨p, vs, e1, _, e2, e3⟩ := h1.list_inv
      rw [e0, h2.nil_inv, e1] at r
      obtain ⟨its, rv, hl, hz⟩ := I.list (SqL.of e2)
      rw [Vals.ref1 r]
      have ee := each_of e3 rv
      have er := each_reads I ee
      have hL : ys.length ≤ sizeLine := by rw [line_eq]; exact z4
      have fin : ∀ out : List Value, out.length = ys.length → PySem.W.EachIs (IsR S H) out (ys.mergeSort dle) → EP X pins σ Q (.ref (s.heap.objs.size + 1)) { s with heap := sortedAll s.heap its (List.toArray out) } := by
        intro out hlen ho
        obtain ⟨ws, w1, w2⟩ := of_each ho
        obtain ⟨ep, he'⟩ := PyProof.Rows.sortedAll_at s.heap its out.toArray
        have np : H (s.heap.objs.size + 1) = none := I.hok.fresh (Nat.le_succ _)
        obtain ⟨q1, q2⟩ := new_list np w1
        refine ⟨.ref _, upd H (s.heap.objs.size + 1) (.lst ws), I.laid (t' := s.toks) (fun _ _ => PyProof.Rows.sortedAll_old) (Nat.le_succ _) ⟨?_, out, ep, w2, he'⟩, rfl, q _ _ q1 q2⟩
        rw [w2.length, hlen]
        exact hL
      have hdp : ∀ b ∈ ys, X.A.units + 2 + b.depth < cLine := fun b hb => by
        have := depth_all hb
        omega
      rcases z2 with z2 | z2
      · exact sorted_tups hl.isList ee er (allAlike_of z1) (fun d hd => tup_of (List.all_eq_true.mp z2 d hd)) hL hdp fun out h1 h2 => fin out h1 h2
      · have er2 : PySem.W.EachIs (fun v b => ∃ as, Reads s.heap v (id b) as) its ys := er
        refine PySem.W.sorted_data (enc := id) hl.isList ee er2 (by rw [List.map_id]; exact allAlike_of z1) (.inr fun d hd => ?_) hL hdp fun out h1 h2 => fin out h1 h2
        rw [List.map_id] at hd
        have := List.all_eq_true.mp z2 d hd
        simp only [Bool.and_eq_true, Bool.not_eq_true'] at this
        refine ⟨?_, ?_⟩
        · rintro rfl
          exact absurd this.2 (by simp [isNone])
        · rintro xs rfl
          exact absurd this.1 (by simp [isTup])
    · cases e
theorem minL_mem (x : D) : ∀ xs : List D, minL x xs ∈ x :: xs := by
  intro xs
  unfold minL
  have : ∀ (xs : List D) (a : D), xs.foldl (fun a y => if PySem.W.dataLt y a then y else a) a ∈ a :: xs := by
    intro xs
    induction xs with
    | nil => intro a; exact List.mem_cons_self ..
    | cons y ys ih =>
      intro a
      rw [List.foldl_cons]
      have := ih (if PySem.W.dataLt y a then y else a)
      rcases List.mem_cons.mp this with h | h
      · rw [h]
        split
        · exact List.mem_cons_of_mem _ (List.mem_cons_self ..)
        · exact List.mem_cons_self ..
      · exact List.mem_cons_of_mem _ (List.mem_cons_of_mem _ h)
  exact this xs x
theorem ob_min (hc : X.calm = true) (hu : X.A.units + 64 < cLine) : CallR X (.builtin "min") (rC (biD .min)) := by
  intro pins s σ H xs us Q I r h
  obtain ⟨S, ds, d, h1, e, q⟩ := h
  match ds, e with
  | [.list ys], e =>
    have e : leastD ys = some d := e
    cases ys with
    | nil => cases e
    | cons x ys =>
      have e : (if allAlike (x :: ys) && (x :: ys).all (fun d => !isNone d) && decide (PyData.depthAll (x :: ys) ≤ 60) then some (minL x ys) else none) = some d := e
      split at e
      · rename_i z
        obtain rfl := Option.some.inj e
        simp only [Bool.and_eq_true, decide_eq_true_eq] at z
        obtain ⟨⟨z1, z2⟩, z3⟩ := z
        obtain ⟨v, r', e0, h1, h2⟩ := h1.inv
        obtain ⟨p, vs, e1, _, e2, e3⟩ := h1.list_inv
        rw [e0, h2.nil_inv, e1] at r
        obtain ⟨its, rv, hl, hz⟩ := I.list (SqL.of e2)
        rw [Vals.ref1 r]
        obtain ⟨as, hr⟩ := Dp.readsAll I (x :: ys) vs its (RepA.dp _ _ e3) rv
        refine PySem.W.min_list_data (I.ok.hd hc) hl.isList (by simpa using hr) ⟨fun a ha b hb => allAlike_of z1 a ha b hb, fun a ha => ?_⟩ (by omega) fun i u h' tk bs hi hm hk => ?_
        · have := List.all_eq_true.mp z2 a ha
          rintro rfl
          exact absurd this (by simp [isNone])
        · have hi' : its[i]? = some u := by simpa using hi
          have hvl := rv.length
          obtain ⟨v', hv1, hv2⟩ : ∃ v', vs[i]? = some v' ∧ RelV v' u := by
            obtain ⟨hlt, _⟩ := List.getElem?_eq_some_iff.mp hi'
            have hlt' : i < vs.length := by omega
            obtain ⟨u', g1, g2⟩ := rv.get (List.getElem?_eq_getElem hlt')
            rw [hi'] at g1
            cases g1
            exact ⟨_, List.getElem?_eq_getElem hlt', g2⟩
          obtain ⟨d', f1, f2⟩ := e3.getV hv1
          have I2 : Inv X pins σ H { s with heap := h', toks := tk } := I.kept (t' := tk) hk
          obtain ⟨as2, r2⟩ := f2.reads I2 hv2
          have p1 : d'.plain = true := Rep.plain _ _ f2
          have p2 : (minL x ys).plain = true := by
            have hm2 := minL_mem x ys
            obtain ⟨j, hj⟩ := List.getElem?_of_mem hm2
            obtain ⟨w', _, hw2⟩ := e3.get hj
            exact Rep.plain _ _ hw2
          have ed : d' = minL x ys := (SeqAt.readOf_plain p1 r2).symm.trans (SeqAt.readOf_plain p2 hm)
          rw [ed] at f2
          exact ⟨v', H, I2, hv2, q _ _ (Same.refl _) (same_nw f2)⟩
      · cases e
theorem oi_isi {T : String} {x : V} {d : D} {b : Bool} {pins : List (Addr × Obj)} {σ : L2.St} {s : Shared} {u : Value} {Q : Value → Shared → Prop} {E : Value → Shared → Prop} (I : Inv X pins σ H s) (h : Rep S H d x) (r : RelV x u) (e : isiD T d = some b)
    (q : ∀ tk, Q (.bool b) { s with toks := tk }) : wpAny (model X.prog X.w) X.A (call (.builtin "isinstance") [u, .type T]) Q E s := by
  obtain ⟨as, rd⟩ := h.reads I r
  unfold isiD at e
  split at e
  · rename_i z
    subst z
    cases e
    exact PySem.W.isinstance_int_data rd fun tk _ => q tk
  · split at e
    · rename_i z
      subst z
      cases e
      exact PySem.W.isinstance_bool_data rd fun tk _ => q tk
    · split at e
      · rename_i z
        subst z
        cases e
        exact PySem.W.isinstance_str_data rd fun tk _ => q tk
      · split at e
        · rename_i z
          subst z
          cases e
          exact PySem.W.isinstance_tuple_data rd fun tk _ => q tk
        · split at e
          · rename_i z
            subst z
            cases e
            exact PySem.W.isinstance_list_data rd fun tk _ => q tk
          · cases e
def rM (F : D → D → Option D) : V → List V → Hp → VK → Prop := fun x xs H Q => ∃ S d1 d2 d y, xs = [y] ∧ Rep S H d1 x ∧ Rep S H d2 y ∧ F d1 d2 = some d ∧ leaf d = true ∧ ∀ v H', Same H H' → Rep (Nw S H) H' d v → Q v H'
theorem om_count (hu : X.A.units + 64 < cLine) : MtR X "list.count" (fun x xs H Q => (∃ ys S, Rep S H (.list ys) x) ∧ rM (mtD .count) x xs H Q) := by
  intro pins s σ H x xs v us Q I rx rs h
  obtain ⟨_, S, d1, d2, d, y, rfl, h1, h2, e, _, q⟩ := h
  unfold mtD at e
  split at e
  · split at e
    · rename_i z
      obtain rfl := Option.some.inj e
      obtain ⟨p, vs, e1, _, e2, e3⟩ := h1.list_inv
      subst e1
      cases rx
      obtain ⟨its, rv, hl, hz⟩ := I.list (SqL.of e2)
      obtain ⟨as, hr⟩ := Dp.readsAll I _ vs its (RepA.dp _ _ e3) rv
      cases rs with
      | cons ry rt =>
        cases rt
        obtain ⟨bs, r2⟩ := h2.reads I ry
        exact SeqAt.count_list_data hl.isList (by simpa using hr) r2 (by simpa only [PyData.plain] using Rep.plain _ _ h1) (Rep.plain _ _ h2) (by omega) ⟨.int _, H, I.tok _, ⟨_, rfl⟩, q _ _ (Same.refl _) (.int _)⟩
    · cases e
  · exact absurd ‹Mt.count = Mt.index› (by decide)
  · cases e
end
end Mi
end
section
set_option maxRecDepth 100000
set_option maxHeartbeats 4000000
/-! What an expression's meaning says of the machine: the rules, one a construct. -/
namespace Mi
open PySem PySem.Spec PyProof.Rows L2

/-- a dict, locked or not -/
def dl : HO → Bool
  | .dT _ => true
  | .dK _ => true
  | .frz _ (.dT _) => true
  | .frz _ (.dK _) => true
  | _ => false
theorem dl_lst {o : HO} (h : dl o = true) (xs : List V) : o ≠ .lst xs := fun e => by
  subst e
  cases h
theorem dl_tbl {o : HO} (h : dl o = true) (xs : Array Value) : o ≠ .tbl xs := fun e => by
  subst e
  cases h
structure Ext (R : Addr) (H H' : Hp) : Prop where
  keep : ∀ a xs, a ≠ R → H a = some (.lst xs) → H' a = some (.lst xs)
  dk : ∀ a o, dl o = true → H a = some o → H' a = some o
  tups : ∀ a xs, H a = some (.tup xs) → H' a = some (.tup xs)
  thr : ∀ a, a ≠ R → H a ≠ none → H' a ≠ none
theorem Ext.refl (R : Addr) (H : Hp) : Ext R H H := ⟨fun _ _ _ h => h, fun _ _ _ h => h, fun _ _ h => h, fun _ _ h => h⟩
theorem Ext.trans {R : Addr} {H H1 H2 : Hp} (a : Ext R H H1) (b : Ext R H1 H2) : Ext R H H2 := ⟨fun c o n h => b.keep c o n (a.keep c o n h), fun c o m h => b.dk c o m (a.dk c o m h), fun c o h => b.tups c o (a.tups c o h), fun c n h => b.thr c n (a.thr c n h)⟩
theorem thr_same {H H' : Hp} (e : Same H H') (a : Addr) (h : H a ≠ none) : H' a ≠ none := by
  cases q : H a with
  | none => exact absurd q h
  | some o => rw [e _ _ q]; exact fun z => nomatch z
theorem Ext.same {R : Addr} {H H' : Hp} (e : Same H H') : Ext R H H' := ⟨fun c o _ h => e _ _ h, fun c o _ h => e _ _ h, fun c o h => e _ _ h, fun c _ h => thr_same e c h⟩
/-- clash's code object and its table, where the text has it -/
def csT (K : PySem.W.Frag) : List (Addr × Addr) := match PySem.W.nsIn K mainGlobals "clash" with
  | some (some (.ref _)) => [He.cT K ("clash", none)]
  | _ => []
def tabT (K : PySem.W.Frag) : List (Addr × Str) := (csT K).map fun p => (p.2, "clash.<locals>.<lambda>")
theorem tabs_upd {T : List (Addr × Str)} {H : Hp} {D : Addr} {ys : List V} {o : HO} (hd : H D = some (.lst ys)) (h : LamX.Tabs T H) : LamX.Tabs T (upd H D o) := fun p hp => by
  obtain ⟨ps, h1, h2, h3⟩ := h p hp
  have ne : ∀ {b : Addr} {u : HO}, H b = some u → (∀ xs, u ≠ .lst xs) → b ≠ D := fun e n z => by
    rw [z, hd] at e
    exact n ys (Option.some.inj e).symm
  refine ⟨ps, by rw [upd_ne (ne h1 fun xs z => nomatch z)]; exact h1, h2, fun pos cv hc => ?_⟩
  obtain ⟨c, e1, e2⟩ := h3 pos cv hc
  exact ⟨c, e1, by rw [upd_ne (ne e2 fun xs z => by unfold LamX.CodeO at z; cases z)]; exact e2⟩
/-- the row: the script, a place, what is mixed, what is left of a great cell -/
def FrS (K : PySem.W.Frag) (H : Hp) (sc : Addr) (xs : List V) : Prop := (∃ o, H sc = some (.frz o (.lst xs))) ∨ SqL K (fun _ => none) sc xs
theorem FrS.seq {K : PySem.W.Frag} {H : Hp} {sc : Addr} {xs : List V} (h : FrS K H sc xs) : SqL K H sc xs := by
  rcases h with ⟨o, h⟩ | (h | ⟨o, h⟩) | h
  · exact .inl (.inr ⟨o, h⟩)
  · cases h
  · cases h
  · exact .inr h
def GR (K : PySem.W.Frag) (R sc : Addr) (H : Hp) (g : G) : Prop := H R = some (.lst [.ref sc, .int g.p, .int g.m, .int g.r]) ∧ FrS K H sc (g.ns.map V.int) ∧ LamX.Tabs (tabT K) H
theorem FrS.same {K : PySem.W.Frag} {H H' : Hp} {sc : Addr} {xs : List V} (e : Same H H') (h : FrS K H sc xs) : FrS K H' sc xs := by
  rcases h with ⟨o, h⟩ | h
  · exact .inl ⟨o, e _ _ h⟩
  · exact .inr h
theorem FrS.upd {K : PySem.W.Frag} {H : Hp} {sc D : Addr} {xs ys : List V} {o : HO} (h : FrS K H sc xs) (hd : H D = some (.lst ys)) : FrS K (upd H D o) sc xs := by
  rcases h with ⟨q, h⟩ | h
  · exact .inl ⟨q, by rw [upd_ne (ne_of h hd (fun z => by cases z))]; exact h⟩
  · exact .inr h
theorem GR.same {K : PySem.W.Frag} {R sc : Addr} {H H' : Hp} {g : G} (e : Same H H') (h : GR K R sc H g) : GR K R sc H' g := by
  obtain ⟨h1, h3, h4⟩ := h
  exact ⟨e _ _ h1, h3.same e, h4.ext e⟩
theorem GR.upd {K : PySem.W.Frag} {R sc D : Addr} {H : Hp} {g : G} {ys : List V} {o : HO} (h : GR K R sc H g) (hd : H D = some (.lst ys)) (hn : D ≠ R) : GR K R sc (upd H D o) g := by
  obtain ⟨h1, h3, h4⟩ := h
  exact ⟨by rw [upd_ne (Ne.symm hn)]; exact h1, h3.upd hd, tabs_upd hd h4⟩
structure TOk (R : Addr) (H : Hp) (T : Tag → Addr → Prop) : Prop where
  up1 : ∀ a, T .fr a → T .fz a
  up2 : ∀ a, T .fz a → T .bo a
  nr : ∀ t, ¬ T t R
  nw : ∀ a, H a = none → T .fr a
theorem TOk.le {R : Addr} {H : Hp} {T : Tag → Addr → Prop} (h : TOk R H T) (t u : Tag) (a : Addr) (x : T t a) : T (t.mx u) a := by
  cases t <;> cases u <;> simp only [Tag.mx] <;> first
    | exact x
    | exact h.up1 a x
    | exact h.up2 a x
    | exact h.up2 a (h.up1 a x)
theorem TOk.ri {R : Addr} {H : Hp} {T : Tag → Addr → Prop} (h : TOk R H T) (t u : Tag) (a : Addr) (x : T u a) : T (t.mx u) a := by
  cases t <;> cases u <;> simp only [Tag.mx] <;> first
    | exact x
    | exact h.up1 a x
    | exact h.up2 a x
    | exact h.up2 a (h.up1 a x)
theorem TOk.fr {R : Addr} {H : Hp} {T : Tag → Addr → Prop} (h : TOk R H T) (t : Tag) (a : Addr) (x : T .fr a) : T t a := by
  cases t with
  | fr => exact x
  | fz => exact h.up1 a x
  | bo => exact h.up2 a (h.up1 a x)
theorem TOk.nws {R : Addr} {H : Hp} {T : Tag → Addr → Prop} (h : TOk R H T) (t : Tag) (a : Addr) (x : H a = none) : T t a := h.fr t a (h.nw a x)
theorem Ext.none {R : Addr} {H H' : Hp} (e : Ext R H H') {a : Addr} (n : H' R ≠ none) (h : H' a = none) : H a = none := by
  cases q : H a with
  | none => rfl
  | some o =>
    by_cases z : a = R
    · subst z
      exact absurd h n
    · exact absurd h (e.thr a z (by rw [q]; exact fun y => nomatch y))
theorem GR.ne {K : PySem.W.Frag} {R sc : Addr} {H : Hp} {g : G} (h : GR K R sc H g) : H R ≠ none := by
  obtain ⟨h1, _⟩ := h
  rw [h1]
  exact fun z => nomatch z
theorem TOk.ext {R : Addr} {H H' : Hp} {T : Tag → Addr → Prop} (h : TOk R H T) (e : Ext R H H') (n : H' R ≠ none) : TOk R H' T := ⟨h.up1, h.up2, h.nr, fun a x => h.nw a (e.none n x)⟩
theorem Rep.ext {R : Addr} {H H' : Hp} {S : Addr → Prop} {d : D} {v : V} (e : Ext R H H') (hr : ¬ S R) (h : Rep S H d v) : Rep S H' d v :=
  Rep.mono (fun a xs h1 h2 => ⟨h1, e.keep a _ (fun z => hr (z ▸ h1)) h2⟩) (fun a xs h => e.tups a xs h) d v h
theorem RepA.ext {R : Addr} {H H' : Hp} {S : Addr → Prop} {d : List D} {v : List V} (e : Ext R H H') (hr : ¬ S R) (h : RepA S H d v) : RepA S H' d v :=
  RepA.mono (fun a xs h1 h2 => ⟨h1, e.keep a _ (fun z => hr (z ▸ h1)) h2⟩) (fun a xs h => e.tups a xs h) d v h
/-- what a dict holds -/
def RepK (S : Addr → Prop) (H : Hp) (es : List (List L2.Key × D)) (kvs : List (List L2.Key × V)) : Prop := Paired (fun p q => p.1 = q.1 ∧ Rep S H p.2 q.2) es kvs
theorem RepK.imp {S S' : Addr → Prop} {H H' : Hp} (f : ∀ d v, Rep S H d v → Rep S' H' d v) : ∀ {es : List (List L2.Key × D)} {kvs : List (List L2.Key × V)}, RepK S H es kvs → RepK S' H' es kvs
  | _, _, .nil => .nil
  | _, _, .cons h t => .cons ⟨h.1, f _ _ h.2⟩ (RepK.imp f t)
theorem Ext.rd {R : Addr} {H H' : Hp} (e : Ext R H H') {a : Addr} {kvs : List (List L2.Key × V)} (h : Rd H a (.dT kvs)) : Rd H' a (.dT kvs) := by
  rcases h with h | ⟨o, h⟩
  · exact .inl (e.dk _ _ rfl h)
  · exact .inr ⟨o, e.dk _ _ rfl h⟩
/-- a name's value -/
def SlX (R : Addr) (T : Tag → Addr → Prop) (H : Hp) (x : Option (Option V)) : Sx → Prop
  | .no => True
  | .row => x = some (some (.ref R))
  | .val d t => ∃ v, x = some (some v) ∧ Rep (T t) H d v
  | .dct es => ∃ a kvs, x = some (some (.ref a)) ∧ Rd H a (.dT kvs) ∧ RepK (T .bo) H es kvs
def SRx (R : Addr) (T : Tag → Addr → Prop) (ρ : Ex) (σ : L2.St) (H : Hp) : Prop := ∀ (i : Nat) (s : Sx), ρ[i]? = some s → SlX R T H σ[i]? s
theorem SlX.ext {R : Addr} {T : Tag → Addr → Prop} {H H' : Hp} {x : Option (Option V)} {s : Sx} (e : Ext R H H') (hr : ∀ t, ¬ T t R) (h : SlX R T H x s) : SlX R T H' x s := by
  cases s with
  | no => trivial
  | row => exact h
  | val d t =>
    obtain ⟨v, h1, h2⟩ := h
    exact ⟨v, h1, h2.ext e (hr t)⟩
  | dct es =>
    obtain ⟨a, kvs, h1, h2, h3⟩ := h
    exact ⟨a, kvs, h1, e.rd h2, h3.imp fun _ _ r => r.ext e (hr .bo)⟩
theorem SRx.ext {R : Addr} {T : Tag → Addr → Prop} {H H' : Hp} {ρ : Ex} {σ : L2.St} (e : Ext R H H') (hr : ∀ t, ¬ T t R) (h : SRx R T ρ σ H) : SRx R T ρ σ H' := fun i s hi => (h i s hi).ext e hr

abbrev Den := Ex → G → Option (D × Tag × G)
abbrev Dens := Ex → G → Option (List D × Tag × G)
def TEx (K : PySem.W.Frag) (F : Den) : TE := fun σ H Q => ∃ R sc T ρ g d t g', TOk R H T ∧ SRx R T ρ σ H ∧ GR K R sc H g ∧ F ρ g = some (d, t, g') ∧ ∀ v H', Ext R H H' → GR K R sc H' g' → Rep (T t) H' d v → Q v H'
def TAx (K : PySem.W.Frag) (F : Dens) : TA := fun σ H Q => ∃ R sc T ρ g ds t g', TOk R H T ∧ SRx R T ρ σ H ∧ GR K R sc H g ∧ F ρ g = some (ds, t, g') ∧ ∀ vs H', Ext R H H' → GR K R sc H' g' → RepA (T t) H' ds vs → Q vs H'
/-- a test's -/
def TTx (K : PySem.W.Frag) (F : Den) : TT := fun σ H Q => ∃ R sc T ρ g b t g', TOk R H T ∧ SRx R T ρ σ H ∧ GR K R sc H g ∧ F ρ g = some (.bool b, t, g') ∧ ∀ H', Ext R H H' → GR K R sc H' g' → Q b H'
theorem _root_.L2.PE.weak {X : Cx} {e : Expr} {t t' : TE} (h : PE X e t) (w : ∀ σ H Q, t' σ H Q → t σ H Q) : PE X e t' := ⟨fun pins s σ H Q I q => h.run pins s σ H Q I (w _ _ _ q)⟩
theorem _root_.L2.PT.weak {X : Cx} {e : Expr} {t t' : TT} (h : PT X e t) (w : ∀ σ H Q, t' σ H Q → t σ H Q) : PT X e t' := ⟨fun pins s σ H Q I q => h.run pins s σ H Q I (w _ _ _ q)⟩
theorem _root_.L2.PW.weak {X : Cx} {e : Expr} {t t' : TT} (h : PW X e t) (w : ∀ σ H Q, t' σ H Q → t σ H Q) : PW X e t' := ⟨fun wh pins s σ H Q I q => h.run wh pins s σ H Q I (w _ _ _ q)⟩
theorem _root_.L2.PA.weak {X : Cx} {e : List Expr} {t t' : TA} (h : PA X e t) (w : ∀ σ H Q, t' σ H Q → t σ H Q) : PA X e t' := ⟨fun pos pins s σ H Q I q => h.run pos pins s σ H Q I (w _ _ _ q)⟩

section
variable {X : Cx} {a b c : Expr} {F F' F'' : Den} {pos : Pos}
/-! ### leaves -/
theorem me_cst {e : Expr} {v : V} {d : D} (h : PE X e (tC v)) (r : ∀ S H, Rep S H d v) : PE X e (TEx X.K fun _ g => some (d, .fr, g)) := h.weak fun σ H Q ⟨R, sc, T, ρ, g, d', t, g', ok, sr, gr, e, q⟩ => by
  cases e
  exact q v H (Ext.refl R H) gr (r _ _)
theorem rep_nrm {T : Tag → Addr → Prop} {H : Hp} {d : D} {t : Tag} {v : V} (h : Rep (T t) H d v) : Rep (T (nrm d t)) H d v := by
  unfold nrm
  split
  · exact Rep.lf _ _ (by assumption) h
  · exact h
def varF (i : Nat) : Den := fun ρ g => match ρ[i]? with
    | some (.val d t) => some (d, nrm d t, g)
    | _ => none
theorem me_var {i : Nat} {e : Expr} (h : PE X e (tVar i)) : PE X e (TEx X.K (varF i)) := h.weak fun σ H Q ⟨R, sc, T, ρ, g, d, t, g', ok, sr, gr, e, q⟩ => by
  unfold varF at e
  cases z : ρ[i]? with
  | none => rw [z] at e; cases e
  | some s =>
    rw [z] at e
    cases s with
    | no => cases e
    | row => cases e
    | dct _ => cases e
    | val d' t' =>
      cases e
      obtain ⟨v, h1, h2⟩ := sr i _ z
      exact ⟨v, h1, q v H (Ext.refl R H) gr (rep_nrm h2)⟩
/-! ### operators -/
def opF (f : D → D → Option D) (F F' : Den) : Den := fun ρ g => match F ρ g with
    | none => none
    | some (x, t, g1) => match F' ρ g1 with
      | none => none
      | some (y, u, g2) => match f x y with
        | none => none
        | some d => some (d, nrm d (t.mx u), g2)
theorem me_op2 {e : Expr} {f : D → D → Option D} (h : PE X e (tOp (rD2 f) (TEx X.K F) (TEx X.K F'))) : PE X e (TEx X.K (opF f F F')) := h.weak fun σ H Q ⟨R, sc, T, ρ, g, d, t, g', ok, sr, gr, e, q⟩ => by
  unfold opF at e
  cases e1 : F ρ g with
  | none => rw [e1] at e; cases e
  | some p =>
    obtain ⟨x, t1, g1⟩ := p
    rw [e1] at e
    dsimp only at e
    cases e2 : F' ρ g1 with
    | none => rw [e2] at e; cases e
    | some p =>
      obtain ⟨y, t2, g2⟩ := p
      rw [e2] at e
      dsimp only at e
      cases e3 : f x y with
      | none => rw [e3] at e; cases e
      | some d' =>
        rw [e3] at e
        cases e
        refine ⟨R, sc, T, ρ, g, x, t1, g1, ok, sr, gr, e1, fun v H1 x1 gr1 r1 => ?_⟩
        refine ⟨R, sc, T, ρ, g1, y, t2, _, ok.ext x1 gr1.ne, sr.ext x1 ok.nr, gr1, e2, fun u H2 x2 gr2 r2 => ?_⟩
        refine ⟨T (t1.mx t2), x, y, d, (r1.ext x2 (ok.nr _)).sub (ok.le t1 t2), r2.sub (ok.ri t1 t2), e3, fun w H3 sm r3 => ?_⟩
        have ok2 := (ok.ext x1 gr1.ne).ext x2 gr2.ne
        refine q w H3 (x1.trans (x2.trans (Ext.same sm))) (gr2.same sm) (rep_nrm (r3.sub fun a z => ?_))
        rcases z with z | z
        · exact z
        · exact ok2.nws _ a z
def negF (F : Den) : Den := fun ρ g => match F ρ g with
    | some (.int i, _, g1) => some (.int (-i), .fr, g1)
    | _ => none
theorem me_neg (h : PE X a (TEx X.K F)) : PE X (.UnaryOp .USub a pos) (TEx X.K (negF F)) := (pe_un un_neg h).weak fun σ H Q ⟨R, sc, T, ρ, g, d, t, g', ok, sr, gr, e, q⟩ => by
  unfold negF at e
  split at e
  · rename_i i u g1 e1
    cases e
    exact ⟨R, sc, T, ρ, g, _, _, _, ok, sr, gr, e1, fun v H1 x1 gr1 r1 => ⟨i, r1.int_inv, q _ _ x1 gr1 (.int _)⟩⟩
  · cases e
def notF (F : Den) : Den := fun ρ g => match F ρ g with
    | some (.bool b, _, g1) => some (.bool (!b), .fr, g1)
    | _ => none
theorem me_not (h : PE X a (TEx X.K F)) : PE X (.UnaryOp .Not a pos) (TEx X.K (notF F)) := (pe_not h).weak fun σ H Q ⟨R, sc, T, ρ, g, d, t, g', ok, sr, gr, e, q⟩ => by
  unfold notF at e
  split at e
  · rename_i i u g1 e1
    cases e
    exact ⟨R, sc, T, ρ, g, _, _, _, ok, sr, gr, e1, fun v H1 x1 gr1 r1 => ⟨i, r1.bool_inv, q _ _ x1 gr1 (.bool _)⟩⟩
  · cases e
theorem mt_not (h : PT X a (TTx X.K F)) : PT X (.UnaryOp .Not a pos) (TTx X.K (notF F)) := (pt_not h).weak fun σ H Q ⟨R, sc, T, ρ, g, b, t, g', ok, sr, gr, e, q⟩ => by
  unfold notF at e
  split at e
  · rename_i i u g1 e1
    cases e
    exact ⟨R, sc, T, ρ, g, _, _, _, ok, sr, gr, e1, fun H1 x1 gr1 => q _ x1 gr1⟩
  · cases e
def andF (F F' : Den) : Den := fun ρ g => match F ρ g with
    | some (.bool c, _, g1) => if c then F' ρ g1 else some (.bool false, .fr, g1)
    | _ => none
def orF (F F' : Den) : Den := fun ρ g => match F ρ g with
    | some (.bool c, _, g1) => if c then some (.bool true, .fr, g1) else F' ρ g1
    | _ => none
variable {rest : List Expr}
theorem me_and (h : PE X a (TEx X.K F)) (h' : PE X (.BoolOp .And (b :: rest) pos) (TEx X.K F')) : PE X (.BoolOp .And (a :: b :: rest) pos) (TEx X.K (andF F F')) := (pe_and h h').weak fun σ H Q ⟨R, sc, T, ρ, g, d, t, g', ok, sr, gr, e, q⟩ => by
  unfold andF at e
  split at e
  · rename_i c u g1 e1
    refine ⟨R, sc, T, ρ, g, _, _, _, ok, sr, gr, e1, fun v H1 x1 gr1 r1 => ⟨c, r1.bool_inv, ?_⟩⟩
    cases c with
    | true => exact ⟨R, sc, T, ρ, g1, d, t, g', ok.ext x1 gr1.ne, sr.ext x1 ok.nr, gr1, e, fun v H2 x2 gr2 r2 => q v H2 (x1.trans x2) gr2 r2⟩
    | false =>
      cases e
      exact q _ _ x1 gr1 (.bool _)
  · cases e
theorem me_or (h : PE X a (TEx X.K F)) (h' : PE X (.BoolOp .Or (b :: rest) pos) (TEx X.K F')) : PE X (.BoolOp .Or (a :: b :: rest) pos) (TEx X.K (orF F F')) := (pe_or h h').weak fun σ H Q ⟨R, sc, T, ρ, g, d, t, g', ok, sr, gr, e, q⟩ => by
  unfold orF at e
  split at e
  · rename_i c u g1 e1
    refine ⟨R, sc, T, ρ, g, _, _, _, ok, sr, gr, e1, fun v H1 x1 gr1 r1 => ⟨c, r1.bool_inv, ?_⟩⟩
    cases c with
    | false => exact ⟨R, sc, T, ρ, g1, d, t, g', ok.ext x1 gr1.ne, sr.ext x1 ok.nr, gr1, e, fun v H2 x2 gr2 r2 => q v H2 (x1.trans x2) gr2 r2⟩
    | true =>
      cases e
      exact q _ _ x1 gr1 (.bool _)
  · cases e
theorem mt_and (h : PT X a (TTx X.K F)) (h' : PW X (.BoolOp .And (b :: rest) pos) (TTx X.K F')) : PW X (.BoolOp .And (a :: b :: rest) pos) (TTx X.K (andF F F')) := (pw_and h h').weak fun σ H Q ⟨R, sc, T, ρ, g, d, t, g', ok, sr, gr, e, q⟩ => by
  unfold andF at e
  split at e
  · rename_i c u g1 e1
    refine ⟨R, sc, T, ρ, g, _, _, _, ok, sr, gr, e1, fun H1 x1 gr1 => ?_⟩
    cases c with
    | true => exact iteT ⟨R, sc, T, ρ, g1, d, t, g', ok.ext x1 gr1.ne, sr.ext x1 ok.nr, gr1, e, fun H2 x2 gr2 => q H2 (x1.trans x2) gr2⟩
    | false =>
      cases e
      exact iteF (q _ x1 gr1)
  · cases e
theorem mt_or (h : PT X a (TTx X.K F)) (h' : PW X (.BoolOp .Or (b :: rest) pos) (TTx X.K F')) : PW X (.BoolOp .Or (a :: b :: rest) pos) (TTx X.K (orF F F')) := (pw_or h h').weak fun σ H Q ⟨R, sc, T, ρ, g, d, t, g', ok, sr, gr, e, q⟩ => by
  unfold orF at e
  split at e
  · rename_i c u g1 e1
    refine ⟨R, sc, T, ρ, g, _, _, _, ok, sr, gr, e1, fun H1 x1 gr1 => ?_⟩
    cases c with
    | false => exact iteF ⟨R, sc, T, ρ, g1, d, t, g', ok.ext x1 gr1.ne, sr.ext x1 ok.nr, gr1, e, fun H2 x2 gr2 => q H2 (x1.trans x2) gr2⟩
    | true =>
      cases e
      exact iteT (q _ x1 gr1)
  · cases e
/-- an expression that is True or False, as a test -/
theorem mt_val {e : Expr} (h : PE X e (TEx X.K F)) (he : ∀ whole, isTrue e X.env whole = (do let v ← whole; standAt e.pos; holding [v] (truthy v))) : PT X e (TTx X.K F) := (pt_val h he).weak fun σ H Q ⟨R, sc, T, ρ, g, b, t, g', ok, sr, gr, e, q⟩ =>
  ⟨R, sc, T, ρ, g, _, _, _, ok, sr, gr, e, fun v H1 x1 gr1 r1 => ⟨b, r1.bool_inv, q _ x1 gr1⟩⟩
/-! ### comparisons -/
def cmpF (f : D → D → Option Bool) (F F' : Den) : Den := fun ρ g => match F ρ g with
    | none => none
    | some (x, _, g1) => match F' ρ g1 with
      | none => none
      | some (y, _, g2) => match f x y with
        | none => none
        | some r => some (.bool r, .fr, g2)
theorem cmp_gen {f : D → D → Option Bool} {σ : L2.St} {H : Hp} {Q : Bool → Hp → Prop} {R sc T ρ g b t g'} (ok : TOk R H T) (sr : SRx R T ρ σ H) (gr : GR X.K R sc H g) (e : cmpF f F F' ρ g = some (.bool b, t, g')) (q : ∀ H', Ext R H H' → GR X.K R sc H' g' → Q b H') :
    (TEx X.K F) σ H fun x H1 => (TEx X.K F') σ H1 fun y H2 => rB2 f x y H2 fun z H3 => ∃ k, z = .bl k ∧ Q k H3 := by
  unfold cmpF at e
  cases e1 : F ρ g with
  | none => rw [e1] at e; cases e
  | some p =>
    obtain ⟨x, t1, g1⟩ := p
    rw [e1] at e
    dsimp only at e
    cases e2 : F' ρ g1 with
    | none => rw [e2] at e; cases e
    | some p =>
      obtain ⟨y, t2, g2⟩ := p
      rw [e2] at e
      dsimp only at e
      cases e3 : f x y with
      | none => rw [e3] at e; cases e
      | some d' =>
        rw [e3] at e
        cases e
        refine ⟨R, sc, T, ρ, g, x, t1, g1, ok, sr, gr, e1, fun v H1 x1 gr1 r1 => ?_⟩
        refine ⟨R, sc, T, ρ, g1, y, t2, _, ok.ext x1 gr1.ne, sr.ext x1 ok.nr, gr1, e2, fun u H2 x2 gr2 r2 => ?_⟩
        exact ⟨T (t1.mx t2), x, y, b, (r1.ext x2 (ok.nr _)).sub (ok.le t1 t2), r2.sub (ok.ri t1 t2), e3, b, rfl, q H2 (x1.trans x2) gr2⟩
theorem cmpF_b {f : D → D → Option Bool} {ρ g d t g'} (e : cmpF f F F' ρ g = some (d, t, g')) : ∃ b, d = .bool b := by
  unfold cmpF at e
  split at e
  · cases e
  · split at e
    · cases e
    · split at e
      · cases e
      · cases e
        exact ⟨_, rfl⟩
theorem TEx.mono {σ : L2.St} {H : Hp} {Q Q' : VK} (w : ∀ v H, Q v H → Q' v H) (h : TEx X.K F σ H Q) : TEx X.K F σ H Q' := by
  obtain ⟨R, sc, T, ρ, g, d, t, g', ok, sr, gr, e, q⟩ := h
  exact ⟨R, sc, T, ρ, g, d, t, g', ok, sr, gr, e, fun v H' a b c => w _ _ (q v H' a b c)⟩
theorem rB2.mono {f : D → D → Option Bool} {x y : V} {H : Hp} {Q Q' : VK} (w : ∀ v H, Q v H → Q' v H) (h : rB2 f x y H Q) : rB2 f x y H Q' := by
  obtain ⟨S, d1, d2, b, h1, h2, e, q⟩ := h
  exact ⟨S, d1, d2, b, h1, h2, e, w _ _ q⟩
theorem me_cmp {op : CmpOp} {f : D → D → Option Bool} (ho : OpR X (compareOp op) (rB2 f)) (h : PE X a (TEx X.K F)) (h' : PE X b (TEx X.K F')) (hm : behindInMarks op b = false) : PE X (.Compare a [op] [b] pos) (TEx X.K (cmpF f F F')) :=
  (pe_cmpR ho h h' hm).weak fun σ H Q ⟨R, sc, T, ρ, g, d, t, g', ok, sr, gr, e, q⟩ => by
    obtain ⟨b, rfl⟩ := cmpF_b e
    refine TEx.mono (fun _ _ z => TEx.mono (fun _ _ z => rB2.mono (fun _ _ z => ?_) z) z) (cmp_gen (Q := fun k H => Q (.bl k) H) ok sr gr e fun H' x1 gr1 => q (.bl b) H' x1 gr1 (.bool _))
    obtain ⟨k, rfl, z⟩ := z
    exact z
theorem mt_cmp {op : CmpOp} {f : D → D → Option Bool} (ho : OpR X (compareOp op) (rB2 f)) (h : PE X a (TEx X.K F)) (h' : PE X b (TEx X.K F')) (hm : behindInMarks op b = false) : PT X (.Compare a [op] [b] pos) (TTx X.K (cmpF f F F')) :=
  (pt_cmpR ho h h' hm).weak fun σ H Q ⟨R, sc, T, ρ, g, b, t, g', ok, sr, gr, e, q⟩ => cmp_gen ok sr gr e q
end
end Mi
end
section
set_option maxRecDepth 100000
set_option maxHeartbeats 4000000
/-! More rules: chains, displays, items, slices, calls, the row. -/
namespace Mi
open PySem PySem.Spec PyProof.Rows L2
section
variable {X : Cx} {a b c : Expr} {F F' F'' : Den} {pos : Pos}
def chnF (f f' : D → D → Option Bool) (F F' F'' : Den) : Den := fun ρ g => match F ρ g with
    | none => none
    | some (x, _, g1) => match F' ρ g1 with
      | none => none
      | some (y, _, g2) => match f x y with
        | none => none
        | some false => some (.bool false, .fr, g2)
        | some true => match F'' ρ g2 with
          | none => none
          | some (z, _, g3) => match f' y z with
            | none => none
            | some r => some (.bool r, .fr, g3)
theorem chn_gen {f f' : D → D → Option Bool} {σ : L2.St} {H : Hp} {Q : VK} {R sc T ρ g d t g'} (ok : TOk R H T) (sr : SRx R T ρ σ H) (gr : GR X.K R sc H g) (e : chnF f f' F F' F'' ρ g = some (d, t, g')) (q : ∀ b H', d = .bool b → Ext R H H' → GR X.K R sc H' g' → Q (.bl b) H') :
    tChain (rB2 f) (rB2 f') (TEx X.K F) (TEx X.K F') (TEx X.K F'') σ H Q := by
  unfold chnF at e
  cases e1 : F ρ g with
  | none => rw [e1] at e; cases e
  | some p =>
    obtain ⟨x, t1, g1⟩ := p
    rw [e1] at e
    dsimp only at e
    cases e2 : F' ρ g1 with
    | none => rw [e2] at e; cases e
    | some p =>
      obtain ⟨y, t2, g2⟩ := p
      rw [e2] at e
      dsimp only at e
      cases e3 : f x y with
      | none => rw [e3] at e; cases e
      | some b =>
        rw [e3] at e
        refine ⟨R, sc, T, ρ, g, x, t1, g1, ok, sr, gr, e1, fun v H1 x1 gr1 r1 => ?_⟩
        have ok1 := ok.ext x1 gr1.ne
        refine ⟨R, sc, T, ρ, g1, y, t2, g2, ok1, sr.ext x1 ok.nr, gr1, e2, fun u H2 x2 gr2 r2 => ?_⟩
        have ok2 := ok1.ext x2 gr2.ne
        refine ⟨T (t1.mx t2), x, y, b, (r1.ext x2 (ok.nr _)).sub (ok.le t1 t2), r2.sub (ok.ri t1 t2), e3, b, rfl, ?_⟩
        cases b with
        | false =>
          cases e
          exact iteF (q false _ rfl (x1.trans x2) gr2)
        | true =>
          dsimp only at e
          cases e4 : F'' ρ g2 with
          | none => rw [e4] at e; cases e
          | some p =>
            obtain ⟨z, t3, g3⟩ := p
            rw [e4] at e
            dsimp only at e
            cases e5 : f' y z with
            | none => rw [e5] at e; cases e
            | some k =>
              rw [e5] at e
              cases e
              refine iteT ⟨R, sc, T, ρ, g2, z, t3, _, ok2, (sr.ext x1 ok.nr).ext x2 ok.nr, gr2, e4, fun w H3 x3 gr3 r3 => ?_⟩
              exact ⟨T (t2.mx t3), y, z, k, (r2.ext x3 (ok.nr _)).sub (ok.le t2 t3), r3.sub (ok.ri t2 t3), e5, q k _ rfl (x1.trans (x2.trans x3)) gr3⟩
theorem me_chn {op op' : CmpOp} {f f' : D → D → Option Bool} (ho : OpR X (compareOp op) (rB2 f)) (ho' : OpR X (compareOp op') (rB2 f')) (h : PE X a (TEx X.K F)) (h' : PE X b (TEx X.K F')) (h'' : PE X c (TEx X.K F''))
    (hm : lastMarks [op, op'] [b, c] = false) : PE X (.Compare a [op, op'] [b, c] pos) (TEx X.K (chnF f f' F F' F'')) := (pe_chain ho ho' h h' h'' hm).weak fun σ H Q ⟨R, sc, T, ρ, g, d, t, g', ok, sr, gr, e, q⟩ =>
  chn_gen ok sr gr e fun b H' ed x1 gr1 => q _ H' x1 gr1 (by rw [ed]; exact .bool _)
theorem mt_chn {op op' : CmpOp} {f f' : D → D → Option Bool} (ho : OpR X (compareOp op) (rB2 f)) (ho' : OpR X (compareOp op') (rB2 f')) (h : PE X a (TEx X.K F)) (h' : PE X b (TEx X.K F')) (h'' : PE X c (TEx X.K F''))
    (hm : lastMarks [op, op'] [b, c] = false) : PT X (.Compare a [op, op'] [b, c] pos) (TTx X.K (chnF f f' F F' F'')) := (pt_chain ho ho' h h' h'' hm).weak fun σ H Q ⟨R, sc, T, ρ, g, d, t, g', ok, sr, gr, e, q⟩ =>
  chn_gen ok sr gr e fun b H' ed x1 gr1 => ⟨b, rfl, by cases ed; exact q _ x1 gr1⟩
/-! ### is None -/
def isNF (neg : Bool) (F : Den) : Den := fun ρ g => match F ρ g with
    | some (d, _, g1) => some (.bool (isNone d != neg), .fr, g1)
    | none => none
theorem rep_isN {S : Addr → Prop} {H : Hp} {d : D} {v : V} (h : Rep S H d v) : decide (v = .non) = isNone d := by
  cases d with
  | none => rw [h.none_inv]; rfl
  | bool b => rw [h.bool_inv]; rfl
  | int b => rw [h.int_inv]; rfl
  | str b => rw [h.str_inv]; rfl
  | tuple ds => obtain ⟨a, vs, e, _⟩ := h.tuple_inv; rw [e]; rfl
  | list ds => obtain ⟨a, vs, e, _⟩ := h.list_inv; rw [e]; rfl
  | dict l => exact h.dict_inv.elim
theorem isN_gen {neg : Bool} {σ : L2.St} {H : Hp} {Q : VK} {R sc T ρ g d t g'} (ok : TOk R H T) (sr : SRx R T ρ σ H) (gr : GR X.K R sc H g) (e : isNF neg F ρ g = some (d, t, g')) (q : ∀ b H', d = .bool b → Ext R H H' → GR X.K R sc H' g' → Q (.bl b) H') :
    (TEx X.K F) σ H fun x H1 => Q (.bl (decide (x = .non) != neg)) H1 := by
  unfold isNF at e
  split at e
  · rename_i d1 t1 g1 e1
    cases e
    refine ⟨R, sc, T, ρ, g, _, _, _, ok, sr, gr, e1, fun v H1 x1 gr1 r1 => ?_⟩
    show Q (V.bl (decide (v = V.non) != neg)) H1
    rw [rep_isN r1]
    exact q _ _ rfl x1 gr1
  · cases e
theorem me_isN {j pos'} (h : PE X a (TEx X.K F)) : PE X (.Compare a [.Is] [.Constant .none j pos'] pos) (TEx X.K (isNF false F)) := (pe_cmp (pc_isN h)).weak fun σ H Q ⟨R, sc, T, ρ, g, d, t, g', ok, sr, gr, e, q⟩ => by
  have := isN_gen ok sr gr e fun b H' ed x1 gr1 => q _ H' x1 gr1 (by rw [ed]; exact .bool _)
  simp only [Bool.bne_false] at this
  exact this
theorem mt_isN {j pos'} (h : PE X a (TEx X.K F)) : PT X (.Compare a [.Is] [.Constant .none j pos'] pos) (TTx X.K (isNF false F)) := (pt_cmp (pc_isN h)).weak fun σ H Q ⟨R, sc, T, ρ, g, d, t, g', ok, sr, gr, e, q⟩ => by
  have := isN_gen (Q := fun x H1 => ∃ c, x = .bl c ∧ Q c H1) ok sr gr e fun b H' ed x1 gr1 => ⟨b, rfl, by cases ed; exact q H' x1 gr1⟩
  simp only [Bool.bne_false] at this
  exact this
theorem me_noN {j pos'} (h : PE X a (TEx X.K F)) : PE X (.Compare a [.IsNot] [.Constant .none j pos'] pos) (TEx X.K (isNF true F)) := (pe_cmp (pc_notN h)).weak fun σ H Q ⟨R, sc, T, ρ, g, d, t, g', ok, sr, gr, e, q⟩ => by
  have := isN_gen ok sr gr e fun b H' ed x1 gr1 => q _ H' x1 gr1 (by rw [ed]; exact .bool _)
  simp only [Bool.bne_true] at this
  exact this
theorem mt_noN {j pos'} (h : PE X a (TEx X.K F)) : PT X (.Compare a [.IsNot] [.Constant .none j pos'] pos) (TTx X.K (isNF true F)) := (pt_cmp (pc_notN h)).weak fun σ H Q ⟨R, sc, T, ρ, g, d, t, g', ok, sr, gr, e, q⟩ => by
  have := isN_gen (Q := fun x H1 => ∃ c, x = .bl c ∧ Q c H1) ok sr gr e fun b H' ed x1 gr1 => ⟨b, rfl, by cases ed; exact q H' x1 gr1⟩
  simp only [Bool.bne_true] at this
  exact this
/-! ### a if c else b -/
def iteF3 (F F' F'' : Den) : Den := fun ρ g => match F ρ g with
    | some (.bool k, _, g1) => if k then F' ρ g1 else F'' ρ g1
    | _ => none
theorem me_ite (h : PT X c (TTx X.K F)) (h' : PE X a (TEx X.K F')) (h'' : PE X b (TEx X.K F'')) : PE X (.IfExp c a b pos) (TEx X.K (iteF3 F F' F'')) := (pe_ifExp h h' h'').weak fun σ H Q ⟨R, sc, T, ρ, g, d, t, g', ok, sr, gr, e, q⟩ => by
  unfold iteF3 at e
  split at e
  · rename_i k u g1 e1
    refine ⟨R, sc, T, ρ, g, _, _, _, ok, sr, gr, e1, fun H1 x1 gr1 => ?_⟩
    have ok1 := ok.ext x1 gr1.ne
    cases k with
    | true => exact iteT ⟨R, sc, T, ρ, g1, d, t, g', ok1, sr.ext x1 ok.nr, gr1, e, fun v H2 x2 gr2 r2 => q v H2 (x1.trans x2) gr2 r2⟩
    | false => exact iteF ⟨R, sc, T, ρ, g1, d, t, g', ok1, sr.ext x1 ok.nr, gr1, e, fun v H2 x2 gr2 r2 => q v H2 (x1.trans x2) gr2 r2⟩
  · cases e
/-! ### arguments, displays -/
variable {es : List Expr} {A A' : Dens}
def nilA : Dens := fun _ g => some ([], .fr, g)
def consA (F : Den) (A : Dens) : Dens := fun ρ g => match F ρ g with
    | none => none
    | some (d, t, g1) => match A ρ g1 with
      | none => none
      | some (ds, u, g2) => some (d :: ds, t.mx u, g2)
theorem ma_nil : PA X [] (TAx X.K nilA) := pa_nil.weak fun σ H Q ⟨R, sc, T, ρ, g, ds, t, g', ok, sr, gr, e, q⟩ => by
  cases e
  exact q _ _ (Ext.refl _ _) gr .nil
theorem ma_cons (h : PE X a (TEx X.K F)) (h' : PA X es (TAx X.K A)) (hs : starEach (a :: es) X.env = (false, eval a X.env) :: starEach es X.env) : PA X (a :: es) (TAx X.K (consA F A)) :=
  (pa_cons h h' hs).weak fun σ H Q ⟨R, sc, T, ρ, g, ds, t, g', ok, sr, gr, e, q⟩ => by
    unfold consA at e
    cases e1 : F ρ g with
    | none => rw [e1] at e; cases e
    | some p =>
      obtain ⟨x, t1, g1⟩ := p
      rw [e1] at e
      dsimp only at e
      cases e2 : A ρ g1 with
      | none => rw [e2] at e; cases e
      | some p =>
        obtain ⟨ys, t2, g2⟩ := p
        rw [e2] at e
        cases e
        refine ⟨R, sc, T, ρ, g, x, t1, g1, ok, sr, gr, e1, fun v H1 x1 gr1 r1 => ?_⟩
        refine ⟨R, sc, T, ρ, g1, ys, t2, _, ok.ext x1 gr1.ne, sr.ext x1 ok.nr, gr1, e2, fun vs H2 x2 gr2 r2 => ?_⟩
        exact q _ _ (x1.trans x2) gr2 (.cons ((r1.ext x2 (ok.nr _)).sub (ok.le t1 t2)) (r2.sub (ok.ri t1 t2)))
def tupF (A : Dens) : Den := fun ρ g => match A ρ g with
    | some (ds, t, g1) => if ds.length ≤ LINE then some (.tuple ds, t, g1) else none
    | none => none
def lstF (A : Dens) : Den := fun ρ g => match A ρ g with
    | some (ds, t, g1) => if ds.length ≤ LINE then some (.list ds, t, g1) else none
    | none => none
theorem me_tup {k} (h : PA X es (TAx X.K A)) : PE X (.Tuple es k pos) (TEx X.K (tupF A)) := (pe_tup h).weak fun σ H Q ⟨R, sc, T, ρ, g, d, t, g', ok, sr, gr, e, q⟩ => by
  unfold tupF at e
  split at e
  · rename_i ds u g1 e1
    split at e
    · rename_i z
      cases e
      refine ⟨R, sc, T, ρ, g, _, _, _, ok, sr, gr, e1, fun vs H1 x1 gr1 r1 => ⟨by rw [r1.length, line_eq]; exact z, fun p np => ?_⟩⟩
      obtain ⟨s1, r2⟩ := new_tup np r1
      have ok1 := ok.ext x1 gr1.ne
      refine q _ _ (x1.trans (Ext.same s1)) (gr1.same s1) (r2.sub fun a z => ?_)
      rcases z with z | z
      · exact z
      · exact ok1.nws _ a z
    · cases e
  · cases e
theorem me_lst (h : PA X es (TAx X.K A)) : PE X (.List es pos) (TEx X.K (lstF A)) := (pe_lst h).weak fun σ H Q ⟨R, sc, T, ρ, g, d, t, g', ok, sr, gr, e, q⟩ => by
  unfold lstF at e
  split at e
  · rename_i ds u g1 e1
    split at e
    · rename_i z
      cases e
      refine ⟨R, sc, T, ρ, g, _, _, _, ok, sr, gr, e1, fun vs H1 x1 gr1 r1 => ⟨by rw [r1.length, line_eq]; exact z, fun p np => ?_⟩⟩
      obtain ⟨s1, r2⟩ := new_list np r1
      have ok1 := ok.ext x1 gr1.ne
      refine q _ _ (x1.trans (Ext.same s1)) (gr1.same s1) (r2.sub fun a z => ?_)
      rcases z with z | z
      · exact z
      · exact ok1.nws _ a z
    · cases e
  · cases e
/-! ### items and slices -/
def subF (F F' : Den) : Den := fun ρ g => match F ρ g with
      | none => none
      | some (x, t, g1) => match F' ρ g1 with
        | none => none
        | some (y, _, g2) => match idxD x y with
          | none => none
          | some d => some (d, nrm d t, g2)
theorem leaf_idx {x y d : D} (e : idxD x y = some d) : ∃ i, y = .int i := by
  unfold idxD at e
  split at e <;> first
    | exact ⟨_, rfl⟩
    | cases e
theorem me_sub (h : PE X a (TEx X.K F)) (h' : PE X b (TEx X.K F')) (hs : PlainIx b) : PE X (.Subscript a b pos) (TEx X.K (subF F F')) := (pe_ix ox_idx h h' hs).weak fun σ H Q ⟨R, sc, T, ρ, g, d, t, g', ok, sr, gr, e, q⟩ => by
  unfold subF at e
  cases e1 : F ρ g with
  | none => rw [e1] at e; cases e
  | some p =>
    obtain ⟨x, t1, g1⟩ := p
    rw [e1] at e
    dsimp only at e
    cases e2 : F' ρ g1 with
    | none => rw [e2] at e; cases e
    | some p =>
      obtain ⟨y, t2, g2⟩ := p
      rw [e2] at e
      dsimp only at e
      cases e3 : idxD x y with
      | none => rw [e3] at e; cases e
      | some d' =>
        rw [e3] at e
        cases e
        refine ⟨R, sc, T, ρ, g, x, t1, g1, ok, sr, gr, e1, fun v H1 x1 gr1 r1 => ?_⟩
        have ok1 := ok.ext x1 gr1.ne
        refine ⟨R, sc, T, ρ, g1, y, t2, _, ok1, sr.ext x1 ok.nr, gr1, e2, fun u H2 x2 gr2 r2 => ?_⟩
        have ok2 := ok1.ext x2 gr2.ne
        obtain ⟨i, rfl⟩ := leaf_idx e3
        refine ⟨T t1, x, .int i, d, r1.ext x2 (ok.nr _), Rep.leaf rfl r2, e3, fun w H3 sm r3 => ?_⟩
        refine q w H3 (x1.trans (x2.trans (Ext.same sm))) (gr2.same sm) (rep_nrm (r3.sub fun a z => ?_))
        rcases z with z | z
        · exact z
        · exact ok2.nws _ a z
abbrev Denp := Ex → G → Option (Option Int × G)
def TOx (K : PySem.W.Frag) (F : Denp) : TO := fun σ H Q => ∃ R sc T ρ g o g', TOk R H T ∧ SRx R T ρ σ H ∧ GR K R sc H g ∧ F ρ g = some (o, g') ∧ ∀ H', Ext R H H' → GR K R sc H' g' → Q o H'
def noP : Denp := fun _ g => some (none, g)
def someP (F : Den) : Denp := fun ρ g => match F ρ g with
  | some (.int i, _, g1) => some (some i, g1)
  | _ => none
theorem mo_none : PO X none (TOx X.K noP) := ⟨fun pins s σ H Q I ⟨R, sc, T, ρ, g, o, g', ok, sr, gr, e, q⟩ => po_none.run pins s σ H Q I (by
  cases e
  exact q _ (Ext.refl _ _) gr)⟩
theorem mo_some (h : PE X a (TEx X.K F)) : PO X (some a) (TOx X.K (someP F)) := ⟨fun pins s σ H Q I ⟨R, sc, T, ρ, g, o, g', ok, sr, gr, e, q⟩ => (po_some h).run pins s σ H Q I (by
  unfold someP at e
  split at e
  · rename_i i u g1 e1
    cases e
    exact ⟨R, sc, T, ρ, g, _, _, _, ok, sr, gr, e1, fun v H1 x1 gr1 r1 => ⟨i, r1.int_inv, q _ x1 gr1⟩⟩
  · cases e)⟩
def slcF (F : Den) (P P' : Denp) : Den := fun ρ g => match F ρ g with
    | none => none
    | some (x, t, g1) => match P ρ g1 with
      | none => none
      | some (l, g2) => match P' ρ g2 with
        | none => none
        | some (h, g3) => match slcD x l h with
            | none => none
            | some d => some (d, nrm d t, g3)
variable {lo hi : Option Expr} {P P' : Denp}
theorem me_slc {p2} (h : PE X a (TEx X.K F)) (hl : PO X lo (TOx X.K P)) (hh : PO X hi (TOx X.K P')) : PE X (.Subscript a (.Slice lo hi none p2) pos) (TEx X.K (slcF F P P')) := (pe_slice os_slc h hl hh).weak fun σ H Q ⟨R, sc, T, ρ, g, d, t, g', ok, sr, gr, e, q⟩ => by
  unfold slcF at e
  cases e1 : F ρ g with
  | none => rw [e1] at e; cases e
  | some p =>
    obtain ⟨x, t1, g1⟩ := p
    rw [e1] at e
    dsimp only at e
    cases e2 : P ρ g1 with
    | none => rw [e2] at e; cases e
    | some p =>
      obtain ⟨l, g2⟩ := p
      rw [e2] at e
      dsimp only at e
      cases e3 : P' ρ g2 with
      | none => rw [e3] at e; cases e
      | some p =>
        obtain ⟨l', g3⟩ := p
        rw [e3] at e
        dsimp only at e
        cases e4 : slcD x l l' with
        | none => rw [e4] at e; cases e
        | some d' =>
          rw [e4] at e
          cases e
          refine ⟨R, sc, T, ρ, g, x, t1, g1, ok, sr, gr, e1, fun v H1 x1 gr1 r1 => ?_⟩
          have ok1 := ok.ext x1 gr1.ne
          refine ⟨R, sc, T, ρ, g1, l, g2, ok1, sr.ext x1 ok.nr, gr1, e2, fun H2 x2 gr2 => ?_⟩
          have ok2 := ok1.ext x2 gr2.ne
          refine ⟨R, sc, T, ρ, g2, l', _, ok2, (sr.ext x1 ok.nr).ext x2 ok.nr, gr2, e3, fun H3 x3 gr3 => ?_⟩
          have ok3 := ok2.ext x3 gr3.ne
          refine ⟨T t1, x, d, (r1.ext x2 (ok.nr _)).ext x3 (ok.nr _), e4, fun w H4 sm r3 => ?_⟩
          refine q w H4 (x1.trans (x2.trans (x3.trans (Ext.same sm)))) (gr3.same sm) (rep_nrm (r3.sub fun a z => ?_))
          rcases z with z | z
          · exact z
          · exact ok3.nws _ a z
/-! ### calls -/
def biF (f : List D → Option D) (A : Dens) : Den := fun ρ g => match A ρ g with
    | none => none
    | some (ds, t, g1) => match f ds with
      | none => none
      | some d => some (d, nrm d t, g1)
theorem bi_gen {f : List D → Option D} {σ : L2.St} {H : Hp} {Q : VK} {R sc T ρ g d t g'} (ok : TOk R H T) (sr : SRx R T ρ σ H) (gr : GR X.K R sc H g) (e : biF f A ρ g = some (d, t, g')) (q : ∀ v H', Ext R H H' → GR X.K R sc H' g' → Rep (T t) H' d v → Q v H') :
    tCB (rC f) (TAx X.K A) σ H Q := by
  unfold biF at e
  cases e1 : A ρ g with
  | none => rw [e1] at e; cases e
  | some p =>
    obtain ⟨ds, t1, g1⟩ := p
    rw [e1] at e
    dsimp only at e
    cases e2 : f ds with
    | none => rw [e2] at e; cases e
    | some d' =>
      rw [e2] at e
      cases e
      refine ⟨R, sc, T, ρ, g, ds, t1, _, ok, sr, gr, e1, fun vs H1 x1 gr1 r1 => ?_⟩
      have ok1 := ok.ext x1 gr1.ne
      refine ⟨T t1, ds, d, r1, e2, fun w H3 sm r3 => ?_⟩
      refine q w H3 (x1.trans (Ext.same sm)) (gr1.same sm) (rep_nrm (r3.sub fun a z => ?_))
      rcases z with z | z
      · exact z
      · exact ok1.nws _ a z
variable {x : Str} {p : Pos} {id : String}
theorem me_biB {f : List D → Option D} (hc : CallR X (.builtin id) (rC f)) (hg : Gl X x) (hm : X.mg x = none) (hv : bootBuiltins x = some (.builtin id)) (ha : PA X (a :: es) (TAx X.K A)) (hn : x ≠ "__name__") (hdb : (x == ("__debug__" : Str)) = false)
    (he : starEach (a :: es) X.env = (false, eval a X.env) :: starEach es X.env) (hpl : (backTo pos (starEach es X.env)).any (·.1) = false) : PE X (.Call (.Name x p) (a :: es) [] pos) (TEx X.K (biF f A)) :=
  (pe_callB hc hg hm hv ha hn hdb he hpl).weak fun σ H Q ⟨R, sc, T, ρ, g, d, t, g', ok, sr, gr, e, q⟩ => bi_gen ok sr gr e q
theorem me_biT {f : List D → Option D} (hc : CallR X (.type id) (rC f)) (hg : Gl X x) (hm : X.mg x = none) (hv : bootBuiltins x = some (.type id)) (ha : PA X (a :: es) (TAx X.K A)) (hn : x ≠ "__name__") (hdb : (x == ("__debug__" : Str)) = false)
    (he : starEach (a :: es) X.env = (false, eval a X.env) :: starEach es X.env) (hpl : (backTo pos (starEach es X.env)).any (·.1) = false) : PE X (.Call (.Name x p) (a :: es) [] pos) (TEx X.K (biF f A)) :=
  (pe_callTy hc hg hm hv ha hn hdb he hpl).weak fun σ H Q ⟨R, sc, T, ρ, g, d, t, g', ok, sr, gr, e, q⟩ => bi_gen ok sr gr e q
/-- isinstance(x, T) -/
def isiF (T : String) (F : Den) : Den := fun ρ g => match F ρ g with
    | none => none
    | some (x, _, g1) => match isiD T x with
      | none => none
      | some b => some (.bool b, .fr, g1)
theorem call_isiD {T : String} : CallR X (.builtin "isinstance") (fun xs H Q => ∃ S d x b, xs = [x, .ty T] ∧ Rep S H d x ∧ isiD T d = some b ∧ Q (.bl b) H) := by
  intro pins s σ H xs us Q I r h
  obtain ⟨S, d, x, b, rfl, h1, e, q⟩ := h
  obtain ⟨u, w', rfl, r1, r2⟩ := vals2 r
  cases r2
  exact oi_isi I h1 r1 e fun tk => ⟨.bl b, H, I.tok tk, rfl, q⟩
theorem me_isi {T : String} {ty : Str} {p2 : Pos} (h : PE X a (TEx X.K F)) (hg : Gl X "isinstance") (hm : X.mg "isinstance" = none) (hg2 : Gl X ty) (hm2 : X.mg ty = none) (hv2 : bootBuiltins ty = some (.type T)) (hn2 : ty ≠ "__name__") (hd2 : (ty == ("__debug__" : Str)) = false)
    (he : starEach [a, .Name ty p2] X.env = (false, eval a X.env) :: starEach [.Name ty p2] X.env) : PE X (.Call (.Name "isinstance" p) [a, .Name ty p2] [] pos) (TEx X.K (isiF T F)) :=
  (pe_callB call_isiD hg hm boot_isinstance (pa_cons h (pa_cons (pe_bltn (v := .ty T) hg2 hm2 hv2 rfl hn2 hd2) pa_nil) he) (by decide) (by decide) he rfl).weak fun σ H Q ⟨R, sc, T', ρ, g, d, t, g', ok, sr, gr, e, q⟩ => by
    unfold isiF at e
    cases e1 : F ρ g with
    | none => rw [e1] at e; cases e
    | some p =>
      obtain ⟨x, t1, g1⟩ := p
      rw [e1] at e
      dsimp only at e
      cases e2 : isiD T x with
      | none => rw [e2] at e; cases e
      | some b =>
        rw [e2] at e
        cases e
        exact ⟨R, sc, T', ρ, g, _, _, _, ok, sr, gr, e1, fun v H1 x1 gr1 r1 => ⟨_, x, v, b, rfl, r1, e2, q _ _ x1 gr1 (.bool _)⟩⟩
end
end Mi
end
section
set_option maxRecDepth 100000
set_option maxHeartbeats 4000000
/-! isinstance with two types; join. -/
namespace Mi
open PySem PySem.Spec PyProof.Rows L2
section
variable {X : Cx} {a b c : Expr} {F : Den} {pos p p1 p2 p3 : Pos}
def isqF (F : Den) : Den := fun ρ g => match F ρ g with
    | none => none
    | some (x, _, g1) => some (.bool (isqD x), .fr, g1)
theorem kit_isq {K : PySem.W.Frag} {S : Addr → Prop} {H : Hp} (fl : Bool) {d : D} {v : V} (h : Rep S H d v) : ∃ t, TyX K H v t ∧ PySem.W.kitAny K t [.type (if fl then "list" else "tuple"), .type (if fl then "tuple" else "list")] = some (isqD d) := by
  cases d with
  | none =>
    rw [h.none_inv]
    refine ⟨_, .base .non, ?_⟩
    cases fl <;> exact kitAny_cons (kit_ty (r := false) (by decide +kernel)) (fun _ => kitAny_cons (kit_ty (r := false) (by decide +kernel)) (fun _ => kitAny_nil) (fun z => nomatch z)) (fun z => nomatch z)
  | bool y =>
    rw [h.bool_inv]
    refine ⟨_, .base (.bl y), ?_⟩
    cases fl <;> exact kitAny_cons (kit_ty (r := false) (by decide +kernel)) (fun _ => kitAny_cons (kit_ty (r := false) (by decide +kernel)) (fun _ => kitAny_nil) (fun z => nomatch z)) (fun z => nomatch z)
  | int y =>
    rw [h.int_inv]
    refine ⟨_, .base (.int y), ?_⟩
    cases fl <;> exact kitAny_cons (kit_ty (r := false) (by decide +kernel)) (fun _ => kitAny_cons (kit_ty (r := false) (by decide +kernel)) (fun _ => kitAny_nil) (fun z => nomatch z)) (fun z => nomatch z)
  | str y =>
    rw [h.str_inv]
    refine ⟨_, .base (.str y), ?_⟩
    cases fl <;> exact kitAny_cons (kit_ty (r := false) (by decide +kernel)) (fun _ => kitAny_cons (kit_ty (r := false) (by decide +kernel)) (fun _ => kitAny_nil) (fun z => nomatch z)) (fun z => nomatch z)
  | tuple ds =>
    obtain ⟨q, vs, rfl, h1, h2⟩ := h.tuple_inv
    refine ⟨_, .base (.tup h1), ?_⟩
    cases fl
    · exact kitAny_cons (kit_ty (r := true) (by decide +kernel)) (fun z => nomatch z) (fun _ => rfl)
    · exact kitAny_cons (kit_ty (r := false) (by decide +kernel)) (fun _ => kitAny_cons (kit_ty (r := true) (by decide +kernel)) (fun z => nomatch z) (fun _ => rfl)) (fun z => nomatch z)
  | list ds =>
    obtain ⟨q, vs, rfl, _, h1, h2⟩ := h.list_inv
    refine ⟨_, .base (.lst h1), ?_⟩
    cases fl
    · exact kitAny_cons (kit_ty (r := false) (by decide +kernel)) (fun _ => kitAny_cons (kit_ty (r := true) (by decide +kernel)) (fun z => nomatch z) (fun _ => rfl)) (fun z => nomatch z)
    · exact kitAny_cons (kit_ty (r := true) (by decide +kernel)) (fun z => nomatch z) (fun _ => rfl)
  | dict _ => exact h.dict_inv.elim
theorem boot_l : bootBuiltins "list" = some (.type "list") := by decide +kernel
theorem boot_t : bootBuiltins "tuple" = some (.type "tuple") := by decide +kernel
theorem pe_tn {fl : Bool} {p : Pos} (g1 : Gl X "tuple") (m1 : X.mg "tuple" = none) (g2 : Gl X "list") (m2 : X.mg "list" = none) : PE X (.Name (if fl then "list" else "tuple") p) (tC (.ty (if fl then "list" else "tuple"))) := by
  cases fl
  · exact pe_bltn g1 m1 boot_t rfl
  · exact pe_bltn g2 m2 boot_l rfl
theorem pe_tn' {fl : Bool} {p : Pos} (g1 : Gl X "tuple") (m1 : X.mg "tuple" = none) (g2 : Gl X "list") (m2 : X.mg "list" = none) : PE X (.Name (if fl then "tuple" else "list") p) (tC (.ty (if fl then "tuple" else "list"))) := by
  cases fl
  · exact pe_bltn g2 m2 boot_l rfl
  · exact pe_bltn g1 m1 boot_t rfl
theorem me_isq {fl : Bool} {k : Nat} (h : PE X a (TEx X.K F)) (hg : Gl X "isinstance") (hm : X.mg "isinstance" = none) (g1 : Gl X "tuple") (m1 : X.mg "tuple" = none) (g2 : Gl X "list") (m2 : X.mg "list" = none)
    (he : starEach [a, .Tuple [.Name (if fl then "list" else "tuple") p1, .Name (if fl then "tuple" else "list") p2] k p3] X.env = (false, eval a X.env) :: starEach [.Tuple [.Name (if fl then "list" else "tuple") p1, .Name (if fl then "tuple" else "list") p2] k p3] X.env) :
    PE X (.Call (.Name "isinstance" p) [a, .Tuple [.Name (if fl then "list" else "tuple") p1, .Name (if fl then "tuple" else "list") p2] k p3] [] pos) (TEx X.K (isqF F)) :=
  (pe_callB call_isiT hg hm boot_isinstance (pa_cons h (pa_cons (pe_tup (pa_cons (pe_tn g1 m1 g2 m2) (pa_cons (pe_tn' g1 m1 g2 m2) pa_nil))) pa_nil) he) (by decide) (by decide) he rfl).weak fun σ H Q ⟨R, sc, T', ρ, g, d, t, g', ok, sr, gr, e, q⟩ => by
    unfold isqF at e
    cases e1 : F ρ g with
    | none => rw [e1] at e; cases e
    | some p =>
      obtain ⟨x, t1, g1⟩ := p
      rw [e1] at e
      cases e
      refine ⟨R, sc, T', ρ, g, _, _, _, ok, sr, gr, e1, fun v H1 x1 gr1 r1 => ⟨by show 2 ≤ sizeLine; rw [sizeLine_eq]; omega, fun q0 hq => ?_⟩⟩
      have sm : Same H1 (upd H1 q0 (.tup [.ty (if fl then "list" else "tuple"), .ty (if fl then "tuple" else "list")])) := same_upd hq
      obtain ⟨tv, ht, hk⟩ := kit_isq (K := X.K) fl (r1.same sm)
      exact ⟨v, q0, _, tv, _, _, rfl, upd_same, .cons (.ty _) (.cons (.ty _) .nil), ht, hk, q _ _ (x1.trans (Ext.same sm)) (gr1.same sm) (.bool _)⟩
def joinF (z : Str) (F : Den) : Den := fun ρ g => match F ρ g with
    | none => none
    | some (x, _, g1) => match joinD z x with
      | none => none
      | some d => some (d, .fr, g1)
theorem strs_rep {S : Addr → Prop} {H : Hp} : ∀ {ds : List D} {vs : List V} {ys : List Str}, RepA S H ds vs → strsD ds = some ys → vs = ys.map V.str
  | [], vs, ys, h, e => by
    cases e
    exact h.nil_inv
  | d :: ds, vs, ys, h, e => by
    obtain ⟨v, r, rfl, h1, h2⟩ := h.inv
    unfold strsD at e
    split at e
    · rename_i e0; cases e0
    · rename_i x xs e0
      cases e0
      obtain ⟨zs, e1, rfl⟩ := Option.map_eq_some_iff.mp e
      rw [h1.str_inv, strs_rep h2 e1]
      rfl
    · cases e
theorem me_join {z : Str} {j : Nat} {apos : Pos} (h : PE X a (TEx X.K F)) (hs : starEach [a] X.env = (false, eval a X.env) :: starEach [] X.env) (hline : (apos.endLine == pos.line) = true) :
    PE X (.Call (.Attribute (.Constant (.str z) j p2) "join" apos) [a] [] pos) (TEx X.K (joinF z F)) :=
  (pe_join pe_str h hs rfl hline).weak fun σ H Q ⟨R, sc, T', ρ, g, d, t, g', ok, sr, gr, e, q⟩ => by
    unfold joinF at e
    cases e1 : F ρ g with
    | none => rw [e1] at e; cases e
    | some p =>
      obtain ⟨x, t1, g1⟩ := p
      rw [e1] at e
      dsimp only at e
      cases e2 : joinD z x with
      | none => rw [e2] at e; cases e
      | some d' =>
        rw [e2] at e
        cases e
        refine ⟨⟨z, rfl⟩, R, sc, T', ρ, g, _, _, _, ok, sr, gr, e1, fun v H1 x1 gr1 r1 => ?_⟩
        have fin : ∀ ds, joinL z ds = some d → ∃ ys, strsD ds = some ys ∧ (ys.map (·.length)).sum + ys.length * z.length ≤ 16777216 ∧ d = .str (Txt.join z ys) := fun ds e => by
          unfold joinL at e
          split at e
          · cases e
          · rename_i ys ey
            split at e
            · rename_i hc
              cases e
              exact ⟨ys, ey, hc, rfl⟩
            · cases e
        unfold joinD at e2
        split at e2
        · rename_i ds
          obtain ⟨ys, y1, y2, rfl⟩ := fin _ e2
          obtain ⟨q0, vs, rfl, _, h1, h2⟩ := r1.list_inv
          have := strs_rep h2 y1
          subst this
          exact ⟨z, q0, ys, rfl, rfl, .inl (SqL.of h1), y2, q _ _ x1 gr1 (.str _)⟩
        · rename_i ds
          obtain ⟨ys, y1, y2, rfl⟩ := fin _ e2
          obtain ⟨q0, vs, rfl, h1, h2⟩ := r1.tuple_inv
          have := strs_rep h2 y1
          subst this
          exact ⟨z, q0, ys, rfl, rfl, .inr (SqT.of h1), y2, q _ _ x1 gr1 (.str _)⟩
        · cases e2
end
end Mi
end
section
set_option maxRecDepth 100000
set_option maxHeartbeats 4000000
/-! Calls of the text's defs, the row, tables; what is walked; comprehensions. -/
namespace Mi
open PySem PySem.Spec PyProof.Rows L2
/-- where a result's lists stand -/
def RS (t : Tag) (Z : Addr → Prop) (H : Hp) : Addr → Prop := match t with
  | .fr => fun a => H a = none
  | _ => Nw Z H
/-- what a def promises: what its meaning says -/
def spF (K : PySem.W.Frag) (call : Call) (f : Str) (row : Bool) : Sp := fun vs H Q _ => ∃ R sc Z ds g d t g', ¬ Z R ∧ GR K R sc H g ∧ (match row with | true => ∃ r, vs = .ref R :: r ∧ RepA Z H ds r | false => RepA Z H ds vs) ∧
  call f row ds g = some (d, t, g') ∧ ∀ v H', Ext R H H' → GR K R sc H' g' → Rep (RS t Z H) H' d v → Q v H'
/-- a class's place -/
def clsOf (K : PySem.W.Frag) (c : Str) : Option Addr := match PySem.W.nsIn K mainGlobals c with
  | some (some (.ref C)) => some C
  | _ => none
/-- .. or an exception -/
def spE (K : PySem.W.Frag) (call : Call) (f : Str) (row : Bool) : List V → Hp → XK → Prop := fun vs H E => ∃ (R sc : Addr) (Z : Addr → Prop) (ds : List D) (g : G) (c : Str) (t : Tag) (g' : G) (C : Addr), ¬ Z R ∧ GR K R sc H g ∧ (match row with | true => ∃ r, vs = .ref R :: r ∧ RepA Z H ds r | false => RepA Z H ds vs) ∧
  call (xn f) row ds g = some (.str c, t, g') ∧ clsOf K c = some C ∧ ∀ H', Ext R H H' → GR K R sc H' g' → E (.ref C) none H'
def spX (K : PySem.W.Frag) (call : Call) (f : Str) (row : Bool) : Sp := fun vs H Q E => spF K call f row vs H Q E ∨ spE K call f row vs H E
/-- a def of the text that keeps its promise, k calls deep -/
def FnF (X : Cx) (call : Call) (k : Nat) (f : Str) (row : Bool) : Prop := ∃ a fd ps, X.mg f = some (.ref a) ∧ PySem.W.keepIn X.K (.ref a) = true ∧ Binds X.K fd ps [] ∧ FnOk X.prog X.w X.K X.mg X.base (L2.CX X.prog X.w) k a fd ps (spX X.K call f row)
section
variable {X : Cx} {a b c e1 : Expr} {F F' F'' : Den} {pos p : Pos} {es : List Expr} {A : Dens} {call : Call} {k : Nat} {f : Str}
def callF (call : Call) (f : Str) (row : Option Nat) (A : Dens) : Den := fun ρ g => match rowOk row ρ with
    | false => none
    | true => match A ρ g with
      | none => none
      | some (ds, t, g1) => match call f row.isSome ds g1 with
        | none => none
        | some (d, u, g2) => some (d, (match u with | .fr => Tag.fr | _ => t), g2)
/-- the arguments with the row ahead -/
def TAr (K : PySem.W.Frag) (i : Nat) (A : Dens) : TA := fun σ H Q => ∃ R sc T ρ g ds t g', TOk R H T ∧ SRx R T ρ σ H ∧ GR K R sc H g ∧ ρ[i]? = some .row ∧ A ρ g = some (ds, t, g') ∧ ∀ vs H', Ext R H H' → GR K R sc H' g' → RepA (T t) H' ds vs → Q (.ref R :: vs) H'
theorem ma_row {i : Nat} (h : PE X a (tVar i)) (h' : PA X es (TAx X.K A)) (hs : starEach (a :: es) X.env = (false, eval a X.env) :: starEach es X.env) : PA X (a :: es) (TAr X.K i A) := (pa_cons h h' hs).weak fun σ H Q ⟨R, sc, T, ρ, g, ds, t, g', ok, sr, gr, er, e, q⟩ => by
  have z := sr i _ er
  refine ⟨_, z, R, sc, T, ρ, g, ds, t, g', ok, sr, gr, e, fun vs H' x1 gr1 r1 => q vs H' x1 gr1 r1⟩
theorem sp_gen {row : Bool} {H1 : Hp} {Q : VK} {E : XK} {R sc T g1 ds t d u g2} {vs : List V} (ok1 : TOk R H1 T) (gr1 : GR X.K R sc H1 g1) (r1 : match row with | true => ∃ r, vs = .ref R :: r ∧ RepA (T t) H1 ds r | false => RepA (T t) H1 ds vs) (e : call f row ds g1 = some (d, u, g2))
    (q : ∀ v H', Ext R H1 H' → GR X.K R sc H' g2 → Rep (T (match u with | .fr => Tag.fr | _ => t)) H' d v → Q v H') : spF X.K call f row vs H1 Q E := by
  refine ⟨R, sc, T t, ds, g1, d, u, g2, ok1.nr t, gr1, r1, e, fun v H' x gr r => q v H' x gr ?_⟩
  cases u with
  | fr => exact r.sub fun a z => ok1.nw a z
  | fz =>
    refine r.sub fun a z => ?_
    rcases z with z | z
    · exact z
    · exact ok1.nws t a z
  | bo =>
    refine r.sub fun a z => ?_
    rcases z with z | z
    · exact z
    · exact ok1.nws t a z
theorem me_call (hF : FnF X call k f false) (hr : Room k X.A) (hg : Gl X f) (ha : PA X (a :: es) (TAx X.K A)) (hdb : (f == ("__debug__" : Str)) = false)
    (he : starEach (a :: es) X.env = (false, eval a X.env) :: starEach es X.env) (hpl : (backTo pos (starEach es X.env)).any (·.1) = false) : PE X (.Call (.Name f p) (a :: es) [] pos) (TEx X.K (callF call f none A)) := by
  obtain ⟨ad, fd, ps, hm, hk, hb, F⟩ := hF
  refine (pe_call F hr hg hm hk hb .nil passL ha hdb he hpl).weak fun σ H Q ⟨R, sc, T, ρ, g, d, t, g', ok, sr, gr, e, q⟩ => ?_
  unfold callF rowOk at e
  dsimp only at e
  cases e1 : A ρ g with
  | none => rw [e1] at e; cases e
  | some p =>
    obtain ⟨ds, t1, g1⟩ := p
    rw [e1] at e
    dsimp only at e
    cases e2 : call f false ds g1 with
    | none => rw [show (none : Option Nat).isSome = false from rfl, e2] at e; cases e
    | some p =>
      obtain ⟨d', u, g2⟩ := p
      rw [show (none : Option Nat).isSome = false from rfl, e2] at e
      cases e
      refine ⟨R, sc, T, ρ, g, ds, t1, g1, ok, sr, gr, e1, fun vs H1 x1 gr1 r1 => ?_⟩
      show spX X.K call f false (vs ++ []) H1 Q E0
      rw [List.append_nil]
      exact .inl (sp_gen (row := false) (ok.ext x1 gr1.ne) gr1 r1 e2 fun v H' x2 gr2 r2 => q v H' (x1.trans x2) gr2 r2)
theorem me_call0 (hF : FnF X call k f false) (hr : Room k X.A) (hg : Gl X f) (hdb : (f == ("__debug__" : Str)) = false) : PE X (.Call (.Name f p) [] [] pos) (TEx X.K (callF call f none nilA)) := by
  obtain ⟨ad, fd, ps, hm, hk, hb, F⟩ := hF
  refine (pe_call0 F hr hg hm hk hb .nil passL hdb).weak fun σ H Q ⟨R, sc, T, ρ, g, d, t, g', ok, sr, gr, e, q⟩ => ?_
  unfold callF rowOk nilA at e
  dsimp only at e
  cases e2 : call f false [] g with
  | none => rw [show (none : Option Nat).isSome = false from rfl, e2] at e; cases e
  | some p =>
    obtain ⟨d', u, g2⟩ := p
    rw [show (none : Option Nat).isSome = false from rfl, e2] at e
    cases e
    show spX X.K call f false ([] ++ []) H Q E0
    exact .inl (sp_gen (row := false) (t := .fr) ok gr RepA.nil e2 fun v H' x2 gr2 r2 => q v H' x2 gr2 r2)
theorem me_callr {i : Nat} (hF : FnF X call k f true) (hr : Room k X.A) (hg : Gl X f) (ha : PA X (a :: es) (TAr X.K i A)) (hdb : (f == ("__debug__" : Str)) = false)
    (he : starEach (a :: es) X.env = (false, eval a X.env) :: starEach es X.env) (hpl : (backTo pos (starEach es X.env)).any (·.1) = false) : PE X (.Call (.Name f p) (a :: es) [] pos) (TEx X.K (callF call f (some i) A)) := by
  obtain ⟨ad, fd, ps, hm, hk, hb, F⟩ := hF
  refine (pe_call F hr hg hm hk hb .nil passL ha hdb he hpl).weak fun σ H Q ⟨R, sc, T, ρ, g, d, t, g', ok, sr, gr, e, q⟩ => ?_
  unfold callF at e
  cases er : rowOk (some i) ρ with
  | false => rw [er] at e; cases e
  | true =>
    rw [er] at e
    dsimp only at e
    have er' : ρ[i]? = some .row := by
      unfold rowOk at er
      dsimp only at er
      split at er
      · assumption
      · cases er
    cases e1 : A ρ g with
    | none => rw [e1] at e; cases e
    | some p =>
      obtain ⟨ds, t1, g1⟩ := p
      rw [e1] at e
      dsimp only at e
      cases e2 : call f true ds g1 with
      | none => rw [show (some i).isSome = true from rfl, e2] at e; cases e
      | some p =>
        obtain ⟨d', u, g2⟩ := p
        rw [show (some i).isSome = true from rfl, e2] at e
        cases e
        refine ⟨R, sc, T, ρ, g, ds, t1, g1, ok, sr, gr, er', e1, fun vs H1 x1 gr1 r1 => ?_⟩
        show spX X.K call f true ((.ref R :: vs) ++ []) H1 Q E0
        rw [List.append_nil]
        exact .inl (sp_gen (row := true) (ok.ext x1 gr1.ne) gr1 ⟨vs, rfl, r1⟩ e2 fun v H' x2 gr2 r2 => q v H' (x1.trans x2) gr2 r2)
/-! ### the row -/
def rowG (i k : Nat) : Den := fun ρ g => match ρ[i]? with
    | some .row => match k with
      | 1 => some (.int g.p, .fr, g)
      | 2 => some (.int g.m, .fr, g)
      | 3 => some (.int g.r, .fr, g)
      | _ => none
    | _ => none
theorem rowG_inv {i k : Nat} {ρ g d t g'} (e : rowG i k ρ g = some (d, t, g')) : ρ[i]? = some .row ∧ g' = g ∧ ((k = 1 ∧ d = .int g.p) ∨ (k = 2 ∧ d = .int g.m) ∨ (k = 3 ∧ d = .int g.r)) := by
  unfold rowG at e
  split at e
  · rename_i er
    refine ⟨er, ?_⟩
    split at e
    · cases e; exact ⟨rfl, .inl ⟨rfl, rfl⟩⟩
    · cases e; exact ⟨rfl, .inr (.inl ⟨rfl, rfl⟩)⟩
    · cases e; exact ⟨rfl, .inr (.inr ⟨rfl, rfl⟩)⟩
    · cases e
  · cases e
theorem me_rowG {i k : Nat} {x : Expr} {j : Nat} {p2 : Pos} (h : PE X x (tVar i)) : PE X (.Subscript x (.Constant (.int (k : Int)) j p2) pos) (TEx X.K (rowG i k)) := (pe_ix ix_list h pe_int (fun _ _ => rfl)).weak fun σ H Q ⟨R, sc, T, ρ, g, d, t, g', ok, sr, gr, e, q⟩ => by
  obtain ⟨er, rfl, ek⟩ := rowG_inv e
  have z : σ[i]? = some (some (.ref R)) := sr i _ er
  rcases ek with ⟨rfl, rfl⟩ | ⟨rfl, rfl⟩ | ⟨rfl, rfl⟩
  · exact ⟨.ref R, z, R, _, _, .int g'.p, rfl, rfl, SqL.of gr.1, rfl, q _ H (Ext.refl _ _) gr (.int _)⟩
  · exact ⟨.ref R, z, R, _, _, .int g'.m, rfl, rfl, SqL.of gr.1, rfl, q _ H (Ext.refl _ _) gr (.int _)⟩
  · exact ⟨.ref R, z, R, _, _, .int g'.r, rfl, rfl, SqL.of gr.1, rfl, q _ H (Ext.refl _ _) gr (.int _)⟩
def rowL (i : Nat) : Den := fun ρ g => match ρ[i]? with
    | some .row => some (.int g.ns.length, .fr, g)
    | _ => none
theorem pe_sc {i : Nat} {x : Expr} {j : Nat} {p2 : Pos} (h : PE X x (tVar i)) : PE X (.Subscript x (.Constant (.int 0) j p2) pos) (fun σ H Q => ∃ R sc T ρ g, SRx R T ρ σ H ∧ GR X.K R sc H g ∧ ρ[i]? = some .row ∧ Q (.ref sc) H) := (pe_ix ix_list h pe_int (fun _ _ => rfl)).weak fun σ H Q ⟨R, sc, T, ρ, g, sr, gr, er, q⟩ =>
  ⟨_, sr i _ er, R, _, 0, .ref sc, rfl, rfl, SqL.of gr.1, rfl, q⟩
theorem me_rowL {i : Nat} {x : Expr} {j : Nat} {p2 p3 p4 : Pos} (h : PE X x (tVar i)) (hg : Gl X "len") (hm : X.mg "len" = none) : PE X (.Call (.Name "len" p3) [.Subscript x (.Constant (.int 0) j p2) p4] [] pos) (TEx X.K (rowL i)) :=
  (pe_callB call_len_seq hg hm PySem.boot_len (pa_cons (pe_sc h) pa_nil)).weak fun σ H Q ⟨R, sc, T, ρ, g, d, t, g', ok, sr, gr, e, q⟩ => by
    unfold rowL at e
    split at e
    · rename_i er
      cases e
      refine ⟨R, sc, T, ρ, g, sr, gr, er, sc, _, rfl, .inl gr.2.1.seq, ?_⟩
      rw [List.length_map]
      exact q _ H (Ext.refl _ _) gr (.int _)
    · cases e
def rowC (i : Nat) (F : Den) : Den := fun ρ g => match ρ[i]? with
    | some .row => match F ρ g with
      | some (.int j, _, g1) => match atI g1.ns j with
        | none => none
        | some n => some (.int n, .fr, g1)
      | _ => none
    | _ => none
theorem me_rowC {i : Nat} {x : Expr} {j : Nat} {p2 p4 : Pos} (h : PE X x (tVar i)) (h' : PE X a (TEx X.K F)) (hs : PlainIx a) : PE X (.Subscript (.Subscript x (.Constant (.int 0) j p2) p4) a pos) (TEx X.K (rowC i F)) :=
  (pe_ix ix_list (pe_sc h) h' hs).weak fun σ H Q ⟨R, sc, T, ρ, g, d, t, g', ok, sr, gr, e, q⟩ => by
    unfold rowC at e
    split at e
    · rename_i er
      split at e
      · rename_i jj u g1 e1
        split at e
        · cases e
        · rename_i n en
          cases e
          refine ⟨R, sc, T, ρ, g, sr, gr, er, R, sc, T, ρ, g, _, _, _, ok, sr, gr, e1, fun v H1 x1 gr1 r1 => ?_⟩
          refine ⟨sc, _, jj, .int n, rfl, r1.int_inv, gr1.2.1.seq, ?_, q _ H1 x1 gr1 (.int _)⟩
          unfold atI at en ⊢
          rw [List.length_map]
          obtain ⟨m, e2, e3⟩ := Option.bind_eq_some_iff.mp en
          rw [e2]
          show (List.map V.int g'.ns)[m]? = _
          rw [List.getElem?_map, e3]
          rfl
      · cases e
    · cases e
/-! ### a table of the top -/
def TabF (X : Cx) (x : Str) (l : List (Str × Str)) : Prop := ∃ d es n, X.mg x = some (.ref d) ∧ KDict X.K X.w d es n ∧ ∀ z, match l.lookup z with
  | some v => ∃ u, PySem.W.nsIn X.K d z = some (some u) ∧ RelV (.str v) u
  | none => PySem.W.nsIn X.K d z = some none
def inGF (l : Option (List (Str × Str))) (neg : Bool) (F : Den) : Den := fun ρ g => match F ρ g with
    | some (.str k, _, g1) => match l with
      | none => none
      | some l => some (.bool ((l.lookup k).isSome != neg), .fr, g1)
    | _ => none
variable {x : Str} {l : List (Str × Str)}
theorem inG_op (hT : TabF X x l) (neg : Bool) : ∃ d, X.mg x = some (.ref d) ∧ OpR X (compareOp (if neg then .NotIn else .In)) (fun v y H Q => ∃ z, v = .str z ∧ y = .ref d ∧ Q (.bl ((l.lookup z).isSome != neg)) H) := by
  obtain ⟨d, es, n, hm, D, hl⟩ := hT
  refine ⟨d, hm, ?_⟩
  intro pins s σ H v y u w Q I rv ry ⟨z, e1, e2, q⟩
  have hz := hl z
  have key : ∃ r : Option Value, PySem.W.nsIn X.K d z = some r ∧ r.isSome = (l.lookup z).isSome := by
    cases e : l.lookup z with
    | none => rw [e] at hz; exact ⟨_, hz, rfl⟩
    | some v' => rw [e] at hz; obtain ⟨u', h1, h2⟩ := hz; exact ⟨_, h1, rfl⟩
  obtain ⟨r, k1, k2⟩ := key
  cases neg with
  | false => exact op_in_kd D pins s σ H v y u w Q I rv ry ⟨z, r, e1, e2, k1, by rw [k2]; simpa using q⟩
  | true => exact op_notIn_kd D pins s σ H v y u w Q I rv ry ⟨z, r, e1, e2, k1, by rw [k2]; simpa using q⟩
theorem me_inG {neg : Bool} (hT : TabF X x l) (h : PE X a (TEx X.K F)) (hg : Gl X x) (hdb : (x == ("__debug__" : Str)) = false) (hm : behindInMarks (if neg then .NotIn else .In) (.Name x p) = false) : PE X (.Compare a [if neg then .NotIn else .In] [.Name x p] pos) (TEx X.K (inGF (some l) neg F)) := by
  obtain ⟨d, hmg, ho⟩ := inG_op hT neg
  refine (pe_cmpR ho h (pe_glob (v := .ref d) hg hmg rfl hdb) hm).weak fun σ H Q ⟨R, sc, T, ρ, g, d, t, g', ok, sr, gr, e, q⟩ => ?_
  unfold inGF at e
  split at e
  · rename_i k u g1 e1
    cases e
    exact ⟨R, sc, T, ρ, g, _, _, _, ok, sr, gr, e1, fun v H1 x1 gr1 r1 => ⟨k, r1.str_inv, rfl, q _ _ x1 gr1 (.bool _)⟩⟩
  · cases e
theorem mt_inG {neg : Bool} (hT : TabF X x l) (h : PE X a (TEx X.K F)) (hg : Gl X x) (hdb : (x == ("__debug__" : Str)) = false) (hm : behindInMarks (if neg then .NotIn else .In) (.Name x p) = false) : PT X (.Compare a [if neg then .NotIn else .In] [.Name x p] pos) (TTx X.K (inGF (some l) neg F)) := by
  obtain ⟨d, hmg, ho⟩ := inG_op hT neg
  refine (pt_cmpR ho h (pe_glob (v := .ref d) hg hmg rfl hdb) hm).weak fun σ H Q ⟨R, sc, T, ρ, g, b, t, g', ok, sr, gr, e, q⟩ => ?_
  unfold inGF at e
  split at e
  · rename_i k u g1 e1
    cases e
    exact ⟨R, sc, T, ρ, g, _, _, _, ok, sr, gr, e1, fun v H1 x1 gr1 r1 => ⟨k, r1.str_inv, rfl, _, rfl, q _ x1 gr1⟩⟩
  · cases e
def getGF (l : Option (List (Str × Str))) (F : Den) : Den := fun ρ g => match F ρ g with
    | some (.str k, _, g1) => match l with
      | none => none
      | some l => match l.lookup k with
        | none => none
        | some v => some (.str v, .fr, g1)
    | _ => none
theorem me_getG (hT : TabF X x l) (h : PE X a (TEx X.K F)) (hg : Gl X x) (hdb : (x == ("__debug__" : Str)) = false) (hs : PlainIx a) : PE X (.Subscript (.Name x p) a pos) (TEx X.K (getGF (some l) F)) := by
  obtain ⟨d, es, n, hmg, D, hl⟩ := hT
  refine (pe_ix ix_kdict (pe_glob (v := .ref d) hg hmg rfl hdb) h hs).weak fun σ H Q ⟨R, sc, T, ρ, g, d', t, g', ok, sr, gr, e, q⟩ => ?_
  unfold getGF at e
  split at e
  · rename_i k u g1 e1
    dsimp only at e
    split at e
    · cases e
    · rename_i v ev
      cases e
      have hz := hl k
      rw [ev] at hz
      obtain ⟨w, k1, k2⟩ := hz
      exact ⟨R, sc, T, ρ, g, _, _, _, ok, sr, gr, e1, fun v' H1 x1 gr1 r1 => ⟨d, k, .str v, rfl, r1.str_inv, ⟨es, n, w, D.at_, D.lit, k1, k2⟩, q _ _ x1 gr1 (.str _)⟩⟩
  · cases e
/-! ### xs.count(y) -/
def mtF (f : D → D → Option D) (F F' : Den) : Den := fun ρ g => match F ρ g with
    | none => none
    | some (x, _, g1) => match F' ρ g1 with
      | none => none
      | some (y, _, g2) => match f x y with
        | none => none
        | some d => some (d, nrm d .bo, g2)
theorem count_list {x y d : D} (e : mtD .count x y = some d) : ∃ xs, x = .list xs := by
  unfold mtD at e
  split at e
  · exact ⟨_, rfl⟩
  · exact absurd ‹Mt.count = Mt.index› (by decide)
  · cases e
theorem count_leaf {x y d : D} (e : mtD .count x y = some d) : leaf d = true := by
  unfold mtD at e
  split at e
  · split at e
    · cases e; rfl
    · cases e
  · exact absurd ‹Mt.count = Mt.index› (by decide)
  · cases e
theorem index_inv {x y d : D} (e : mtD .index x y = some d) : ∃ xs j, x = .list xs ∧ SeqAt.shaped (.list xs) = true ∧ SeqAt.shaped y = true ∧ SeqAt.dataPlace xs y = some j ∧ d = .int (j : Nat) := by
  unfold mtD at e
  split at e
  · exact absurd ‹Mt.index = Mt.count› (by decide)
  · split at e
    · rename_i z
      rw [Bool.and_eq_true] at z
      obtain ⟨j, e1, rfl⟩ := Option.map_eq_some_iff.mp e
      exact ⟨_, j, rfl, z.1, z.2, e1, rfl⟩
    · cases e
  · cases e
theorem me_index {apos : Pos} (hu : X.A.units + 65 < cLine) (h : PE X a (TEx X.K F)) (h' : PE X b (TEx X.K F')) (hbase : attributeBase a "index" X.env (eval a X.env) = eval a X.env) (hline : (apos.endLine == pos.line) = true) (hs : starEach [b] X.env = [(false, eval b X.env)]) :
    PE X (.Call (.Attribute a "index" apos) [b] [] pos) (TEx X.K (mtF (mtD .index) F F')) := by
  have hs1 : starEach [b] X.env = (false, eval b X.env) :: starEach [] X.env := hs
  refine (pe_bm PySem.F.plainAttrs_list PySem.F.slot_list_index PySem.F.type_list_index (mt_indexD hu) h (pa_cons h' pa_nil hs1) hbase (by rw [hs]; rfl) hline hs1 rfl).weak fun σ H Q ⟨R, sc, T, ρ, g, d, t, g', ok, sr, gr, e, q⟩ => ?_
  unfold mtF at e
  cases e1 : F ρ g with
  | none => rw [e1] at e; cases e
  | some p =>
    obtain ⟨x, t1, g1⟩ := p
    rw [e1] at e
    dsimp only at e
    cases e2 : F' ρ g1 with
    | none => rw [e2] at e; cases e
    | some p =>
      obtain ⟨y, t2, g2⟩ := p
      rw [e2] at e
      dsimp only at e
      cases e3 : mtD .index x y with
      | none => rw [e3] at e; cases e
      | some d' =>
        rw [e3] at e
        cases e
        refine ⟨R, sc, T, ρ, g, x, t1, g1, ok, sr, gr, e1, fun v H1 x1 gr1 r1 => ?_⟩
        obtain ⟨xs, j, rfl, s1, s2, pl, rfl⟩ := index_inv e3
        obtain ⟨ad, vs, rfl, hz, hl, hr⟩ := r1.list_inv
        refine ⟨.inl ⟨rfl, _, SqL.of hl⟩, R, sc, T, ρ, g1, y, t2, _, ok.ext x1 gr1.ne, sr.ext x1 ok.nr, gr1, e2, fun u H2 x2 gr2 r2 => ?_⟩
        have r1' := r1.ext x2 (ok.nr _)
        unfold SeqAt.dataPlace at pl
        rw [List.findIdx?_eq_some_iff_getElem] at pl
        obtain ⟨p1, p2, p3⟩ := pl
        refine ⟨ad, u, y, xs, j, xs[j], rfl, rfl, Rep.dp _ _ r1', Rep.dp _ _ r2, s1, s2, List.getElem?_eq_getElem p1, p2, fun m z' hm hz' => ?_, ?_⟩
        · have := p3 m hm
          obtain ⟨h1, h2⟩ := List.getElem?_eq_some_iff.mp hz'
          rw [← h2]
          simpa using this
        · exact q _ _ (x1.trans x2) gr2 (.int _)
/-! ### new lists of things without lists -/
theorem lfs_mem {ds : List D} : lfs ds = true ↔ ∀ d ∈ ds, lf d = true := by
  induction ds with
  | nil => simp [lfs]
  | cons d ds ih => simp [lfs, ih]
theorem lfs_cut {ds : List D} (h : lfs ds = true) (lo hi : Option Int) : lfs (cutD ds lo hi) = true := by
  rw [lfs_mem] at h ⊢
  intro d hd
  unfold cutD at hd
  exact h d (List.mem_of_mem_drop (List.mem_of_mem_take hd))
theorem call_cpy : CallR X (.type "list") (fun xs H Q => ∃ S d ds x, xs = [x] ∧ Rep S H d x ∧ cpD d = some ds ∧ ∀ p H', Same H H' → H p = none → (∀ S' : Addr → Prop, S' p → Rep S' H' (.list ds) (.ref p)) → Q (.ref p) H') := by
  intro pins s σ H xs us Q I r h
  obtain ⟨S, d, ds, x, rfl, h1, e, q⟩ := h
  unfold cpD at e
  split at e
  · rename_i ys
    split at e
    · rename_i l
      cases e
      obtain ⟨p, vs, e1, _, e2, e3⟩ := h1.list_inv
      exact call_list_of pins s σ H _ us Q I r ⟨p, vs, by rw [e1], .inl (SqL.of e2), fun a na => q a _ (same_upd na) na fun S' hp => Rep.list hp upd_same ((RepA.lf _ _ l e3).same (same_upd na))⟩
    · cases e
  · rename_i ys
    split at e
    · rename_i l
      cases e
      obtain ⟨p, vs, e1, e2, e3⟩ := h1.tuple_inv
      exact call_list_of pins s σ H _ us Q I r ⟨p, vs, by rw [e1], .inr (SqT.of e2), fun a na => q a _ (same_upd na) na fun S' hp => Rep.list hp upd_same ((RepA.lf _ _ l e3).same (same_upd na))⟩
    · cases e
  · cases e
def lcpF (F : Den) : Den := fun ρ g => match F ρ g with
    | none => none
    | some (x, _, g1) => match cpD x with
      | none => none
      | some ds => some (.list ds, .fr, g1)
theorem me_lcp {p2 : Pos} (hg : Gl X "list") (hm : X.mg "list" = none) (hv : bootBuiltins "list" = some (.type "list")) (h : PE X a (TEx X.K F)) (hs : starEach [a] X.env = (false, eval a X.env) :: starEach [] X.env) (hpl : (backTo pos (starEach [] X.env)).any (·.1) = false) :
    PE X (.Call (.Name "list" p2) [a] [] pos) (TEx X.K (lcpF F)) := (pe_callTy call_cpy hg hm hv (pa_cons h pa_nil hs) (by decide) (by decide) hs hpl).weak fun σ H Q ⟨R, sc, T, ρ, g, d, t, g', ok, sr, gr, e, q⟩ => by
  unfold lcpF at e
  cases e1 : F ρ g with
  | none => rw [e1] at e; cases e
  | some p =>
    obtain ⟨x, t1, g1⟩ := p
    rw [e1] at e
    dsimp only at e
    cases e2 : cpD x with
    | none => rw [e2] at e; cases e
    | some ds =>
      rw [e2] at e
      cases e
      exact ⟨R, sc, T, ρ, g, _, _, _, ok, sr, gr, e1, fun v H1 x1 gr1 r1 => ⟨_, x, ds, v, rfl, r1, e2, fun p H2 sm np r2 => q _ _ (x1.trans (Ext.same sm)) (gr1.same sm) (r2 _ ((ok.ext x1 gr1.ne).nw _ np))⟩⟩
theorem os_scp : SlR X (fun x lo hi H Q => ∃ S d ds, Rep S H d x ∧ scpD d lo hi = some ds ∧ ∀ p H', Same H H' → H p = none → (∀ S' : Addr → Prop, S' p → Rep S' H' (.list ds) (.ref p)) → Q (.ref p) H') := by
  intro pins s σ H x v vl vu lo hi sl Q I rx hs pl pu h
  obtain ⟨S, d1, d, h1, e, q⟩ := h
  unfold scpD at e
  split at e
  · rename_i xs
    split at e
    · rename_i l
      cases e
      obtain ⟨p, vs, e1, _, e2, e3⟩ := h1.list_inv
      exact sl_list pins s σ H x v vl vu _ _ sl Q I rx hs pl pu ⟨p, vs, e1, SqL.of e2, fun a na => q a _ (same_upd na) na fun S' hp => Rep.list hp upd_same ((RepA.lf _ _ (lfs_cut l _ _) (repA_cut e3 _ _)).same (same_upd na))⟩
    · cases e
  · cases e
def scpF (F : Den) (P P' : Denp) : Den := fun ρ g => match F ρ g with
    | none => none
    | some (x, _, g1) => match P ρ g1 with
      | none => none
      | some (l, g2) => match P' ρ g2 with
        | none => none
        | some (h, g3) => match scpD x l h with
            | none => none
            | some ds => some (.list ds, .fr, g3)
theorem me_scp {lo hi : Option Expr} {P P' : Denp} {p2} (h : PE X a (TEx X.K F)) (hl : PO X lo (TOx X.K P)) (hh : PO X hi (TOx X.K P')) : PE X (.Subscript a (.Slice lo hi none p2) pos) (TEx X.K (scpF F P P')) := (pe_slice os_scp h hl hh).weak fun σ H Q ⟨R, sc, T, ρ, g, d, t, g', ok, sr, gr, e, q⟩ => by
  unfold scpF at e
  cases e1 : F ρ g with
  | none => rw [e1] at e; cases e
  | some p =>
    obtain ⟨x, t1, g1⟩ := p
    rw [e1] at e
    dsimp only at e
    cases e2 : P ρ g1 with
    | none => rw [e2] at e; cases e
    | some p =>
      obtain ⟨l, g2⟩ := p
      rw [e2] at e
      dsimp only at e
      cases e3 : P' ρ g2 with
      | none => rw [e3] at e; cases e
      | some p =>
        obtain ⟨l', g3⟩ := p
        rw [e3] at e
        dsimp only at e
        cases e4 : scpD x l l' with
        | none => rw [e4] at e; cases e
        | some d' =>
          rw [e4] at e
          cases e
          refine ⟨R, sc, T, ρ, g, x, t1, g1, ok, sr, gr, e1, fun v H1 x1 gr1 r1 => ?_⟩
          have ok1 := ok.ext x1 gr1.ne
          refine ⟨R, sc, T, ρ, g1, l, g2, ok1, sr.ext x1 ok.nr, gr1, e2, fun H2 x2 gr2 => ?_⟩
          have ok2 := ok1.ext x2 gr2.ne
          refine ⟨R, sc, T, ρ, g2, l', _, ok2, (sr.ext x1 ok.nr).ext x2 ok.nr, gr2, e3, fun H3 x3 gr3 => ?_⟩
          have ok3 := ok2.ext x3 gr3.ne
          exact ⟨T t1, x, d', (r1.ext x2 (ok.nr _)).ext x3 (ok.nr _), e4, fun p H4 sm np r3 => q _ H4 (x1.trans (x2.trans (x3.trans (Ext.same sm)))) (gr3.same sm) (r3 _ (ok3.nw _ np))⟩
/-! ### sorted(set(e)) -/
theorem repA_ints {S : Addr → Prop} {H : Hp} : ∀ l : List Int, RepA S H (l.map PyData.int) (l.map V.int)
  | [] => .nil
  | i :: l => .cons (.int i) (repA_ints l)
theorem insU_mem {x y : Int} : ∀ {l : List Int}, y ∈ insU x l ↔ y = x ∨ y ∈ l
  | [] => by simp [insU]
  | z :: l => by
    have := insU_mem (x := x) (y := y) (l := l)
    unfold insU
    split
    · simp
    · split
      · rename_i e
        subst e
        simp
      · simp only [List.mem_cons, this]
        constructor
        · rintro (h | h | h)
          · exact .inr (.inl h)
          · exact .inl h
          · exact .inr (.inr h)
        · rintro (h | h | h)
          · exact .inr (.inl h)
          · exact .inl h
          · exact .inr (.inr h)
theorem insU_pw {x : Int} : ∀ {l : List Int}, l.Pairwise (· < ·) → (insU x l).Pairwise (· < ·)
  | [], _ => by simp [insU]
  | z :: l, h => by
    obtain ⟨h1, h2⟩ := List.pairwise_cons.mp h
    unfold insU
    split
    · rename_i e
      refine List.pairwise_cons.mpr ⟨fun y hy => ?_, h⟩
      rcases List.mem_cons.mp hy with rfl | hy
      · exact e
      · have := h1 y hy
        omega
    · split
      · exact h
      · refine List.pairwise_cons.mpr ⟨fun y hy => ?_, insU_pw h2⟩
        rcases insU_mem.mp hy with rfl | hy
        · omega
        · exact h1 y hy
theorem ssetL_mem {y : Int} : ∀ {l : List Int}, y ∈ ssetL l ↔ y ∈ l
  | [] => by simp [ssetL]
  | x :: l => by rw [ssetL, insU_mem, ssetL_mem, List.mem_cons]
theorem ssetL_pw : ∀ {l : List Int}, (ssetL l).Pairwise (· < ·)
  | [] => by simp [ssetL]
  | x :: l => by rw [ssetL]; exact insU_pw ssetL_pw
theorem rise_eq {l m : List Int} (hl : l.Pairwise (· < ·)) (hm : m.Pairwise (· < ·)) (h : ∀ x, x ∈ l ↔ x ∈ m) : l = m :=
  List.Perm.eq_of_pairwise (le := fun a b : Int => a ≤ b) (fun _ _ _ _ h k => Int.le_antisymm h k) (hl.imp fun h => Int.le_of_lt h) (hm.imp fun h => Int.le_of_lt h)
    ((List.perm_ext_iff_of_nodup (hl.imp fun h => Int.ne_of_lt h) (hm.imp fun h => Int.ne_of_lt h)).mpr h)
theorem intsD_repA {S : Addr → Prop} {H : Hp} : ∀ {ds : List D} {ns : List Int} {vs : List V}, intsD ds = some ns → RepA S H ds vs → vs = ns.map V.int ∧ ds = ns.map PyData.int
  | [], ns, vs, e, h => by
    cases e
    exact ⟨h.nil_inv, rfl⟩
  | d :: ds, ns, vs, e, h => by
    obtain ⟨v, r, ev, h1, h2⟩ := h.inv
    cases d <;> simp only [intsD, reduceCtorEq] at e
    case int i =>
      cases e1 : intsD ds with
      | none => rw [e1] at e; cases e
      | some l =>
        rw [e1] at e
        cases e
        obtain ⟨a, b⟩ := intsD_repA e1 h2
        rw [ev, h1.int_inv, a, b]
        exact ⟨rfl, rfl⟩
/-- set(t), t a tuple of ints -/
def rSetTI (w : World) : List V → Hp → VK → Prop := fun xs H Q => ∃ S ds ns x, xs = [x] ∧ Rep S H (.tuple ds) x ∧ intsD ds = some ns ∧ ns.length < 60 ∧ ∀ p c, H p = none → c ≤ ns.length → Q (.ref p) (upd H p (SetO w p (fun j => decide (j ∈ ns)) c))
theorem call_setTI (hc : X.calm = true) : CallR X (.type "set") (rSetTI X.w) := by
  intro pins s σ H xs us Q I r h
  obtain ⟨S, ds, ns, x, rfl, h1, e, hl, q⟩ := h
  obtain ⟨p, vs, e1, e2, e3⟩ := h1.tuple_inv
  subst e1
  rw [Vals.ref1 r]
  obtain ⟨its, rv, hT, hz⟩ := I.tuple (SqT.of e2)
  obtain ⟨ev, _⟩ := intsD_repA e e3
  subst ev
  refine call_set_tupI ns (I.ok.hd hc) hT (by simpa using rv.ints) (by unfold scanBound; omega) fun h' tk c hS hcl hk => ?_
  exact ⟨.ref _, upd H s.heap.objs.size (SetO X.w s.heap.objs.size (fun j => decide (j ∈ ns)) c), I.laid (t' := tk) hk (Nat.le_refl _) (setO_new hS), rfl, q _ _ (I.hok.fresh (Nat.le_refl _)) hcl⟩
def ssetF (F : Den) : Den := fun ρ g => match F ρ g with
    | none => none
    | some (x, _, g1) => match ssetD x with
      | none => none
      | some ds => some (.list ds, .fr, g1)
theorem me_sset {p2 p3 pos2 : Pos} (hc : X.calm = true) (hg : Gl X "sorted") (hm : X.mg "sorted" = none) (hv : bootBuiltins "sorted" = some (.builtin "sorted")) (hg2 : Gl X "set") (hm2 : X.mg "set" = none) (h : PE X a (TEx X.K F)) (hs : starEach [a] X.env = (false, eval a X.env) :: starEach [] X.env) (hpl : (backTo pos2 (starEach [] X.env)).any (·.1) = false) (hpl2 : (backTo pos (starEach [] X.env)).any (·.1) = false) :
    PE X (.Call (.Name "sorted" p2) [.Call (.Name "set" p3) [a] [] pos2] [] pos) (TEx X.K (ssetF F)) :=
  (pe_callB (cr_sortedSet hc) hg hm hv (pa_cons (pe_callTy (call_setTI hc) hg2 hm2 PyProof.Rows.boot_set (pa_cons h pa_nil hs) (by decide) (by decide) hs hpl) pa_nil) (by decide) (by decide) rfl hpl2).weak fun σ H Q ⟨R, sc, T, ρ, g, d, t, g', ok, sr, gr, e, q⟩ => by
  unfold ssetF at e
  cases e1 : F ρ g with
  | none => rw [e1] at e; cases e
  | some p =>
    obtain ⟨x, t1, g1⟩ := p
    rw [e1] at e
    dsimp only at e
    cases e2 : ssetD x with
    | none => rw [e2] at e; cases e
    | some ds =>
      rw [e2] at e
      cases e
      unfold ssetD at e2
      split at e2
      · rename_i ys
        split at e2
        · rename_i ns e3
          split at e2
          · rename_i hl
            cases e2
            refine ⟨R, sc, T, ρ, g, _, _, _, ok, sr, gr, e1, fun v H1 x1 gr1 r1 => ⟨_, ys, ns, v, rfl, r1, e3, hl, fun p c np hcl => ⟨p, _, c, rfl, upd_same, by omega, fun ms p2 hms hmem hml np2 => ?_⟩⟩⟩
            have s1 := same_upd (o := SetO X.w p (fun j => decide (j ∈ ns)) c) np
            have s2 := same_upd (o := HO.lst (ms.map V.int)) np2
            have em : ms = ssetL ns := rise_eq hms ssetL_pw fun x => by rw [hmem x, ssetL_mem]; simp
            subst em
            have np2' : H1 p2 = none := by
              cases z : H1 p2 with
              | none => rfl
              | some o =>
                have := s1 _ _ z
                rw [np2] at this
                cases this
            refine q _ _ (x1.trans ((Ext.same s1).trans (Ext.same s2))) ((gr1.same s1).same s2) (Rep.list ((ok.ext x1 gr1.ne).nw _ np2') upd_same (repA_ints _))
          · cases e2
        · cases e2
      · cases e2
/-! ### list(range(e)) -/
def lrgF (F : Den) : Den := fun ρ g => match F ρ g with
    | some (.int n, _, g1) => if SMALL n then some (.list (rngItems 0 n.toNat), .fr, g1) else none
    | _ => none
theorem me_lrg {p2 p3 pos2 : Pos} (hc : X.calm = true) (hg : Gl X "list") (hm : X.mg "list" = none) (hg2 : Gl X "range") (hm2 : X.mg "range" = none) (h : PE X a (TEx X.K F)) (hs : starEach [a] X.env = (false, eval a X.env) :: starEach [] X.env) :
    PE X (.Call (.Name "list" p2) [.Call (.Name "range" p3) [a] [] pos2] [] pos) (TEx X.K (lrgF F)) := (pe_listRg hc hg hm (prg_1 hg2 hm2 h hs)).weak fun σ H Q ⟨R, sc, T, ρ, g, d, t, g', ok, sr, gr, e, q⟩ => by
  unfold lrgF at e
  split at e
  · rename_i n u g1 e1
    split at e
    · rename_i hn
      cases e
      refine ⟨R, sc, T, ρ, g, _, _, _, ok, sr, gr, e1, fun v H1 x1 gr1 r1 => ⟨n, r1.int_inv, ?_, fun p np => ?_⟩⟩
      · unfold SMALL at hn
        exact ⟨by omega, by omega, by omega, by omega, by omega⟩
      · have ok1 := ok.ext x1 gr1.ne
        have er : rgV 0 n = ((List.range n.toNat).map fun (k : Nat) => (0 : Int) + k).map V.int := by
          unfold rgV
          rw [List.map_map, Int.sub_zero]
          rfl
        have ed : rngItems 0 n.toNat = ((List.range n.toNat).map fun (k : Nat) => (0 : Int) + k).map PyData.int := by
          unfold rngItems
          rw [List.map_map]
          rfl
        obtain ⟨s1, r2⟩ := new_list (S := T .fr) np (repA_ints ((List.range n.toNat).map fun (k : Nat) => (0 : Int) + k))
        rw [er]
        rw [ed] at q
        refine q _ _ (x1.trans (Ext.same s1)) (gr1.same s1) (r2.sub fun a z => ?_)
        rcases z with z | z
        · exact z
        · exact ok1.nws _ a z
    · cases e
  · cases e
theorem me_count {apos : Pos} (hu : X.A.units + 64 < cLine) (h : PE X a (TEx X.K F)) (h' : PE X b (TEx X.K F')) (hbase : attributeBase a "count" X.env (eval a X.env) = eval a X.env) (hline : (apos.endLine == pos.line) = true) (hs : starEach [b] X.env = [(false, eval b X.env)]) :
    PE X (.Call (.Attribute a "count" apos) [b] [] pos) (TEx X.K (mtF (mtD .count) F F')) := by
  have hs1 : starEach [b] X.env = (false, eval b X.env) :: starEach [] X.env := hs
  refine (pe_bm PySem.F.plainAttrs_list PySem.F.slot_list_count PySem.F.type_list_count (om_count hu) h (pa_cons h' pa_nil hs1) hbase (by rw [hs]; rfl) hline hs1 rfl).weak fun σ H Q ⟨R, sc, T, ρ, g, d, t, g', ok, sr, gr, e, q⟩ => ?_
  unfold mtF at e
  cases e1 : F ρ g with
  | none => rw [e1] at e; cases e
  | some p =>
    obtain ⟨x, t1, g1⟩ := p
    rw [e1] at e
    dsimp only at e
    cases e2 : F' ρ g1 with
    | none => rw [e2] at e; cases e
    | some p =>
      obtain ⟨y, t2, g2⟩ := p
      rw [e2] at e
      dsimp only at e
      cases e3 : mtD .count x y with
      | none => rw [e3] at e; cases e
      | some d' =>
        rw [e3] at e
        cases e
        refine ⟨R, sc, T, ρ, g, x, t1, g1, ok, sr, gr, e1, fun v H1 x1 gr1 r1 => ?_⟩
        obtain ⟨xs, rfl⟩ := count_list e3
        obtain ⟨ad, vs, rfl, hz, hl, hr⟩ := r1.list_inv
        refine ⟨.inl ⟨rfl, _, SqL.of hl⟩, R, sc, T, ρ, g1, y, t2, _, ok.ext x1 gr1.ne, sr.ext x1 ok.nr, gr1, e2, fun u H2 x2 gr2 r2 => ?_⟩
        have r1' := r1.ext x2 (ok.nr _)
        refine ⟨⟨xs, _, r1'⟩, T (t1.mx t2), .list xs, y, d, u, rfl, r1'.sub (ok.le t1 t2), r2.sub (ok.ri t1 t2), e3, count_leaf e3, fun w H3 sm r3 => ?_⟩
        exact q w H3 (x1.trans (x2.trans (Ext.same sm))) (gr2.same sm) (Rep.leaf (count_leaf e3) r3)
end
section
variable {X : Cx} {a b : Expr} {F : Den} {pos : Pos} {K : PySem.W.Frag}
def dgetF (i : Nat) (F : Den) : Den := fun ρ g => match F ρ g with
    | none => none
    | some (x, _, g1) => match ρ[i]? with
      | some (.dct es) => (match dkeyD x with
        | none => none
        | some k => match getE es k with
          | none => none
          | some d => some (d, nrm d .bo, g1))
      | _ => none
theorem getE_rep {S : Addr → Prop} {H : Hp} {k : List L2.Key} : ∀ {es : List (List L2.Key × D)} {kvs : List (List L2.Key × V)} {d : D}, RepK S H es kvs → getE es k = some d → ∃ v, valV kvs k = some v ∧ Rep S H d v
  | _, _, _, .nil, e => by cases e
  | p :: es, q :: kvs, d, .cons h t, e => by
    unfold getE at e
    rw [List.find?_cons] at e
    cases z : decide (p.1 = k) with
    | true =>
      rw [z] at e
      cases e
      exact ⟨q.2, valV_pos (h.1.symm.trans (of_decide_eq_true z)), h.2⟩
    | false =>
      rw [z] at e
      obtain ⟨v, e1, r⟩ := getE_rep (k := k) t e
      exact ⟨v, by rw [valV_neg (fun y => of_decide_eq_false z (h.1.trans y))]; exact e1, r⟩
theorem dkeyD_rep {S : Addr → Prop} {H : Hp} {x : D} {k : List L2.Key} {y : V} (e : dkeyD x = some k) (r : Rep S H x y) : ∃ b, y = .ref b ∧ H b = some (.tup (k.map kV)) := by
  unfold dkeyD at e
  split at e
  · obtain ⟨l, e1, rfl⟩ := Option.map_eq_some_iff.mp e
    obtain ⟨b, vs, rfl, hb, rA⟩ := r.tuple_inv
    refine ⟨b, rfl, ?_⟩
    rw [hb, (intsD_repA e1 rA).1, List.map_map]
    rfl
  · cases e
theorem me_dget {i : Nat} (hu : X.A.units + 1 < cLine) (h : PE X a (tVar i)) (h' : PE X b (TEx X.K F)) (hs : PlainIx b) : PE X (.Subscript a b pos) (TEx X.K (dgetF i F)) := (pe_dget hu h h' hs).weak fun σ H Q ⟨R, sc, T, ρ, g, d, t, g', ok, sr, gr, e, q⟩ => by
  unfold dgetF at e
  split at e
  · cases e
  · rename_i x t1 g1 e1
    split at e
    · rename_i es z
      split at e
      · cases e
      · rename_i k ek
        split at e
        · cases e
        · rename_i d0 ed
          cases e
          obtain ⟨a0, kvs, h1, h2, h3⟩ := sr i _ z
          refine ⟨.ref a0, h1, R, sc, T, ρ, g, x, t1, _, ok, sr, gr, e1, fun y H2 x2 gr2 r2 => ?_⟩
          obtain ⟨v, hv, rv⟩ := getE_rep h3 ed
          obtain ⟨b0, rfl, hb⟩ := dkeyD_rep ek r2
          exact ⟨a0, v, rfl, .inr ⟨kvs, k, b0, x2.rd h2, rfl, hb, hv.symm⟩, q v H2 x2 gr2 (rep_nrm (rv.ext x2 (ok.nr .bo)))⟩
    · cases e
end
end Mi
end
section
set_option maxRecDepth 100000
set_option maxHeartbeats 4000000
/-! sorted(e, key=lambda p: (len(p), p)). -/
namespace Mi
open PySem PySem.Spec PyProof.Rows L2
/-- the lambda, as it must stand in the text -/
structure LamT (params : Arguments) (body : Expr) (scope : Scope) (row : Str) : Prop where
  bd : ∃ p1 p2 p3 p4 p5 j, body = .Tuple [.Call (.Name "len" p1) [.Name row p2] [] p3, .Name row p4] j p5
  kind : scope.kind = .function
  co : scope.isCoroutine = false
  gen : scope.isGenerator = false
  nocell : ∀ y ∈ scope.names, y.2 ≠ .cell
  nofree : ∀ y ∈ scope.names, y.2 ≠ .free
  own : scope.names.lookup row = some .local
  len : scope.names.lookup ("len" : Str) = some .globalImplicit
  nd : (row == ("__debug__" : Str)) = false
  bind : ∀ (q : Str) (pm cv ctv : Value) (u : Value), bindArgs (PySem.W.kla_fn "<lambda>" q params body scope [] pm cv ctv) ⟨[u], []⟩ = pure [(row, u)]
  dfl : ∀ env : Env, defaultsOf params env = ([], [])
theorem clo_nil {cells : List (Str × Addr)} : ∀ {names : List (Str × NameKind)}, (∀ y ∈ names, y.2 ≠ .free) → cloFrom cells names [] = []
  | [], _ => rfl
  | (n, k) :: r, h => by
    have hk : (k == NameKind.free) = false := by
      have := h (n, k) (List.mem_cons_self ..)
      cases k <;> first
        | rfl
        | exact absurd rfl this
    unfold cloFrom
    rw [hk]
    exact clo_nil fun y hy => h y (List.mem_cons_of_mem _ hy)
mutual
theorem reads_lf {h : Heap} : ∀ {d : D} {v : Value} {as : List Addr}, lf d = true → Reads h v d as → as = []
  | .none, _, _, _, r => by cases r; rfl
  | .bool _, _, _, _, r => by cases r; rfl
  | .int _, _, _, _, r => by cases r; rfl
  | .str _, _, _, _, r => by cases r; rfl
  | .tuple ds, _, _, l, r => by
    cases r with
    | tuple h1 h2 h3 h4 => exact readsA_lf (by simpa only [Mi.lf] using l) h4
  | .list _, _, _, l, _ => by simp [Mi.lf] at l
  | .dict _, _, _, l, _ => by simp [Mi.lf] at l
theorem readsA_lf {h : Heap} : ∀ {ds : List D} {vs : List Value} {as : List Addr}, lfs ds = true → ReadsAll h vs ds as → as = []
  | [], _, _, _, r => by cases r; rfl
  | d :: ds, _, _, l, r => by
    simp only [Mi.lfs, Bool.and_eq_true] at l
    cases r with
    | cons r1 r2 => rw [reads_lf l.1 r1, readsA_lf l.2 r2]; rfl
end
theorem lfs_all {ds : List D} : lfs ds = true ↔ ∀ d ∈ ds, lf d = true := by
  induction ds with
  | nil => simp [lfs]
  | cons d ds ih => simp [lfs, ih]
theorem bind_lam {a : Option Expr} {p : Pos} {body : Expr} {scope : Scope} (q : Str) (pm cv ctv u : Value) : bindArgs (PySem.W.kla_fn "<lambda>" q ⟨[], [⟨"row", a, p⟩], none, [], [], none, []⟩ body scope [] pm cv ctv) ⟨[u], []⟩ = pure [(("row" : Str), u)] := by
  first
    | rfl
    | kernel_rfl
    | simp [bindArgs]
/-- a lambda of this kind, looked at -/
def okLam (params : Arguments) (body : Expr) (scope : Scope) : Bool := match params with
  | ⟨[], [⟨row, none, _⟩], none, [], [], none, []⟩ => (match body with
    | .Tuple [.Call (.Name l _) [.Name r _] [] _, .Name r2 _] _ _ => decide (l = "len") && decide (row = "row") && decide (r = row) && decide (r2 = row) && (match scope.kind with | .function => true | _ => false) && !scope.isCoroutine && !scope.isGenerator &&
      (scope.names.all fun y => match y.2 with | .cell => false | .free => false | _ => true) && (match scope.names.lookup row with | some .local => true | _ => false) && (match scope.names.lookup ("len" : Str) with | some .globalImplicit => true | _ => false) && !(row == ("__debug__" : Str))
    | _ => false)
  | _ => false
theorem okLam_of {params : Arguments} {body : Expr} {scope : Scope} (h : okLam params body scope = true) : ∃ row, LamT params body scope row := by
  unfold okLam at h
  split at h
  · rename_i row p
    split at h
    · rename_i l p1 r p2 p3 r2 p4 j p5
      simp only [Bool.and_eq_true, decide_eq_true_eq, Bool.not_eq_true', List.all_eq_true] at h
      obtain ⟨⟨⟨⟨⟨⟨⟨⟨⟨⟨rfl, rfl⟩, rfl⟩, rfl⟩, h4⟩, h5⟩, h6⟩, h7⟩, h8⟩, h9⟩, h10⟩ := h
      refine ⟨"row", ⟨p1, p2, p3, p4, p5, j, rfl⟩, ?_, h5, h6, fun y hy e => ?_, fun y hy e => ?_, ?_, ?_, h10, fun q pm cv ctv u => bind_lam q pm cv ctv u, fun _ => rfl⟩
      · split at h4
        · assumption
        · cases h4
      · have := h7 y hy
        rw [e] at this
        cases this
      · have := h7 y hy
        rw [e] at this
        cases this
      · split at h8
        · assumption
        · cases h8
      · split at h9
        · assumption
        · cases h9
    · cases h
  · cases h
/-- the key of a row -/
def keyD (d : D) : D := match d with
  | .tuple xs => .tuple [.int xs.length, d]
  | _ => .none
def kle (a b : D) : Bool := !PySem.W.dataLt (keyD b) (keyD a)
def sortK (ds : List D) : Option (List D) := if (ds.all isTup && lfs ds) && (allAlike (ds.map keyD) && decide (PyData.depthAll ds ≤ 50) && decide (ds.length ≤ LINE)) then some (ds.mergeSort kle) else none
section
variable {prog : Program} {w : World} {A : Around} {s : Shared}
/-- the lambda's body, evaluated -/
theorem lam_body {E : Value → Shared → Prop} {Q : Value → Shared → Prop} {env : Env} {row : Str} {p1 p2 p3 p4 p5 : Pos} {j : Nat} {a : Addr} {its : Array Value} {mg mb : Str → Option Value} {m : Str → Option Value}
    (hk : env.scope.kind = .function) (hr : env.kindOf row = some .local) (hl : env.kindOf "len" = some .globalImplicit) (hn : s.heap.Ns env.locals m) (hm : m row = some (.ref a)) (hg : s.heap.Ns env.globals mg) (hmg : mg "len" = none)
    (hb : s.heap.Ns env.builtins mb) (hmb : mb "len" = some (.builtin "len")) (hd : (row == ("__debug__" : Str)) = false) (ht : IsTup s.heap a its) (hz : (its.size : Int) < 2 ^ 63)
    (q : ∀ tk tk', Q (.ref s.heap.objs.size) { s with heap := s.heap.push { cls := .type "tuple", data := .seq #[.int its.size tk, .ref a] }, toks := tk' }) :
    wpAny (model prog w) A (eval (.Tuple [.Call (.Name "len" p1) [.Name row p2] [] p3, .Name row p4] j p5) env) Q E s := by
  refine wpAny_Tuple_spliced ?_
  refine wpAny_items_cons ?_ rfl
  refine wpAny_Call_Name_kw (Calls.Name_function_global hk hl (Calls.loadGlobal_builtin hg hmg hb hmb ?_) (by decide))
  refine PyProof.Rows.callWith_builtin1 (e := .Name row p2) (rest := []) ?_ rfl rfl
  refine wpAny_items_cons ?_ rfl
  refine wpAny_Name (wpAny_loadName_local hk hr hn hm ?_) hd
  refine Calls.spliced_nil ?_
  refine len_tuple ht hz ?_
  refine wpAny_items_cons ?_ rfl
  refine wpAny_Name (wpAny_loadName_local hk hr hn hm ?_) hd
  refine Calls.spliced_nil ⟨by show 2 ≤ sizeLine; rw [sizeLine_eq]; omega, ?_⟩
  exact q _ _
/-- the lambda called -/
theorem lam_call {params : Arguments} {body : Expr} {scope : Scope} {row qual : Str} {f c' a : Addr} {pm ctv : Value} {mg mb : Str → Option Value} {its : Array Value} {ds : List D} (L : LamT params body scope row) (hd : A.depth < recursionLimit)
    (hf : s.heap.get? f = some (PySem.W.kla_obj "<lambda>" qual params body scope [] pm c' ctv)) (hc : ∃ (oc : Obj) (vs : Array Value) (t : Tok), s.heap.get? c' = some oc ∧ oc.data = .fields vs ∧ vs[1]? = some (.str qual t))
    (hg : s.heap.Ns mainGlobals mg) (hmg : mg "len" = none) (hb : s.heap.Ns builtinsNs mb) (hmb : mb "len" = some (.builtin "len")) (lim : s.heap.NoLimit) (ht : IsTup s.heap a its) (hz : (its.size : Int) < 2 ^ 63) (hr : Reads s.heap (.ref a) (.tuple ds) []) (hl : its.size = ds.length) :
    wpAny (model prog w) A (call (.ref f) [.ref a]) (PySem.W.KeyPure (keyD (.tuple ds)) s) (fun _ _ => False) s := by
  obtain ⟨oc, vs, t, hoc, hdc, hvc⟩ := hc
  refine wpAny_call (PySem.W.kla_callFunE hd hf rfl L.co L.gen rfl ⟨c', oc, vs, t, rfl, hoc, hdc, hvc⟩ ?_)
  rw [L.bind]
  refine wpAny_pure (wpAny_newFunctionEnv L.nocell (fun y hy => ?_) (fun h₁ hns hsb => ?_) L.kind)
  · rw [List.mem_singleton.mp hy]
    exact L.own
  · have kp : ∀ b o, s.heap.get? b = some o → h₁.get? b = some o := fun b o e => hsb.extBut b o (Nat.ne_of_lt (Heap.lt_size e)) (Heap.get?_push_of_some _ e)
    refine ⟨lim.fresh _ hsb, PySem.W.kla_codeExpr ?_⟩
    obtain ⟨p1, p2, p3, p4, p5, j, rfl⟩ := L.bd
    refine lam_body (a := a) (its := its) L.kind L.own L.len hns ?_ (hg.keeps kp) hmg (hb.keeps kp) hmb L.nd (ht.keeps kp) hz fun tk tk' => ?_
    · simp
    · refine ⟨_, tk', rfl, fun b o e => Heap.get?_push_of_some _ (kp b o e), ?_⟩
      have kp2 : ∀ b o, s.heap.get? b = some o → (h₁.push { cls := .type "tuple", data := .seq #[.int its.size tk, .ref a] }).get? b = some o := fun b o e => Heap.get?_push_of_some _ (kp b o e)
      have r2 := PyProof.Rows.Reads.keeps kp2 hr
      show Reads _ _ (.tuple [.int ds.length, .tuple ds]) []
      refine Reads.tuple (as := []) (Heap.get?_push_size _ rfl) rfl rfl ?_
      have h3 : ReadsAll (h₁.push { cls := .type "tuple", data := .seq #[.int its.size tk, .ref a] }) [.int (its.size : Nat) tk, .ref a] [.int ds.length, .tuple ds] ([] ++ ([] ++ [])) := by
        exact ReadsAll.cons (by rw [← hl]; exact .int _ _) (ReadsAll.cons r2 .nil)
      exact h3
end
/-- where a lambda is made: its def's code object, its table -/
structure LamOk (X : Cx) (T : List (Addr × Str)) : Prop where
  ex : ∃ c P, X.env.code = .ref c ∧ LamX.TabB X.base X.mg c P ∧ (P, X.env.qual ++ "<lambda>") ∈ T ∧ ∀ p ∈ T, p.1 = P → p.2 = X.env.qual ++ "<lambda>"
section
variable {X : Cx} {pins : List (Addr × Obj)} {σ : L2.St} {H : Hp} {s : Shared}
/-- a lambda made: nothing that stood is gone, its code bears its name -/
theorem lam_made {T : List (Addr × Str)} {c P : Addr} {params : Arguments} {body : Expr} {scope : Scope} {row : Str} {pos : Pos} {E Q : Value → Shared → Prop} (I : Inv X pins σ H s) (L : LamT params body scope row) (TB : LamX.TabB X.base X.mg c P) (hcode : X.env.code = .ref c)
    (hm : (P, X.env.qual ++ "<lambda>") ∈ T) (hu : ∀ p ∈ T, p.1 = P → p.2 = X.env.qual ++ "<lambda>") (hT : LamX.Tabs T H)
    (q : ∀ (f c' : Addr) (pm ctv : Value) (H1 : Hp) (s1 : Shared), Inv X pins σ H1 s1 → LamX.ExtN H H1 → LamX.Tabs T H1 → (∀ b, H b ≠ none → H1 b ≠ none) → s1.heap.get? f = some (PySem.W.kla_obj "<lambda>" (X.env.qual ++ "<lambda>") params body scope [] pm c' ctv) →
      H1 c' = some (LamX.CodeO c' (X.env.qual ++ "<lambda>")) → Q (.ref f) s1) : wpAny (model X.prog X.w) X.A (eval (.Lambda params body scope pos) X.env) Q E s := by
  have cl0 : closureFor scope X.env = pure [] := by
    have := closure_ok (scope := scope) (env := X.env) fun y hy e => absurd e (L.nofree y hy)
    rwa [clo_nil L.nofree] at this
  obtain ⟨ps, tP, tri, tco⟩ := hT _ hm
  have atP : s.heap.get? P = some { cls := .none, data := .fields ps } := I.hok P _ tP
  have bmP := TB.bm.keeps I.bk
  have cdP := TB.code.keeps I.bk
  have glP := I.mod.glob.keeps I.bk
  refine PySem.W.kla_eval (L.dfl _) ?_
  rcases hcd : codeAmong pos ps.toList with _ | cv
  · refine PySem.W.kla_makeFunction cl0 I.ok.glob glP hcode cdP atP tri hcd TB.gP bmP ?_
    rintro c' ctv h' tk ext ge lt ⟨c2, oc, vs, t, e2, g1, g2, g3⟩ gt
    cases e2
    have nC : H c' = none := I.hok.fresh ge
    have nCP : P ≠ c' := ne_of_none tP nC
    have big : s.heap.objs.size ≤ h'.objs.size := by omega
    -- the heap behind: the table longer, the code object new
    obtain ⟨H1, eH⟩ : ∃ H1, H1 = upd (upd H P (.tbl (ps ++ #[rawInt pos.line, rawInt pos.col, .ref c']))) c' (LamX.CodeO c' (X.env.qual ++ "<lambda>")) := ⟨_, rfl⟩
    have e0 : ∀ b, b ≠ c' → b ≠ P → H1 b = H b := fun b n1 n2 => by rw [eH, upd_ne n1, upd_ne n2]
    have eC : H1 c' = some (LamX.CodeO c' (X.env.qual ++ "<lambda>")) := by rw [eH, upd_same]
    have eP : H1 P = some (.tbl (ps ++ #[rawInt pos.line, rawInt pos.col, .ref c'])) := by rw [eH, upd_ne nCP, upd_same]
    have keepN : LamX.ExtN H H1 := fun b o hb hn => by
      rw [e0 b (ne_of_none hb nC) (fun z => hn ps (by rw [z, tP] at hb; exact (Option.some.inj hb).symm))]
      exact hb
    have thr : ∀ b, H b ≠ none → H1 b ≠ none := fun b hb => by
      by_cases z : b = P
      · rw [z, eP]; exact fun y => nomatch y
      · rw [e0 b (fun y => hb (by rw [y]; exact nC)) z]; exact hb
    have I1 : Inv X pins σ H1 { s with heap := h'.push (PySem.W.kla_obj "<lambda>" (X.env.qual ++ "<lambda>") params body scope [] ((X.mg "__name__").getD .none) c' ctv), toks := tk } := by
      rw [eH]
      exact LamX.inv_table (t' := tk) I tP (fun b o n hb => Heap.get?_push_of_some _ (ext b o n hb)) (Heap.get?_push_of_some _ gt) ge ⟨oc, vs, t, Heap.get?_push_of_some _ g1, g2, g3⟩
    refine q h'.objs.size c' _ ctv H1 _ I1 keepN (fun p hp => ?_) thr (Heap.get?_push_size _ rfl) eC
    have lst : (ps ++ #[rawInt pos.line, rawInt pos.col, .ref c']).toList = ps.toList ++ [rawInt pos.line, rawInt pos.col, .ref c'] := by simp
    by_cases hpP : p.1 = P
    · rw [hpP, hu p hp hpP]
      refine ⟨_, eP, by rw [lst]; exact PySem.TriplesOk_snoc _ _ _ _ tri, fun p' cv hcv => ?_⟩
      rw [lst] at hcv
      rcases LamX.among_app _ tri hcv with z | z
      · obtain ⟨c0, z1, z2⟩ := tco p' cv z
        exact ⟨c0, z1, keepN _ _ z2 fun ps z => by unfold LamX.CodeO at z; cases z⟩
      · exact ⟨c', z, eC⟩
    · obtain ⟨ps', a1, a2, a3⟩ := hT p hp
      refine ⟨ps', by rw [e0 p.1 (ne_of_none a1 nC) hpP]; exact a1, a2, fun p' cv hcv => ?_⟩
      obtain ⟨c0, z1, z2⟩ := a3 p' cv hcv
      exact ⟨c0, z1, keepN _ _ z2 fun ps z => by unfold LamX.CodeO at z; cases z⟩
  · obtain ⟨c', rfl, hco⟩ := tco pos cv hcd
    refine PySem.W.kla_makeFunctionHit cl0 I.ok.glob glP hcode cdP atP tri hcd bmP fun ctv h' tk ext hsz => ?_
    exact q h'.objs.size c' _ ctv H _ (I.kept fun b o hb => Heap.get?_push_of_some _ (ext b o hb)) (LamX.ExtN.refl H) hT (fun b hb => hb) (Heap.get?_push_size _ rfl) hco
end
section
variable {X : Cx} {T : List (Addr × Str)} {e : Expr} {te : TE} {p pos lpos kpos : Pos} {params : Arguments} {body : Expr} {scope : Scope} {row : Str}
/-- the reading: a list of tuples; then a new one, sorted -/
def tSortK (T : List (Addr × Str)) (te : TE) : TE := fun σ H Q => te σ H fun x H1 => ∃ (S : Addr → Prop) (ds es : List D), Rep S H1 (.list ds) x ∧ sortK ds = some es ∧ LamX.Tabs T H1 ∧
  ∀ (H2 H3 : Hp) (q : Addr), LamX.ExtN H1 H2 → LamX.Tabs T H2 → (∀ b, H1 b ≠ none → H2 b ≠ none) → H2 q = none → (∀ b o, H2 b = some o → H3 b = some o) → Rep (fun a => a = q) H3 (.list es) (.ref q) → Q (.ref q) H3
theorem pe_sortK (L : LamT params body scope row) (O : LamOk X T) (hcal : X.calm = true) (hu : X.A.units + 70 < cLine) (hdp : X.A.depth + 2 < recursionLimit) (he : PE X e te) (hg : Gl X "sorted") (hm : X.mg "sorted" = none) (hml : X.mg "len" = none) (hs : starEach [e] X.env = (false, eval e X.env) :: starEach [] X.env) :
    PE X (.Call (.Name "sorted" p) [e] [⟨some "key", .Lambda params body scope lpos, kpos⟩] pos) (tSortK T te) := by
  obtain ⟨c, P, hcode, TB, hmT, huT⟩ := O.ex
  refine ⟨fun pins s σ H Q I h => ?_⟩
  refine wpAny_Call_Name_kw (ld_blt I hg hm (by decide +kernel : bootBuiltins "sorted" = some (.builtin "sorted")) ?_ (by decide) (by decide))
  refine PyProof.Rows.callWith_kw ?_ (by rw [hs]; rfl) (by rw [hs]; rfl) rfl rfl
  rw [hs]
  refine Calls.spliced_cons (thn (he.run pins s σ H _ I h) fun u s1 ⟨x, H1, I1, r1, q1⟩ => Calls.spliced_nil ?_)
  obtain ⟨S, ds, es, rd, hk, hT, q⟩ := q1
  refine wpAny_evalAll_cons (wpAny_bind (lam_made I1 L TB hcode hmT huT hT fun f c' pm ctv H2 s2 I2 eN T2 thr hf hco => wpAny_bind (wpAny_standAt (wpAny_pure (wpAny_evalAll_nil ?_)))))
  show wpAny _ _ (call (.builtin "sorted") [u] [(("key" : Str), .ref f)]) _ _ _
  obtain ⟨a, vs, rfl, h0, h1, h2⟩ := rd.list_inv
  obtain rfl : u = Value.ref a := r1
  have h1' : H2 a = some (.lst vs) := eN a _ h1 fun ps z => nomatch z
  have h2' : RepA S H2 ds vs := RepA.mono (fun a xs s e => ⟨s, eN a _ e fun ps z => nomatch z⟩) (fun a xs e => eN a _ e fun ps z => nomatch z) ds vs h2
  obtain ⟨its, rv, hl, hz⟩ := I2.list (SqL.of h1')
  have ee := each_of h2' rv
  unfold sortK at hk
  split at hk
  · rename_i z
    cases hk
    simp only [Bool.and_eq_true, decide_eq_true_eq, List.all_eq_true] at z
    obtain ⟨⟨z1, z2⟩, ⟨z3, z4⟩, z5⟩ := z
    have hL : ds.length ≤ sizeLine := by rw [line_eq]; exact z5
    obtain ⟨⟨oc, ovs, ot, hoc, hdc, hvc⟩, _, _⟩ := I2.hok c' _ hco
    obtain ⟨mb, b1, b2⟩ := I2.mod.blt
    have dep : ∀ x ∈ ds, (keyD x).depth ≤ 52 := fun x hx => by
      obtain ⟨xs, rfl⟩ := tup_of (z1 x hx)
      have := depth_all hx
      simp only [keyD, PyData.depth, PyData.depthAll] at this ⊢
      omega
    refine PySem.W.sorted_key_data (R := IsR S H2) (b := false) keyD hl.isList ee (allAlike_of z3) (.inl fun d hd => ?_) hL (fun x hx => ?_) (ksk_s1 _ _) (fun _ => ksk_l1 _ _) (fun x => ksk_t1 f x) (fun v x hv hx h tk kp => ?_) (fun out cc h' tk kp hn ho hlen hout => ?_)
    · obtain ⟨x, hx, rfl⟩ := List.mem_map.mp hd
      obtain ⟨xs, rfl⟩ := tup_of (z1 x hx)
      exact ⟨_, _, rfl⟩
    · have := dep x hx
      omega
    · obtain ⟨xs, rfl⟩ := tup_of (z1 x hx)
      obtain ⟨v', rv', rp⟩ := hv
      obtain ⟨b, ws, rfl, t1, t2⟩ := rp.tuple_inv
      obtain rfl : v = Value.ref b := rv'
      obtain ⟨as, rr⟩ := rp.reads I2 (show RelV (.ref b) (.ref b) from rfl)
      have el := reads_lf (lfs_all.mp z2 _ hx) rr
      subst el
      obtain ⟨its', rv2, pl, hz'⟩ := I2.tuple (SqT.of t1)
      have hl1 := rv2.length
      have hl2 := t2.length
      have hs2 : its'.toArray.size = xs.length := by rw [List.size_toArray]; omega
      refine lam_call (s := { s2 with heap := h, toks := tk }) L ?_ (kp _ _ hf) ⟨oc, ovs, ot, kp _ _ hoc, hdc, hvc⟩ ((I2.mod.glob.keeps I2.bk).keeps kp) hml ((b1.keeps I2.bk).keeps kp) ((b2 "len" (by decide)).trans PySem.boot_len) (I2.nolimit.keeps kp) (pl.keeps kp) ?_ (PyProof.Rows.Reads.keeps kp rr) hs2
      · show X.A.depth < recursionLimit
        omega
      · rw [hs2]
        have := hz'
        rw [line_eq] at this
        unfold LINE at this
        omega
    · obtain ⟨ws, w1, w2⟩ := of_each hout
      have np : H2 (s2.heap.objs.size + 1) = none := I2.hok.fresh (Nat.le_succ _)
      have hes : lfs (ds.mergeSort kle) = true := lfs_all.mpr fun d hd => lfs_all.mp z2 d (List.mem_mergeSort.mp hd)
      have w1' : RepA S H2 (ds.mergeSort kle) ws := w1
      have hwl : ws.length ≤ sizeLine := by
        rw [w1'.length, List.length_mergeSort]
        exact hL
      have keepU : ∀ b o, H2 b = some o → upd H2 (s2.heap.objs.size + 1) (.lst ws) b = some o := fun b o e => by
        rw [upd_ne (ne_of_none e np)]
        exact e
      refine ⟨.ref _, upd H2 (s2.heap.objs.size + 1) (.lst ws), I2.laid (t' := tk) kp (Nat.le_succ _) ⟨hwl, out, cc, w2, ho⟩, rfl, q H2 _ _ eN T2 thr np keepU ?_⟩
      exact Rep.list rfl upd_same (RepA.same keepU (RepA.lf _ _ hes w1'))
  · cases hk
def sortkF (F : Den) : Den := fun ρ g => match F ρ g with
    | some (.list ds, _, g1) => match sortK ds with
      | some es => some (.list es, .fr, g1)
      | none => none
    | _ => none
theorem FrS.extN {K : PySem.W.Frag} {H H' : Hp} {sc : Addr} {xs : List V} (e : LamX.ExtN H H') (h : FrS K H sc xs) : FrS K H' sc xs := by
  rcases h with ⟨o, h⟩ | h
  · exact .inl ⟨o, e _ _ h fun ps z => nomatch z⟩
  · exact .inr h
theorem me_sortK {F : Den} (L : LamT params body scope row) (O : LamOk X (tabT X.K)) (hcal : X.calm = true) (hu : X.A.units + 70 < cLine) (hdp : X.A.depth + 2 < recursionLimit) (he : PE X e (TEx X.K F)) (hg : Gl X "sorted") (hm : X.mg "sorted" = none) (hml : X.mg "len" = none) (hs : starEach [e] X.env = (false, eval e X.env) :: starEach [] X.env) :
    PE X (.Call (.Name "sorted" p) [e] [⟨some "key", .Lambda params body scope lpos, kpos⟩] pos) (TEx X.K (sortkF F)) := (pe_sortK L O hcal hu hdp he hg hm hml hs).weak fun σ H Q ⟨R, sc, T, ρ, g, d, t, g', ok, sr, gr, e, q⟩ => by
  unfold sortkF at e
  split at e
  · rename_i ds t1 g1 e1
    split at e
    · rename_i es hk
      cases e
      refine ⟨R, sc, T, ρ, g, _, _, _, ok, sr, gr, e1, fun v H1 x1 gr1 r1 => ⟨_, ds, es, r1, hk, gr1.2.2, fun H2 H3 p eN T2 thr np kp r3 => ?_⟩⟩
      have ok1 := ok.ext x1 gr1.ne
      have pn : p ∉ ([] : List Addr) := by simp
      have hp1 : H1 p = none := by
        cases z : H1 p with
        | none => rfl
        | some o => exact absurd np (thr p (by rw [z]; exact fun y => nomatch y))
      have x2 : Ext R H1 H3 := ⟨fun a xs n h => kp _ _ (eN _ _ h fun ps z => nomatch z), fun a o m h => kp _ _ (eN _ _ h fun ps z => dl_tbl m ps z), fun a xs h => kp _ _ (eN _ _ h fun ps z => nomatch z), fun a n h => by
        have := thr a h
        cases z : H2 a with
        | none => exact absurd z this
        | some o => rw [kp _ _ z]; exact fun y => nomatch y⟩
      refine q _ H3 (x1.trans x2) ⟨kp _ _ (eN _ _ gr1.1 fun ps z => nomatch z), (gr1.2.1.extN eN).same kp, T2.ext kp⟩ (r3.sub fun a z => ?_)
      subst z
      exact ok1.nws _ _ hp1
    · cases e
  · cases e
end
end Mi
end
section
set_option maxRecDepth 100000
set_option maxHeartbeats 4000000
/-! What is walked; comprehensions. -/
namespace Mi
open PySem PySem.Spec PyProof.Rows L2
theorem _root_.L2.PE.weakI {X : Cx} {e : Expr} {t t' : TE} (h : PE X e t) (w : ∀ σ H Q, σ.length = X.N.length → t' σ H Q → t σ H Q) : PE X e t' := ⟨fun pins s σ H Q I q => h.run pins s σ H Q I (w _ _ _ I.len q)⟩
theorem _root_.L2.PI.weakI {X : Cx} {tg e : Expr} {t t' : TI} (h : PI X tg e t) (w : ∀ σ H R', t' σ H R' → t σ H (fun J H' => (∃ pins s, Inv X pins σ H' s) → R' J H')) : PI X tg e t' := ⟨fun pins s σ H R' I q =>
  thn (h.run pins s σ H _ I (w _ _ _ q)) fun v s1 h1 => thn h1 fun itv s2 ⟨it, fp, tn, J, H', e1, I2, T, st, f, q2⟩ => ⟨it, fp, tn, J, H', e1, I2, T, st, f, q2 ⟨pins, s2, I2⟩⟩⟩
/-- lists in S and all tuples stay -/
def Kp (S : Addr → Prop) (H H' : Hp) : Prop := (∀ a xs, S a → H a = some (.lst xs) → H' a = some (.lst xs)) ∧ ∀ a xs, H a = some (.tup xs) → H' a = some (.tup xs)
theorem Rep.kp {S : Addr → Prop} {H H' : Hp} {d : D} {v : V} (k : Kp S H H') (h : Rep S H d v) : Rep S H' d v := Rep.mono (fun a xs h1 h2 => ⟨h1, k.1 a xs h1 h2⟩) k.2 d v h
theorem RepA.kp {S : Addr → Prop} {H H' : Hp} {d : List D} {v : List V} (k : Kp S H H') (h : RepA S H d v) : RepA S H' d v := RepA.mono (fun a xs h1 h2 => ⟨h1, k.1 a xs h1 h2⟩) k.2 d v h
theorem Ext.kp {R : Addr} {H H' : Hp} {S : Addr → Prop} (e : Ext R H H') (n : ¬ S R) : Kp S H H' := ⟨fun a xs h1 h2 => e.keep a _ (fun z => n (z ▸ h1)) h2, e.tups⟩
/-- only what is there counts -/
theorem Rep.alloc {S : Addr → Prop} {H : Hp} {d : D} {v : V} (h : Rep S H d v) : Rep (fun a => S a ∧ H a ≠ Option.none) H d v := Rep.mono (fun a xs h1 h2 => ⟨⟨h1, by rw [h2]; exact fun z => nomatch z⟩, h2⟩) (fun a xs h => h) d v h
theorem RepA.alloc {S : Addr → Prop} {H : Hp} {d : List D} {v : List V} (h : RepA S H d v) : RepA (fun a => S a ∧ H a ≠ Option.none) H d v := RepA.mono (fun a xs h1 h2 => ⟨⟨h1, by rw [h2]; exact fun z => nomatch z⟩, h2⟩) (fun a xs h => h) d v h
/-- how a walk goes -/
structure IterOk (S : Addr → Prop) (J : L2.It) (ds : List D) (H1 : Hp) : Prop where
  turn : ∀ H2, Kp S H1 H2 → ∀ (i : Nat) d, ds[i]? = some d → J.go i H2 ∧ ∀ x H3, J.yld i H2 x H3 → H3 = H2 ∧ Rep S H2 d x
  stop : ∀ H2, Kp S H1 H2 → J.stop ds.length H2
  len : ds.length ≤ LINE
def TIx (K : PySem.W.Frag) (F : Dens) : TI := fun σ H R' => ∃ R sc T ρ g ds t g', TOk R H T ∧ SRx R T ρ σ H ∧ GR K R sc H g ∧ F ρ g = some (ds, t, g') ∧
  ∀ J H', Ext R H H' → GR K R sc H' g' → IterOk (fun a => T t a ∧ H' a ≠ Option.none) J ds H' → R' J H'
section
variable {X : Cx} {a b c e : Expr} {F F' F'' : Den} {pos p : Pos} {tg : Expr}
def itF (F : Den) : Dens := fun ρ g => match F ρ g with
    | none => none
    | some (d, t, g1) => match items d with
      | none => none
      | some xs => some (xs, t, g1)
theorem iter_str {S : Addr → Prop} {z : Str} {H : Hp} (hl : z.length ≤ LINE) : IterOk S (Its z) (strItems z) H := by
  have hlen : (strItems z).length = z.cps.size := by unfold strItems; rw [List.length_map, Array.length_toList]
  refine ⟨fun H2 _ i d hd => ?_, fun H2 _ => ?_, ?_⟩
  · unfold strItems at hd
    rw [List.getElem?_map] at hd
    obtain ⟨c, hc, rfl⟩ := Option.map_eq_some_iff.mp hd
    rw [Array.getElem?_toList] at hc
    refine ⟨?_, fun x H3 y => ?_⟩
    · obtain ⟨hlt, _⟩ := Array.getElem?_eq_some_iff.mp hc
      exact hlt
    · obtain ⟨e1, c', e2, e3⟩ := y
      rw [hc] at e2
      cases e2
      exact ⟨e1, by rw [e3]; exact .str _⟩
  · show z.cps.size ≤ _
    rw [hlen]
    exact Nat.le_refl _
  · rw [hlen]
    exact hl
theorem iter_rng {S : Addr → Prop} {lo : Int} {n : Nat} {H : Hp} (hn : n ≤ LINE) : IterOk S (Itr lo n) (rngItems lo n) H := by
  have hlen : (rngItems lo n).length = n := by unfold rngItems; rw [List.length_map, List.length_range]
  refine ⟨fun H2 _ i d hd => ?_, fun H2 _ => ?_, ?_⟩
  · unfold rngItems at hd
    rw [List.getElem?_map] at hd
    obtain ⟨c, hc, rfl⟩ := Option.map_eq_some_iff.mp hd
    obtain ⟨hlt, e⟩ := List.getElem?_eq_some_iff.mp hc
    rw [List.length_range] at hlt
    rw [List.getElem_range] at e
    subst e
    exact ⟨hlt, fun x H3 ⟨e1, e2⟩ => ⟨e1, by rw [e2]; exact .int _⟩⟩
  · show n ≤ _
    rw [hlen]
    exact Nat.le_refl _
  · rw [hlen]
    exact hn
theorem iter_list {K : PySem.W.Frag} {S : Addr → Prop} {a : Addr} {ds : List D} {vs : List V} {H : Hp} (hs : S a) (h : H a = some (.lst vs)) (r : RepA S H ds vs) (hl : ds.length ≤ LINE) : IterOk S (Itl K a) ds H := by
  refine ⟨fun H2 k i d hd => ?_, fun H2 k => ⟨vs, SqL.of (k.1 a vs hs h), by rw [r.length]; exact Nat.le_refl _⟩, hl⟩
  obtain ⟨v, h1, h2⟩ := (r.kp k).get hd
  refine ⟨⟨vs, v, SqL.of (k.1 a vs hs h), h1⟩, fun x H3 ⟨e1, e2⟩ => ⟨e1, ?_⟩⟩
  have := e2 vs (SqL.of (k.1 a vs hs h))
  rw [h1] at this
  cases this
  exact h2
theorem iter_tup {K : PySem.W.Frag} {S : Addr → Prop} {a : Addr} {ds : List D} {vs : List V} {H : Hp} (h : H a = some (.tup vs)) (r : RepA S H ds vs) (hl : ds.length ≤ LINE) : IterOk S (Itt K a) ds H := by
  refine ⟨fun H2 k i d hd => ?_, fun H2 k => ⟨vs, SqT.of (k.2 a vs h), by rw [r.length]; exact Nat.le_refl _⟩, hl⟩
  obtain ⟨v, h1, h2⟩ := (r.kp k).get hd
  refine ⟨⟨vs, v, SqT.of (k.2 a vs h), h1⟩, fun x H3 ⟨e1, e2⟩ => ⟨e1, ?_⟩⟩
  have := e2 vs (SqT.of (k.2 a vs h))
  rw [h1] at this
  cases this
  exact h2
theorem lst_len {pins : List (Addr × Obj)} {σ : L2.St} {H : Hp} {s : Shared} {ad : Addr} {vs : List V} (I : Inv X pins σ H s) (h : H ad = some (.lst vs)) : vs.length ≤ LINE := by
  obtain ⟨z, _⟩ := (show ObjOk X.prog X.w H s.heap ad (.lst vs) from I.hok ad _ h)
  rw [line_eq] at z
  exact z
theorem tup_len {pins : List (Addr × Obj)} {σ : L2.St} {H : Hp} {s : Shared} {ad : Addr} {vs : List V} (I : Inv X pins σ H s) (h : H ad = some (.tup vs)) : vs.length ≤ LINE := by
  obtain ⟨z, _⟩ := (show ObjOk X.prog X.w H s.heap ad (.tup vs) from I.hok ad _ h)
  rw [line_eq] at z
  exact z
theorem itF_inv {ρ g xs t g'} (e : itF F ρ g = some (xs, t, g')) : ∃ d, F ρ g = some (d, t, g') ∧ items d = some xs := by
  unfold itF at e
  cases e1 : F ρ g with
  | none => rw [e1] at e; cases e
  | some p =>
    obtain ⟨d, t1, g1⟩ := p
    rw [e1] at e
    dsimp only at e
    cases e2 : items d with
    | none => rw [e2] at e; cases e
    | some ys =>
      rw [e2] at e
      cases e
      exact ⟨d, rfl, e2⟩
theorem mi_val (h : PE X e (TEx X.K F)) : PI X tg e (TIx X.K (itF F)) := by
  refine ⟨fun pins s σ H R' I ⟨R, sc, T, ρ, g, xs, t, g', ok, sr, gr, e1, q⟩ => ?_⟩
  obtain ⟨d, e2, e3⟩ := itF_inv e1
  cases d with
  | list ds =>
    cases e3
    refine ((pi_list (tg := tg) h).weakI (t' := fun σ' H' R'' => σ' = σ ∧ H' = H ∧ R'' = R') fun σ' H' R'' ⟨a1, a2, a3⟩ => ?_).run pins s σ H R' I ⟨rfl, rfl, rfl⟩
    subst a1 a2 a3
    refine ⟨R, sc, T, ρ, g, _, t, g', ok, sr, gr, e2, fun v H1 x1 gr1 r1 => ?_⟩
    obtain ⟨ad, vs, rfl, hs, hl, hr⟩ := r1.list_inv
    refine ⟨ad, rfl, ⟨vs, SqL.of hl⟩, fun ⟨pins', s', I'⟩ => q _ H1 x1 gr1 (iter_list ⟨hs, by rw [hl]; exact fun z => nomatch z⟩ hl hr.alloc (by rw [← hr.length]; exact lst_len I' hl))⟩
  | tuple ds =>
    cases e3
    refine ((pi_tup (tg := tg) h).weakI (t' := fun σ' H' R'' => σ' = σ ∧ H' = H ∧ R'' = R') fun σ' H' R'' ⟨a1, a2, a3⟩ => ?_).run pins s σ H R' I ⟨rfl, rfl, rfl⟩
    subst a1 a2 a3
    refine ⟨R, sc, T, ρ, g, _, t, g', ok, sr, gr, e2, fun v H1 x1 gr1 r1 => ?_⟩
    obtain ⟨ad, vs, rfl, hl, hr⟩ := r1.tuple_inv
    refine ⟨ad, rfl, ⟨vs, SqT.of hl⟩, fun ⟨pins', s', I'⟩ => q _ H1 x1 gr1 (iter_tup hl hr.alloc (by rw [← hr.length]; exact tup_len I' hl))⟩
  | str z =>
    unfold items at e3
    dsimp only at e3
    split at e3
    · rename_i hz
      cases e3
      refine (pi_str (tg := tg) h).run pins s σ H R' I ⟨R, sc, T, ρ, g, _, t, g', ok, sr, gr, e2, fun v H1 x1 gr1 r1 => ⟨z, r1.str_inv, q _ H1 x1 gr1 (iter_str hz)⟩⟩
    · cases e3
  | none => cases e3
  | bool _ => cases e3
  | int _ => cases e3
  | dict _ => cases e3
def rng1F (F : Den) : Dens := fun ρ g => match F ρ g with
    | none => none
    | some (d, _, g1) => match rng (.int 0) d with
      | none => none
      | some xs => some (xs, .fr, g1)
def rng2F (F F' : Den) : Dens := fun ρ g => match F ρ g with
    | none => none
    | some (x, _, g1) => match F' ρ g1 with
      | none => none
      | some (y, _, g2) => match rng x y with
        | none => none
        | some xs => some (xs, .fr, g2)
theorem rng_inv {x y : D} {xs : List D} (e : rng x y = some xs) : ∃ i j, x = .int i ∧ y = .int j ∧ SMALL i ∧ SMALL j ∧ xs = rngItems i (j - i).toNat := by
  unfold rng at e
  split at e
  · split at e
    · rename_i h
      cases e
      exact ⟨_, _, rfl, rfl, h.1, h.2, rfl⟩
    · cases e
  · cases e
theorem mi_rng1 (h : PE X a (TEx X.K F)) (hg : Gl X "range") (hm : X.mg "range" = none) (hs : starEach [a] X.env = [(false, eval a X.env)]) : PI X tg (.Call (.Name "range" p) [a] [] pos) (TIx X.K (rng1F F)) := by
  refine ⟨fun pins s σ H R' I ⟨R, sc, T, ρ, g, xs, t, g', ok, sr, gr, e, q⟩ => (pi_range1 (tg := tg) hg hm (pa_cons h pa_nil hs) hs).run pins s σ H R' I ?_⟩
  unfold rng1F at e
  cases e1 : F ρ g with
  | none => rw [e1] at e; cases e
  | some z =>
    obtain ⟨d, t1, g1⟩ := z
    rw [e1] at e
    dsimp only at e
    cases e2 : rng (.int 0) d with
    | none => rw [e2] at e; cases e
    | some ys =>
      rw [e2] at e
      cases e
      obtain ⟨i, j, ei, rfl, s1, s2, rfl⟩ := rng_inv e2
      cases ei
      unfold SMALL at s1 s2
      refine ⟨R, sc, T, ρ, g, _, _, _, ok, sr, gr, e1, fun v H1 x1 gr1 r1 => ⟨j, by rw [r1.int_inv], by omega, by omega, ?_⟩⟩
      rw [show j.toNat = (j - 0).toNat by omega]
      exact q _ H1 x1 gr1 (iter_rng (by show _ ≤ 16777216; omega))
theorem mi_rng2 (h : PE X a (TEx X.K F)) (h' : PE X b (TEx X.K F')) (hg : Gl X "range") (hm : X.mg "range" = none) (hs : starEach [a, b] X.env = [(false, eval a X.env), (false, eval b X.env)]) (hs2 : starEach [b] X.env = [(false, eval b X.env)]) :
    PI X tg (.Call (.Name "range" p) [a, b] [] pos) (TIx X.K (rng2F F F')) := by
  refine ⟨fun pins s σ H R' I ⟨R, sc, T, ρ, g, xs, t, g', ok, sr, gr, e, q⟩ => (pi_range2 (tg := tg) hg hm (pa_cons h (pa_cons h' pa_nil hs2) (by rw [hs, hs2])) hs hs2).run pins s σ H R' I ?_⟩
  unfold rng2F at e
  cases e1 : F ρ g with
  | none => rw [e1] at e; cases e
  | some z =>
    obtain ⟨d, t1, g1⟩ := z
    rw [e1] at e
    dsimp only at e
    cases e3 : F' ρ g1 with
    | none => rw [e3] at e; cases e
    | some z =>
      obtain ⟨d', t2, g2⟩ := z
      rw [e3] at e
      dsimp only at e
      cases e2 : rng d d' with
      | none => rw [e2] at e; cases e
      | some ys =>
        rw [e2] at e
        cases e
        obtain ⟨i, j, rfl, rfl, s1, s2, rfl⟩ := rng_inv e2
        unfold SMALL at s1 s2
        refine ⟨R, sc, T, ρ, g, _, _, _, ok, sr, gr, e1, fun v H1 x1 gr1 r1 => ⟨R, sc, T, ρ, g1, _, _, _, ok.ext x1 gr1.ne, sr.ext x1 ok.nr, gr1, e3, fun u H2 x2 gr2 r2 => ⟨i, j, by rw [r1.int_inv, r2.int_inv], ⟨by omega, by omega, by omega, by omega⟩, ?_⟩⟩⟩
        exact q _ H2 (x1.trans x2) gr2 (iter_rng (by show _ ≤ 16777216; omega))
def rng3F (F F' F'' : Den) : Dens := fun ρ g => match F ρ g with
    | none => none
    | some (x, _, g1) => match F' ρ g1 with
      | none => none
      | some (y, _, g2) => match F'' ρ g2 with
        | none => none
        | some (z, _, g3) => match rngN x y z with
          | none => none
          | some xs => some (xs, .fr, g3)
theorem rngN_inv {x y z : D} {xs : List D} (e : rngN x y z = some xs) : ∃ i j, x = .int i ∧ y = .int j ∧ z = .int (-1) ∧ SMALL i ∧ SMALL j ∧ xs = dnItems i (i - j).toNat := by
  unfold rngN at e
  split at e
  · split at e
    · rename_i h
      cases e
      exact ⟨_, _, rfl, rfl, by rw [h.2.2], h.1, h.2.1, rfl⟩
    · cases e
  · cases e
theorem iter_dn {S : Addr → Prop} {lo : Int} {n : Nat} {H : Hp} (hn : n ≤ LINE) : IterOk S (Itc lo (-1) n) (dnItems lo n) H := by
  have hlen : (dnItems lo n).length = n := by unfold dnItems; rw [List.length_map, List.length_range]
  refine ⟨fun H2 _ i d hd => ?_, fun H2 _ => ?_, ?_⟩
  · unfold dnItems at hd
    rw [List.getElem?_map] at hd
    obtain ⟨c, hc, rfl⟩ := Option.map_eq_some_iff.mp hd
    obtain ⟨hlt, e⟩ := List.getElem?_eq_some_iff.mp hc
    rw [List.length_range] at hlt
    rw [List.getElem_range] at e
    subst e
    refine ⟨hlt, fun x H3 ⟨e1, e2⟩ => ⟨e1, ?_⟩⟩
    rw [e2, show lo + (i : Int) * (-1) = lo - i by omega]
    exact .int _
  · show n ≤ _
    rw [hlen]
    exact Nat.le_refl _
  · rw [hlen]
    exact hn
theorem mi_rng3 (h : PE X a (TEx X.K F)) (h' : PE X b (TEx X.K F')) (h'' : PE X c (TEx X.K F'')) (hg : Gl X "range") (hm : X.mg "range" = none) (hs : starEach [a, b, c] X.env = [(false, eval a X.env), (false, eval b X.env), (false, eval c X.env)]) (hs2 : starEach [b, c] X.env = [(false, eval b X.env), (false, eval c X.env)]) (hs3 : starEach [c] X.env = [(false, eval c X.env)]) :
    PI X tg (.Call (.Name "range" p) [a, b, c] [] pos) (TIx X.K (rng3F F F' F'')) := by
  refine ⟨fun pins s σ H R' I ⟨R, sc, T, ρ, g, xs, t, g', ok, sr, gr, e, q⟩ => (pi_range3 (tg := tg) hg hm (pa_cons h (pa_cons h' (pa_cons h'' pa_nil hs3) (by rw [hs2, hs3])) (by rw [hs, hs2])) (by rw [hs, hs2]) (by rw [hs2]; rfl)).run pins s σ H R' I ?_⟩
  unfold rng3F at e
  cases e1 : F ρ g with
  | none => rw [e1] at e; cases e
  | some z =>
    obtain ⟨d, t1, g1⟩ := z
    rw [e1] at e
    dsimp only at e
    cases e3 : F' ρ g1 with
    | none => rw [e3] at e; cases e
    | some z =>
      obtain ⟨d', t2, g2⟩ := z
      rw [e3] at e
      dsimp only at e
      cases e4 : F'' ρ g2 with
      | none => rw [e4] at e; cases e
      | some z =>
        obtain ⟨d2, t3, g3⟩ := z
        rw [e4] at e
        dsimp only at e
        cases e2 : rngN d d' d2 with
        | none => rw [e2] at e; cases e
        | some ys =>
          rw [e2] at e
          cases e
          obtain ⟨i, j, rfl, rfl, rfl, s1, s2, rfl⟩ := rngN_inv e2
          unfold SMALL at s1 s2
          refine ⟨R, sc, T, ρ, g, _, _, _, ok, sr, gr, e1, fun v H1 x1 gr1 r1 => ⟨R, sc, T, ρ, g1, _, _, _, ok.ext x1 gr1.ne, sr.ext x1 ok.nr, gr1, e3, fun u H2 x2 gr2 r2 => ⟨R, sc, T, ρ, g2, _, _, _, ok.ext (x1.trans x2) gr2.ne, sr.ext (x1.trans x2) ok.nr, gr2, e4, fun u' H3 x3 gr3 r3 => ⟨i, j, -1, (i - j).toNat, by rw [r1.int_inv, r2.int_inv, r3.int_inv], RgC.neg (by omega) (by omega) (by omega) (by omega), ?_⟩⟩⟩⟩
          exact q _ H3 ((x1.trans x2).trans x3) gr3 (iter_dn (by show _ ≤ 16777216; omega))
end
end Mi
end
section
set_option maxRecDepth 100000
set_option maxHeartbeats 4000000
/-! Targets; comprehensions. -/
namespace Mi
open PySem PySem.Spec PyProof.Rows L2
/-! ### targets -/
def gNames : List Nat → TGs
  | [] => gNil
  | i :: is => gCons (gName i) (gNames is)
def gT (K : PySem.W.Frag) : Tg → TG
  | .one i => gName i
  | .many l => gTup K l.length (gNames l)
theorem wipe_set {σ : L2.St} {i : Nat} {x : Option V} : ∀ {vs : List Nat}, i ∈ vs → wipe (σ.set i x) vs = wipe σ vs
  | v :: vs, h => by
    unfold wipe
    by_cases hv : i ∈ vs
    · rw [wipe_set hv]
    · have e : i = v := by
        rcases List.mem_cons.mp h with e | e
        · exact e
        · exact absurd e hv
      subst e
      have comm : ∀ {us : List Nat}, i ∉ us → wipe (σ.set i x) us = (wipe σ us).set i x := by
        intro us
        induction us with
        | nil => intro _; rfl
        | cons u us ih =>
          intro hn
          rw [List.mem_cons, not_or] at hn
          unfold wipe
          rw [ih hn.2, List.set_comm _ _ hn.1]
      rw [comm hv, List.set_set]
section
variable {R : Addr} {T : Tag → Addr → Prop} {H : Hp}
theorem SRx.set {ρ : Ex} {σ : L2.St} {i : Nat} {d : D} {t : Tag} {v : V} (h : SRx R T ρ σ H) (hi : i < σ.length) (r : Rep (T t) H d v) : SRx R T (ρ.set i (.val d t)) (σ.set i (some v)) H := by
  intro j s hj
  by_cases e : i = j
  · subst e
    have hl : i < ρ.length := by
      rcases Nat.lt_or_ge i ρ.length with z | z
      · exact z
      · rw [List.getElem?_eq_none (by rw [List.length_set]; exact z)] at hj
        cases hj
    rw [List.getElem?_set_self hl] at hj
    cases hj
    exact ⟨v, List.getElem?_set_self hi, r⟩
  · rw [List.getElem?_set_ne e] at hj ⊢
    exact h j s hj
theorem SRx.wipe {ρ : Ex} {σ : L2.St} (h : SRx R T ρ σ H) : ∀ vs : List Nat, SRx R T (wipeX ρ vs) (wipe σ vs) H
  | [] => h
  | v :: vs => by
    intro j s hj
    unfold wipeX at hj
    unfold L2.wipe
    by_cases e : v = j
    · subst e
      have hl : v < (wipeX ρ vs).length := by
        rcases Nat.lt_or_ge v (wipeX ρ vs).length with z | z
        · exact z
        · rw [List.getElem?_eq_none (by rw [List.length_set]; exact z)] at hj
          cases hj
      rw [List.getElem?_set_self hl] at hj
      cases hj
      exact True.intro
    · rw [List.getElem?_set_ne e] at hj ⊢
      exact SRx.wipe h vs j s hj
theorem gAll_ok : ∀ {l : List Nat} {ds : List D} {t : Tag} {ρ ρ' : Ex} {σ : L2.St} {vs : List V} {ws : List Nat} {Q : L2.St → Hp → Prop}, setAll l ds t ρ = some ρ' → SRx R T ρ σ H → RepA (T t) H ds vs → (∀ i ∈ l, i < σ.length) → (∀ i ∈ l, i ∈ ws) →
    (∀ σ', SRx R T ρ' σ' H → σ'.length = σ.length → L2.wipe σ' ws = L2.wipe σ ws → (∀ j, j ∉ l → σ'[j]? = σ[j]?) → Q σ' H) → gNames l vs σ H Q
  | [], [], t, ρ, ρ', σ, vs, ws, Q, e, sr, r, _, _, q => by
    cases e
    exact ⟨r.nil_inv, q σ sr rfl rfl fun _ _ => rfl⟩
  | i :: is, d :: ds, t, ρ, ρ', σ, vs, ws, Q, e, sr, r, hl, hw, q => by
    obtain ⟨v, r', e1, h1, h2⟩ := r.inv
    refine ⟨v, r', e1, ?_⟩
    show gNames is r' (σ.set i (some v)) H Q
    refine gAll_ok (ρ := ρ.set i (.val d t)) e (sr.set (hl i (List.mem_cons_self ..)) h1) h2 (fun j hj => by rw [List.length_set]; exact hl j (List.mem_cons_of_mem _ hj)) (fun j hj => hw j (List.mem_cons_of_mem _ hj)) fun σ' s' l' w' o' => q σ' s' (by rw [l', List.length_set]) (by rw [w', wipe_set (hw i (List.mem_cons_self ..))]) fun j hj => ?_
    rw [List.mem_cons, not_or] at hj
    rw [o' j hj.2, List.getElem?_set_ne (Ne.symm hj.1)]
  | [], _ :: _, _, _, _, _, _, _, _, e, _, _, _, _, _ => by cases e
  | _ :: _, [], _, _, _, _, _, _, _, e, _, _, _, _, _ => by cases e
theorem setAll_len : ∀ {l : List Nat} {ds : List D} {t : Tag} {ρ ρ' : Ex}, setAll l ds t ρ = some ρ' → ds.length = l.length
  | [], [], _, _, _, _ => rfl
  | i :: is, d :: ds, t, ρ, ρ', e => by rw [List.length_cons, List.length_cons, setAll_len (ρ := ρ.set i (.val d t)) e]
  | [], _ :: _, _, _, _, e => by cases e
  | _ :: _, [], _, _, _, e => by cases e
theorem gT_ok {K : PySem.W.Frag} {tg : Tg} {d : D} {t : Tag} {ρ ρ' : Ex} {σ : L2.St} {v : V} {Q : L2.St → Hp → Prop} (e : setT tg d t ρ = some ρ') (sr : SRx R T ρ σ H) (r : Rep (T t) H d v) (hl : ∀ i ∈ tg.list, i < σ.length)
    (q : ∀ σ', SRx R T ρ' σ' H → σ'.length = σ.length → L2.wipe σ' tg.list = L2.wipe σ tg.list → (∀ j, j ∉ tg.list → σ'[j]? = σ[j]?) → Q σ' H) : gT K tg v σ H Q := by
  cases tg with
  | one i =>
    cases e
    refine q _ (sr.set (hl i (List.mem_singleton.mpr rfl)) r) (List.length_set ..) (wipe_set (List.mem_singleton.mpr rfl)) fun j hj => ?_
    have hj : j ∉ [i] := hj
    rw [List.mem_singleton] at hj
    exact List.getElem?_set_ne (Ne.symm hj)
  | many l =>
    unfold setT at e
    dsimp only at e
    split at e
    · rename_i ds
      obtain ⟨a, vs, rfl, h1, h2⟩ := r.tuple_inv
      exact ⟨a, vs, rfl, SqT.of h1, by rw [h2.length, setAll_len e], gAll_ok e sr h2 hl (fun _ h => h) q⟩
    · cases e
end
/-! ### tests in a row -/
abbrev Dent := Ex → G → Option (Bool × G)
def TCx (K : PySem.W.Frag) (F : Dent) : TT := fun σ H Q => ∃ R sc T ρ g b g', TOk R H T ∧ SRx R T ρ σ H ∧ GR K R sc H g ∧ F ρ g = some (b, g') ∧ ∀ H', Ext R H H' → GR K R sc H' g' → Q b H'
def yesC : Dent := fun _ g => some (true, g)
def oneC (F : Den) : Dent := fun ρ g => match F ρ g with
    | some (.bool b, _, g1) => some (b, g1)
    | _ => none
theorem _root_.L2.PTs.weak {X : Cx} {e : List Expr} {t t' : TT} (h : PTs X e t) (w : ∀ σ H Q, t' σ H Q → t σ H Q) : PTs X e t' := ⟨fun pins s σ H Q I q => h.run pins s σ H Q I (w _ _ _ q)⟩
section
variable {X : Cx} {a b c e : Expr} {F : Den} {pos p : Pos} {tg : Expr}
theorem mc_nil : PTs X [] (TCx X.K yesC) := pts_nil.weak fun σ H Q ⟨R, sc, T, ρ, g, b, g', ok, sr, gr, e, q⟩ => by
  cases e
  exact q _ (Ext.refl _ _) gr
theorem mc_one (h : PT X a (TTx X.K F)) : PTs X [a] (TCx X.K (oneC F)) := (pts_one h).weak fun σ H Q ⟨R, sc, T, ρ, g, b, g', ok, sr, gr, e, q⟩ => by
  unfold oneC at e
  split at e
  · rename_i b' t g1 e1
    cases e
    exact ⟨R, sc, T, ρ, g, _, _, _, ok, sr, gr, e1, q⟩
  · cases e
/-! ### comprehensions -/
def stepC (tg : Tg) (t : Tag) (FC : Dent) (FE : Den) (ρ : Ex) (x : D) (g : G) : Option (Option (D × Tag) × G) := match setT tg x (nrm x t) (wipeX ρ tg.list) with
        | none => none
        | some ρ' => match FC ρ' g with
          | none => none
          | some (false, g2) => some (none, g2)
          | some (true, g2) => match FE ρ' g2 with
            | none => none
            | some (d, u, g3) => some (some (d, u), g3)
def compF (FI : Dens) (tg : Tg) (FC : Dent) (FE : Den) : Den := fun ρ g => match FI ρ g with
    | none => none
    | some (xs, t, g1) => match compL (stepC tg t FC FE ρ) xs g1 with
      | none => none
      | some (ys, u, g2) => some (.list ys, u, g2)
theorem compL_cons {f : D → G → Option (Option (D × Tag) × G)} {x : D} {xs : List D} {g g2 : G} {ys : List D} {t : Tag} (e : compL f (x :: xs) g = some (ys, t, g2)) : ∃ r g1 ys' t', f x g = some (r, g1) ∧ compL f xs g1 = some (ys', t', g2) ∧
    ((r = none ∧ ys = ys' ∧ t = t') ∨ ∃ y ty, r = some (y, ty) ∧ ys = y :: ys' ∧ t = ty.mx t') := by
  unfold compL at e
  cases e1 : f x g with
  | none => rw [e1] at e; cases e
  | some p =>
    obtain ⟨r, g1⟩ := p
    rw [e1] at e
    dsimp only at e
    cases e2 : compL f xs g1 with
    | none => rw [e2] at e; cases e
    | some p =>
      obtain ⟨ys', t', g3⟩ := p
      rw [e2] at e
      dsimp only at e
      cases r with
      | none =>
        cases e
        exact ⟨_, _, _, _, rfl, e2, .inl ⟨rfl, rfl, rfl⟩⟩
      | some q =>
        obtain ⟨y, ty⟩ := q
        cases e
        exact ⟨_, _, _, _, rfl, e2, .inr ⟨y, ty, rfl, rfl, rfl⟩⟩
theorem comp_gen {tgl : Tg} {FI : Dens} {FC : Dent} {FE : Den} {σ : L2.St} {H : Hp} {Q : VK} {R sc T ρ g d t g'} (hlen : ∀ i ∈ tgl.list, i < σ.length) (ok : TOk R H T) (sr : SRx R T ρ σ H) (gr : GR X.K R sc H g) (e : compF FI tgl FC FE ρ g = some (d, t, g'))
    (q : ∀ v H', Ext R H H' → GR X.K R sc H' g' → Rep (T t) H' d v → Q v H') : tLc (TIx X.K FI) (gT X.K tgl) (TCx X.K FC) (TEx X.K FE) tgl.list σ H Q := by
  unfold compF at e
  cases e1 : FI ρ g with
  | none => rw [e1] at e; cases e
  | some p =>
    obtain ⟨xs, t1, g1⟩ := p
    rw [e1] at e
    dsimp only at e
    cases e2 : compL (stepC tgl t1 FC FE ρ) xs g1 with
    | none => rw [e2] at e; cases e
    | some p =>
      obtain ⟨ys, u, g2⟩ := p
      rw [e2] at e
      cases e
      refine ⟨R, sc, T, ρ, g, xs, t1, g1, ok, sr, gr, e1, fun J H1 x1 gr1 it D hD => ?_⟩
      have ok1 := ok.ext x1 gr1.ne
      have hDR : D ≠ R := fun z => gr1.ne (z ▸ hD)
      have hD0 : H D = none := x1.none gr1.ne hD
      refine ⟨fun i m Hn => m = xs.length - i ∧ i ≤ xs.length ∧ ∃ acc done gi rest ti, Hn D = some (.lst acc) ∧ Ext R H1 Hn ∧ GR X.K R sc Hn gi ∧ RepA (fun a => T t a ∧ a ≠ D) Hn done acc ∧ compL (stepC tgl t1 FC FE ρ) (xs.drop i) gi = some (rest, ti, g') ∧ done ++ rest = ys ∧ (∀ a, T ti a → T t a) ∧ done.length ≤ i,
        ⟨xs.length, by simp, Nat.zero_le _, [], [], g1, ys, t, upd_same, ⟨fun a o n h => by rw [upd_ne (ne_of_none h hD)]; exact h, fun a o m h => by rw [upd_ne (ne_of_none h hD)]; exact h, fun a o h => by rw [upd_ne (ne_of_none h hD)]; exact h, fun a _ h => thr_same (same_upd hD) a h⟩, ?_, .nil, e2, rfl, fun _ z => z, Nat.le_refl _⟩, ?_⟩
      · exact gr1.same (same_upd hD)
      · rintro i m Hn ⟨rfl, hi, acc, done, gi, rest, ti, hacc, xn, gn, rn, ec, eys, le, dl⟩
        have kp : Kp (fun a => T t1 a ∧ H1 a ≠ Option.none) H1 Hn := xn.kp fun z => ok.nr _ z.1
        rcases Nat.lt_or_ge i xs.length with hlt | hge
        · rw [List.drop_eq_getElem_cons hlt] at ec
          obtain ⟨r, ga, ys', t', f1, f2, f3⟩ := compL_cons ec
          obtain ⟨go, turn⟩ := it.turn Hn kp i xs[i] (List.getElem?_eq_getElem hlt)
          refine .inr ⟨go, fun Hn => ∃ acc done rest ti, Hn D = some (.lst acc) ∧ Ext R H1 Hn ∧ GR X.K R sc Hn ga ∧ RepA (fun a => T t a ∧ a ≠ D) Hn done acc ∧ compL (stepC tgl t1 FC FE ρ) (xs.drop (i + 1)) ga = some (rest, ti, g') ∧ done ++ rest = ys ∧ (∀ a, T ti a → T t a) ∧ done.length ≤ i + 1, fun H' ⟨acc, done, rest, ti, z1, z2, z3, z4, z5, z6, z7, z8⟩ => ⟨xs.length - (i + 1), by omega, rfl, hlt, acc, done, ga, rest, ti, z1, z2, z3, z4, z5, z6, z7, z8⟩, fun x H3 y => ?_⟩
          obtain ⟨rfl, rx⟩ := turn x H3 y
          -- in the block nothing looks at the new list
          have okB : TOk R H3 (fun t a => T t a ∧ a ≠ D) := ⟨fun a z => ⟨ok.up1 a z.1, z.2⟩, fun a z => ⟨ok.up2 a z.1, z.2⟩, fun t z => ok.nr t z.1, fun a z => ⟨(ok1.ext xn gn.ne).nw a z, fun w => by rw [w, hacc] at z; cases z⟩⟩
          have rxB : Rep ((fun t a => T t a ∧ a ≠ D) (nrm xs[i] t1)) H3 xs[i] x := by
            have : Rep ((fun t a => T t a ∧ a ≠ D) t1) H3 xs[i] x := rx.sub fun a z => ⟨z.1, fun w => z.2 (by rw [w]; exact hD)⟩
            exact rep_nrm (T := fun t a => T t a ∧ a ≠ D) this
          have srB : SRx R (fun t a => T t a ∧ a ≠ D) ρ σ H3 := by
            intro j s hj
            have := sr j s hj
            cases s with
            | no => exact True.intro
            | row => exact this
            | val d0 t0 =>
              obtain ⟨v0, w1, w2⟩ := this
              refine ⟨v0, w1, ((w2.alloc.ext x1 fun z => ok.nr _ z.1).ext xn fun z => ok.nr _ z.1).sub fun a z => ⟨z.1, fun w => z.2 (by rw [w]; exact hD0)⟩⟩
            | dct es =>
              obtain ⟨b0, kvs, w1, w2, w3⟩ := this
              exact ⟨b0, kvs, w1, xn.rd (x1.rd w2), w3.imp fun _ _ w2 => ((w2.alloc.ext x1 fun z => ok.nr _ z.1).ext xn fun z => ok.nr _ z.1).sub fun a z => ⟨z.1, fun w => z.2 (by rw [w]; exact hD0)⟩⟩
          unfold stepC at f1
          cases e3 : setT tgl xs[i] (nrm xs[i] t1) (wipeX ρ tgl.list) with
          | none => rw [e3] at f1; cases f1
          | some ρ' =>
            rw [e3] at f1
            dsimp only at f1
            refine gT_ok e3 (srB.wipe _) rxB (fun j hj => by rw [wipe_length]; exact hlen j hj) fun σ2 s2 l2 w2 _ => ⟨?_, ?_⟩
            · rw [w2]
              have ww : ∀ vs us : List Nat, (∀ i ∈ us, i ∈ vs) → L2.wipe (L2.wipe σ vs) us = L2.wipe σ vs := by
                intro vs us hsub
                induction us with
                | nil => rfl
                | cons w us ih =>
                  show (L2.wipe (L2.wipe σ vs) us).set w none = _
                  rw [ih fun i hi => hsub i (List.mem_cons_of_mem _ hi)]
                  have hw := hsub w (List.mem_cons_self ..)
                  apply List.ext_getElem?
                  intro j
                  by_cases e : w = j
                  · subst e
                    by_cases hl : w < (L2.wipe σ vs).length
                    · rw [List.getElem?_set_self hl]
                      have wn : ∀ {vs : List Nat}, w ∈ vs → ∀ x, (L2.wipe σ vs)[w]? = some x → x = none := by
                        intro vs
                        induction vs with
                        | nil => intro h; cases h
                        | cons v vs ih =>
                          intro h x hx
                          unfold L2.wipe at hx
                          by_cases e : v = w
                          · subst e
                            by_cases hl : v < (L2.wipe σ vs).length
                            · rw [List.getElem?_set_self hl] at hx
                              cases hx
                              rfl
                            · rw [List.getElem?_eq_none (by rw [List.length_set]; omega)] at hx
                              cases hx
                          · rw [List.getElem?_set_ne e] at hx
                            rcases List.mem_cons.mp h with z | z
                            · exact absurd z.symm e
                            · exact ih z x hx
                      rw [List.getElem?_eq_getElem hl]
                      rw [wn hw _ (List.getElem?_eq_getElem hl)]
                    · rw [List.getElem?_eq_none (by rw [List.length_set]; omega), List.getElem?_eq_none (by omega)]
                  · rw [List.getElem?_set_ne e]
              exact ww _ _ fun _ h => h
            · cases e4 : FC ρ' gi with
              | none => rw [e4] at f1; cases f1
              | some p =>
                obtain ⟨b, gb⟩ := p
                rw [e4] at f1
                refine ⟨R, sc, _, ρ', gi, b, gb, okB, s2, gn, e4, fun H4 x4 gr4 => ?_⟩
                have ok4 := okB.ext x4 gr4.ne
                have nR : ∀ (u : Tag), ¬ (T u R ∧ R ≠ D) := fun u z => ok.nr u z.1
                cases b with
                | false =>
                  cases f1
                  rcases f3 with ⟨_, rfl, rfl⟩ | ⟨y, ty, z, _⟩
                  · exact iteF ⟨acc, done, rest, ti, x4.keep D _ hDR hacc, xn.trans x4, gr4, rn.ext x4 (nR _), f2, eys, le, Nat.le_succ_of_le dl⟩
                  · cases z
                | true =>
                  dsimp only at f1
                  cases e5 : FE ρ' gb with
                  | none => rw [e5] at f1; cases f1
                  | some p =>
                    obtain ⟨dv, uv, gc⟩ := p
                    rw [e5] at f1
                    cases f1
                    rcases f3 with ⟨z, _⟩ | ⟨y, ty, z, rfl, rfl⟩
                    · cases z
                    · cases z
                      refine iteT ⟨R, sc, _, ρ', gb, dv, uv, ga, ok4, s2.ext x4 okB.nr, gr4, e5, fun v H5 x5 gr5 r5 => ?_⟩
                      have hD5 : H5 D = some (.lst acc) := x5.keep D _ hDR (x4.keep D _ hDR hacc)
                      have rn5 := (rn.ext x4 (nR _)).ext x5 (nR _)
                      have x45 := (xn.trans x4).trans x5
                      have uppd : ∀ (ds : List Mi.D) (vs : List V), RepA (fun a => T t a ∧ a ≠ D) H5 ds vs → RepA (fun a => T t a ∧ a ≠ D) (upd H5 D (.lst (acc ++ [v]))) ds vs := fun ds vs h => h.mono (fun a us h1 h2 => ⟨h1, by rw [upd_ne h1.2]; exact h2⟩) fun a us h => by
                        rw [upd_ne (ne_of h hD5 fun z => by cases z)]
                        exact h
                      refine ⟨acc, hD5, ?_, acc ++ [v], done ++ [dv], ys', t', upd_same, ⟨fun a o n h => ?_, fun a o m h => by rw [upd_ne (ne_of_none h hD)]; exact x45.dk a o m h, fun a o h => ?_, fun a n h => ?_⟩, gr5.upd hD5 hDR, uppd _ _ (rn5.append (.cons (r5.sub fun a z => ⟨le a (ok4.le uv t' a z |>.1), z.2⟩) .nil)), f2, by rw [← eys, List.append_assoc]; rfl, fun a z => le a (ok.ri _ _ a z), by rw [List.length_append]; simp only [List.length_cons, List.length_nil]; omega⟩
                      · have h1 := it.len
                        have h2 := rn.length
                        rw [line_eq]
                        omega
                      · have hn : a ≠ D := ne_of_none h hD
                        rw [upd_ne hn]
                        exact x45.keep a o n h
                      · have hn : a ≠ D := ne_of_none h hD
                        rw [upd_ne hn]
                        exact x45.tups a o h
                      · by_cases hn : a = D
                        · subst hn; rw [upd_same]; exact fun z => nomatch z
                        · rw [upd_ne hn]
                          exact x45.thr a n h
        · have ei : i = xs.length := by omega
          subst ei
          rw [List.drop_length] at ec
          cases ec
          rw [List.append_nil] at eys
          subst eys
          refine .inl ⟨it.stop Hn kp, q _ Hn (x1.trans xn) gn (Rep.list (ok1.nws t D hD) hacc (rn.sub fun a z => z.1))⟩
theorem me_comp {tgl : Tg} {FI : Dens} {FC : Dent} {FE : Den} {elt iter : Expr} {ifs : List Expr} {scope : Scope} {own : List (Str × Nat)} (hc : X.calm = true) (hN : X.N.Nodup) (hi : PI X tg iter (TIx X.K FI)) (ok : BlkOk X.N X.env.scope scope own) (ho : own.map (·.2) = tgl.list) (hl : ∀ i ∈ tgl.list, i < X.N.length)
    (hg : ∀ (s : Shared) (H : Hp) (C : Addr) (cl : List (Str × Addr)) (fp : List Addr), PG (X.blk s H scope (compEnvC scope cl C X.env) fp) tg (gT X.K tgl)) (ht : ∀ (s : Shared) (H : Hp) (C : Addr) (cl : List (Str × Addr)) (fp : List Addr), PTs (X.blk s H scope (compEnvC scope cl C X.env) fp) ifs (TCx X.K FC))
    (he : ∀ (s : Shared) (H : Hp) (C : Addr) (cl : List (Str × Addr)) (fp : List Addr), PE (X.blk s H scope (compEnvC scope cl C X.env) fp) elt (TEx X.K FE)) (hs : ∀ x, foldedSetIterable iter X.env x = pure x) :
    PE X (.ListComp elt [⟨tg, iter, ifs, 0⟩] scope pos) (TEx X.K (compF FI tgl FC FE)) := by
  refine (pe_lc hc hN hi ok hg ht he hs).weakI fun σ H Q hlen ⟨R, sc, T, ρ, g, d, t, g', ok, sr, gr, e, q⟩ => ?_
  rw [ho]
  exact comp_gen (fun i h => by rw [hlen]; exact hl i h) ok sr gr e q
end
end Mi
end
section
set_option maxRecDepth 100000
set_option maxHeartbeats 8000000
/-! An expression of the text against one of the small language; that its meaning is what the machine does. -/
namespace Mi
open PySem PySem.Spec PyProof.Rows L2
structure MTab where
  fns : List (Str × Bool)
  free : List Str
  cst : List (Str × D)
  /-- a lambda may be made -/
  lam : Bool
  /-- exception classes of the text -/
  exc : List Str
/-- neither a star, nor a slice, nor a set -/
def plainX : Expr → Bool
  | .Starred .. => false
  | .Slice .. => false
  | .Set .. => false
  | .BoolOp .. => true
  | .BinOp .. => true
  | .UnaryOp .. => true
  | .IfExp .. => true
  | .ListComp .. => true
  | .Compare .. => true
  | .Call .. => true
  | .Constant .. => true
  | .Subscript .. => true
  | .Name .. => true
  | .List .. => true
  | .Tuple .. => true
  | _ => false
/-- a test is its value's truth -/
def plainT : Expr → Bool
  | .Call .. => true
  | .Subscript .. => true
  | .Name .. => true
  | _ => false
/-- no attribute base of its own -/
def plainA : Expr → Bool
  | .ListComp .. => true
  | .Name .. => true
  | .Subscript .. => true
  | _ => false
theorem star_of {e : Expr} {es : List Expr} {env : Env} (h : plainX e = true) : starEach (e :: es) env = (false, eval e env) :: starEach es env := by
  cases e <;> first
    | rfl
    | cases h
theorem ix_of {e : Expr} (h : plainX e = true) : PlainIx e := by
  intro o i
  cases e <;> first
    | rfl
    | cases h
theorem set_of {e : Expr} {env : Env} (h : plainX e = true) : ∀ x, foldedSetIterable e env x = pure x := by
  intro x
  cases e <;> first
    | rfl
    | cases h
theorem mark_of {e : Expr} {op : CmpOp} (h : plainX e = true) : behindInMarks op e = false := by
  cases e <;> first
    | rfl
    | cases h
theorem marks_of {e e' : Expr} {op op' : CmpOp} (h : plainX e = true) (h' : plainX e' = true) : lastMarks [op, op'] [e, e'] = false := by
  show behindInMarks op' e' = false
  exact mark_of h'
theorem test_of {e : Expr} {env : Env} (h : plainT e = true) : ∀ whole, isTrue e env whole = (do let v ← whole; standAt e.pos; holding [v] (truthy v)) := by
  intro whole
  cases e <;> first
    | rfl
    | cases h
theorem base_of {e : Expr} {x : Str} {env : Env} (h : plainA e = true) : attributeBase e x env (eval e env) = eval e env := by
  cases e <;> first
    | rfl
    | cases h
theorem any_of : ∀ {es : List Expr} {env : Env} {pos : Pos}, es.all plainX = true → (backTo pos (starEach es env)).any (·.1) = false
  | [], _, _, _ => rfl
  | e :: es, env, pos, h => by
    simp only [List.all_cons, Bool.and_eq_true] at h
    rw [star_of h.1]
    have := any_of (env := env) (pos := pos) h.2
    unfold backTo at this ⊢
    rw [List.map_cons, List.any_cons, this]
    rfl
def vis (sc : Scope) (x : Str) : Bool := match sc.names.lookup x with
  | some .local => true
  | some .cell => true
  | some .free => true
  | _ => false
theorem vis_of {sc : Scope} {x : Str} (h : vis sc x = true) : Vis sc x := by
  unfold vis at h
  unfold Vis
  split at h <;> first
    | exact .inl (by assumption)
    | exact .inr (.inl (by assumption))
    | exact .inr (.inr (by assumption))
    | cases h
def glo (sc : Scope) (x : Str) : Bool := (match sc.names.lookup x with
  | some .globalImplicit => true
  | _ => false) && !(x == ("__debug__" : Str))
theorem glo_of {sc : Scope} {x : Str} (h : glo sc x = true) : sc.names.lookup x = some .globalImplicit ∧ (x == ("__debug__" : Str)) = false := by
  unfold glo at h
  rw [Bool.and_eq_true] at h
  refine ⟨?_, by simpa using h.2⟩
  have h1 := h.1
  split at h1
  · assumption
  · cases h1
def okC : D → Const → Bool
  | .none, .none => true
  | .bool b, .bool c => b == c
  | .int i, .int j => decide (i = j)
  | .str x, .str y => decide (x = y)
  | _, _ => false
def sameK : D → D → Bool
  | .int i, .int j => decide (i = j)
  | .str x, .str y => decide (x = y)
  | _, _ => false
theorem sameK_of {d e : D} (h : sameK d e = true) : d = e := by
  unfold sameK at h
  split at h <;> first
    | (rw [of_decide_eq_true h])
    | cases h
def okV (N : List Str) (sc : Scope) (i : Nat) (y : Str) : Bool := decide (N[i]? = some y) && vis sc y && !(y == ("__debug__" : Str)) && !(y == ("__classdict__" : Str))
def BOp.py : BOp → Operator
  | .add => .Add
  | .sub => .Sub
  | .mul => .Mult
  | .fdiv => .FloorDiv
  | .mod => .Mod
  | .pow => .Pow
def Bi.py : Bi → Str
  | .len => "len"
  | .list => "list"
  | .tuple => "tuple"
  | .sorted => "sorted"
  | .min => "min"
  | .min2 => "min"
  | .int => "int"
  | .str => "str"
def tyName (T : String) : Option Str := if T = "int" then some "int" else if T = "bool" then some "bool" else if T = "str" then some "str" else if T = "tuple" then some "tuple" else if T = "list" then some "list" else none
/-- a name that a comprehension or a def stores -/
def tgtN (N : List Str) (sc : Scope) (i : Nat) (e : Expr) : Bool := match e with
  | .Name y _ => decide (N[i]? = some y) && (match sc.names.lookup y with | some .local => true | some .cell => true | _ => false)
  | _ => false
def tgts (N : List Str) (sc : Scope) : List Nat → List Expr → Bool
  | [], [] => true
  | i :: is, e :: es => tgtN N sc i e && tgts N sc is es
  | _, _ => false
def okT (N : List Str) (sc : Scope) : Tg → Expr → Bool
  | .one i, e => tgtN N sc i e
  | .many l, e => match e with
    | .Tuple es _ _ => tgts N sc l es
    | _ => false
def ownOf (N : List Str) (l : List Nat) : List (Str × Nat) := l.map fun i => (N.getD i "", i)
variable (M : MTab) (tbl : TblS) (N : List Str)
mutual
def okE (sc : Scope) : E → Expr → Bool
  | .cst d, e => match e with
    | .Constant c _ _ => okC d c
    | _ => false
  | .var i, e => match e with
    | .Name y _ => okV N sc i y
    | _ => false
  | .glo x d, e => match e with
    | .Name y _ => decide (x = y) && glo sc x && (match M.cst.lookup x with | some d' => sameK d d' | none => false)
    | _ => false
  | .bin o a b, e => match e with
    | .BinOp x op y _ => decide (o.py = op) && okE sc a x && okE sc b y
    | _ => false
  | .neg a, e => match e with
    | .UnaryOp .USub x _ => okE sc a x
    | _ => false
  | .not a, e => match e with
    | .UnaryOp .Not x _ => okE sc a x
    | _ => false
  | .and a b, e => match e with
    | .BoolOp .And (x :: y :: r) p => okE sc a x && (match r with
      | [] => okE sc b y
      | z :: r => okE sc b (.BoolOp .And (y :: z :: r) p))
    | _ => false
  | .or a b, e => match e with
    | .BoolOp .Or (x :: y :: r) p => okE sc a x && (match r with
      | [] => okE sc b y
      | z :: r => okE sc b (.BoolOp .Or (y :: z :: r) p))
    | _ => false
  | .cmp o a b, e => match e with
    | .Compare x [op] [y] _ => decide (o.py = op) && plainX y && okE sc a x && okE sc b y
    | _ => false
  | .chn o p a b c, e => match e with
    | .Compare x [op, op'] [y, z] _ => decide (o.py = op) && decide (p.py = op') && plainX y && plainX z && okE sc a x && okE sc b y && okE sc c z
    | _ => false
  | .isN a, e => match e with
    | .Compare x [.Is] [.Constant .none _ _] _ => okE sc a x
    | _ => false
  | .noN a, e => match e with
    | .Compare x [.IsNot] [.Constant .none _ _] _ => okE sc a x
    | _ => false
  | .ite c a b, e => match e with
    | .IfExp z x y _ => okW sc c z && okE sc a x && okE sc b y
    | _ => false
  | .tup es, e => match e with
    | .Tuple xs _ _ => okEs sc es xs
    | _ => false
  | .lst es, e => match e with
    | .List xs _ => okEs sc es xs
    | _ => false
  | .sub a b, e => match e with
    | .Subscript x y _ => plainX y && okE sc a x && okE sc b y
    | _ => false
  | .slc a lo hi, e => match e with
    | .Subscript x (.Slice l h none _) _ => okE sc a x && okO sc lo l && okO sc hi h
    | _ => false
  | .comp elt tg it cs, e => match e with
    | .ListComp x [⟨t, i, ifs, 0⟩] scope _ => blkC N sc scope (ownOf N tg.list) && (tg.list.all fun j => decide (j < N.length)) && okT N scope tg t && plainX i && okI sc it i && okCs (relS scope sc) cs ifs && okE (relS scope sc) elt x
    | _ => false
  | .isi T a, e => match e with
    | .Call (.Name f _) [x, .Name ty _] [] _ => decide (f = "isinstance") && glo sc "isinstance" && M.free.contains "isinstance" && decide (tyName T = some ty) && glo sc ty && M.free.contains ty && plainX x && okE sc a x
    | _ => false
  | .isq fl a, e => match e with
    | .Call (.Name f _) [x, .Tuple [.Name t1 _, .Name t2 _] _ _] [] _ => decide (f = "isinstance") && glo sc "isinstance" && M.free.contains "isinstance" && decide (t1 = if fl then ("list" : Str) else ("tuple" : Str)) && decide (t2 = if fl then ("tuple" : Str) else ("list" : Str)) && glo sc "tuple" && glo sc "list" && M.free.contains "tuple" && M.free.contains "list" && plainX x && okE sc a x
    | _ => false
  | .join z a, e => match e with
    | .Call (.Attribute (.Constant (.str z') _ _) m apos) [y] [] pos => decide (z = z') && decide (m = "join") && plainX y && decide ((apos.endLine == pos.line) = true) && okE sc a y
    | _ => false
  | .lrg a, e => match e with
    | .Call (.Name f _) [.Call (.Name r _) [y] [] _] [] _ => decide (f = "list") && glo sc "list" && M.free.contains "list" && decide (r = "range") && glo sc "range" && M.free.contains "range" && plainX y && okE sc a y
    | _ => false
  | .lcp a, e => match e with
    | .Call (.Name f _) [y] [] _ => decide (f = "list") && glo sc "list" && M.free.contains "list" && plainX y && okE sc a y
    | _ => false
  | .scp a lo hi, e => match e with
    | .Subscript v (.Slice l h none _) _ => okE sc a v && okO sc lo l && okO sc hi h
    | _ => false
  | .dget i a, e => match e with
    | .Subscript (.Name y _) z _ => okV N sc i y && plainX z && okE sc a z
    | _ => false
  | .sset a, e => match e with
    | .Call (.Name f _) [.Call (.Name r _) [y] [] _] [] _ => decide (f = "sorted") && glo sc "sorted" && M.free.contains "sorted" && decide (r = "set") && glo sc "set" && M.free.contains "set" && plainX y && okE sc a y
    | _ => false
  | .bi f es, e => match e with
    | .Call (.Name x _) (y :: ys) [] _ => decide (x = f.py) && glo sc f.py && M.free.contains f.py && okEs sc es (y :: ys)
    | _ => false
  | .call f row es, e => match e with
    | .Call (.Name x _) xs [] _ => decide (x = f) && glo sc f && M.fns.contains (f, row.isSome) && (match row, xs with
      | none, xs => okEs sc es xs
      | some i, .Name y _ :: ys => okV N sc i y && okEs sc es ys
      | _, _ => false)
    | _ => false
  | .meth f o a, e => match e with
    | .Call (.Attribute x m apos) [y] [] pos => (match f with | .count => decide (m = "count") | .index => decide (m = "index")) && plainA x && plainX y && decide ((apos.endLine == pos.line) = true) && okE sc o x && okE sc a y
    | _ => false
  | .inG x neg a, e => match e with
    | .Compare y [op] [.Name z _] _ => decide (op = if neg then .NotIn else .In) && decide (x = z) && glo sc x && (tbl x).isSome && okE sc a y
    | _ => false
  | .getG x a, e => match e with
    | .Subscript (.Name z _) y _ => decide (x = z) && glo sc x && (tbl x).isSome && plainX y && okE sc a y
    | _ => false
  | .rowGet i k, e => match e with
    | .Subscript (.Name y _) (.Constant (.int j) _ _) _ => okV N sc i y && decide (j = (k : Int))
    | _ => false
  | .rowLen i, e => match e with
    | .Call (.Name f _) [.Subscript (.Name y _) (.Constant (.int j) _ _) _] [] _ => decide (f = "len") && glo sc "len" && M.free.contains "len" && okV N sc i y && decide (j = 0)
    | _ => false
  | .rowCell i a, e => match e with
    | .Subscript (.Subscript (.Name y _) (.Constant (.int j) _ _) _) x _ => okV N sc i y && decide (j = 0) && plainX x && okE sc a x
    | _ => false
def okEs (sc : Scope) : Es → List Expr → Bool
  | .nil, xs => xs.isEmpty
  | .cons e es, xs => match xs with
    | x :: xs => plainX x && okE sc e x && okEs sc es xs
    | [] => false
/-- a slice's part -/
def okO (sc : Scope) : Es → Option Expr → Bool
  | .nil, o => o.isNone
  | .cons e es, o => match o with
    | some x => okE sc e x && (match es with | .nil => true | _ => false)
    | none => false
/-- a test -/
def okW (sc : Scope) : E → Expr → Bool
  | .not a, e => match e with
    | .UnaryOp .Not x _ => okW sc a x
    | _ => false
  | .and a b, e => match e with
    | .BoolOp .And (x :: y :: r) p => okW sc a x && (match r with
      | [] => okW sc b y
      | z :: r => okW sc b (.BoolOp .And (y :: z :: r) p))
    | _ => false
  | .or a b, e => match e with
    | .BoolOp .Or (x :: y :: r) p => okW sc a x && (match r with
      | [] => okW sc b y
      | z :: r => okW sc b (.BoolOp .Or (y :: z :: r) p))
    | _ => false
  | .cmp o a b, e => match e with
    | .Compare x [op] [y] _ => decide (o.py = op) && plainX y && okE sc a x && okE sc b y
    | _ => false
  | .chn o p a b c, e => match e with
    | .Compare x [op, op'] [y, z] _ => decide (o.py = op) && decide (p.py = op') && plainX y && plainX z && okE sc a x && okE sc b y && okE sc c z
    | _ => false
  | .isN a, e => match e with
    | .Compare x [.Is] [.Constant .none _ _] _ => okE sc a x
    | _ => false
  | .noN a, e => match e with
    | .Compare x [.IsNot] [.Constant .none _ _] _ => okE sc a x
    | _ => false
  | .inG x neg a, e => match e with
    | .Compare y [op] [.Name z _] _ => decide (op = if neg then .NotIn else .In) && decide (x = z) && glo sc x && (tbl x).isSome && okE sc a y
    | _ => false
  | .var i, e => match e with
    | .Name y _ => okV N sc i y
    | _ => false
  | .call f row es, e => match e with
    | .Call (.Name x _) xs [] _ => decide (x = f) && glo sc f && M.fns.contains (f, row.isSome) && (match row, xs with
      | none, xs => okEs sc es xs
      | some i, .Name y _ :: ys => okV N sc i y && okEs sc es ys
      | _, _ => false)
    | _ => false
  | .isq fl a, e => match e with
    | .Call (.Name f _) [x, .Tuple [.Name t1 _, .Name t2 _] _ _] [] _ => decide (f = "isinstance") && glo sc "isinstance" && M.free.contains "isinstance" && decide (t1 = if fl then ("list" : Str) else ("tuple" : Str)) && decide (t2 = if fl then ("tuple" : Str) else ("list" : Str)) && glo sc "tuple" && glo sc "list" && M.free.contains "tuple" && M.free.contains "list" && plainX x && okE sc a x
    | _ => false
  | .isi T a, e => match e with
    | .Call (.Name f _) [x, .Name ty _] [] _ => decide (f = "isinstance") && glo sc "isinstance" && M.free.contains "isinstance" && decide (tyName T = some ty) && glo sc ty && M.free.contains ty && plainX x && okE sc a x
    | _ => false
  | .sub a b, e => match e with
    | .Subscript x y _ => plainX y && okE sc a x && okE sc b y
    | _ => false
  | _, _ => false
def okCs (sc : Scope) : Es → List Expr → Bool
  | .nil, xs => xs.isEmpty
  | .cons e es, xs => match xs with
    | [x] => okW sc e x && (match es with | .nil => true | _ => false)
    | _ => false
def okI (sc : Scope) : It → Expr → Bool
  | .val e, x => okE sc e x
  | .rng1 a, x => match x with
    | .Call (.Name f _) [y] [] _ => decide (f = "range") && glo sc "range" && M.free.contains "range" && plainX y && okE sc a y
    | _ => false
  | .rng2 a b, x => match x with
    | .Call (.Name f _) [y, z] [] _ => decide (f = "range") && glo sc "range" && M.free.contains "range" && plainX y && plainX z && okE sc a y && okE sc b z
    | _ => false
  | .rng3 a b c, x => match x with
    | .Call (.Name f _) [y, z, w] [] _ => decide (f = "range") && glo sc "range" && M.free.contains "range" && plainX y && plainX z && plainX w && okE sc a y && okE sc b z && okE sc c w
    | _ => false
end
end Mi
end
section
set_option maxRecDepth 100000
set_option maxHeartbeats 400000
namespace Mi
open PySem PySem.Spec PyProof.Rows L2
section
variable (call : Call) (tbl : TblS)
theorem q_cst (d : D) : (fun ρ => evE call tbl ρ (.cst d)) = fun _ g => some (d, .fr, g) := by funext ρ g; rw [evE]
theorem q_glo (x : Str) (d : D) : (fun ρ => evE call tbl ρ (.glo x d)) = fun _ g => some (d, .fr, g) := by funext ρ g; rw [evE]
theorem q_var (i : Nat) : (fun ρ => evE call tbl ρ (.var i)) = varF i := by funext ρ g; rw [evE]; rfl
theorem q_bin (o : BOp) (a b : E) : (fun ρ => evE call tbl ρ (.bin o a b)) = opF (binD o) (fun ρ => evE call tbl ρ a) (fun ρ => evE call tbl ρ b) := by funext ρ g; rw [evE]; rfl
theorem q_neg (a : E) : (fun ρ => evE call tbl ρ (.neg a)) = negF (fun ρ => evE call tbl ρ a) := by funext ρ g; rw [evE]; rfl
theorem q_not (a : E) : (fun ρ => evE call tbl ρ (.not a)) = notF (fun ρ => evE call tbl ρ a) := by funext ρ g; rw [evE]; rfl
theorem q_and (a b : E) : (fun ρ => evE call tbl ρ (.and a b)) = andF (fun ρ => evE call tbl ρ a) (fun ρ => evE call tbl ρ b) := by funext ρ g; rw [evE]; rfl
theorem q_or (a b : E) : (fun ρ => evE call tbl ρ (.or a b)) = orF (fun ρ => evE call tbl ρ a) (fun ρ => evE call tbl ρ b) := by funext ρ g; rw [evE]; rfl
theorem q_cmp (o : COp) (a b : E) : (fun ρ => evE call tbl ρ (.cmp o a b)) = cmpF (cmpD o) (fun ρ => evE call tbl ρ a) (fun ρ => evE call tbl ρ b) := by funext ρ g; rw [evE]; rfl
theorem q_chn (o p : COp) (a b c : E) : (fun ρ => evE call tbl ρ (.chn o p a b c)) = chnF (cmpD o) (cmpD p) (fun ρ => evE call tbl ρ a) (fun ρ => evE call tbl ρ b) (fun ρ => evE call tbl ρ c) := by funext ρ g; rw [evE]; rfl
theorem q_isN (a : E) : (fun ρ => evE call tbl ρ (.isN a)) = isNF false (fun ρ => evE call tbl ρ a) := by funext ρ g; rw [evE]; rfl
theorem q_noN (a : E) : (fun ρ => evE call tbl ρ (.noN a)) = isNF true (fun ρ => evE call tbl ρ a) := by funext ρ g; rw [evE]; rfl
theorem q_ite (c a b : E) : (fun ρ => evE call tbl ρ (.ite c a b)) = iteF3 (fun ρ => evE call tbl ρ c) (fun ρ => evE call tbl ρ a) (fun ρ => evE call tbl ρ b) := by funext ρ g; rw [evE]; rfl
theorem q_tup (es : Es) : (fun ρ => evE call tbl ρ (.tup es)) = tupF (fun ρ => evEs call tbl ρ es) := by funext ρ g; rw [evE]; rfl
theorem q_lst (es : Es) : (fun ρ => evE call tbl ρ (.lst es)) = lstF (fun ρ => evEs call tbl ρ es) := by funext ρ g; rw [evE]; rfl
theorem q_sub (a b : E) : (fun ρ => evE call tbl ρ (.sub a b)) = subF (fun ρ => evE call tbl ρ a) (fun ρ => evE call tbl ρ b) := by funext ρ g; rw [evE]; rfl
theorem q_slc (a : E) (lo hi : Es) : (fun ρ => evE call tbl ρ (.slc a lo hi)) = slcF (fun ρ => evE call tbl ρ a) (fun ρ => evO call tbl ρ lo) (fun ρ => evO call tbl ρ hi) := by funext ρ g; rw [evE]; rfl
theorem q_comp (elt : E) (tg : Tg) (it : It) (cs : Es) : (fun ρ => evE call tbl ρ (.comp elt tg it cs)) = compF (fun ρ => evI call tbl ρ it) tg (fun ρ => evC call tbl ρ cs) (fun ρ => evE call tbl ρ elt) := by funext ρ g; rw [evE]; rfl
theorem q_isi (T : String) (a : E) : (fun ρ => evE call tbl ρ (.isi T a)) = isiF T (fun ρ => evE call tbl ρ a) := by funext ρ g; rw [evE]; rfl
theorem q_isq (fl : Bool) (a : E) : (fun ρ => evE call tbl ρ (.isq fl a)) = isqF (fun ρ => evE call tbl ρ a) := by funext ρ g; rw [evE]; rfl
theorem q_join (z : Str) (a : E) : (fun ρ => evE call tbl ρ (.join z a)) = joinF z (fun ρ => evE call tbl ρ a) := by funext ρ g; rw [evE]; rfl
theorem q_lcp (a : E) : (fun ρ => evE call tbl ρ (.lcp a)) = lcpF (fun ρ => evE call tbl ρ a) := by funext ρ g; rw [evE]; rfl
theorem q_scp (a : E) (lo hi : Es) : (fun ρ => evE call tbl ρ (.scp a lo hi)) = scpF (fun ρ => evE call tbl ρ a) (fun ρ => evO call tbl ρ lo) (fun ρ => evO call tbl ρ hi) := by funext ρ g; rw [evE]; rfl
theorem q_dget (i : Nat) (a : E) : (fun ρ => evE call tbl ρ (.dget i a)) = dgetF i (fun ρ => evE call tbl ρ a) := by funext ρ g; rw [evE]; rfl
theorem q_sset (a : E) : (fun ρ => evE call tbl ρ (.sset a)) = ssetF (fun ρ => evE call tbl ρ a) := by funext ρ g; rw [evE]; rfl
theorem q_lrg (a : E) : (fun ρ => evE call tbl ρ (.lrg a)) = lrgF (fun ρ => evE call tbl ρ a) := by funext ρ g; rw [evE]; rfl
theorem q_bi (f : Bi) (es : Es) : (fun ρ => evE call tbl ρ (.bi f es)) = biF (biD f) (fun ρ => evEs call tbl ρ es) := by funext ρ g; rw [evE]; rfl
theorem q_call (f : Str) (row : Option Nat) (es : Es) : (fun ρ => evE call tbl ρ (.call f row es)) = callF call f row (fun ρ => evEs call tbl ρ es) := by funext ρ g; rw [evE]; rfl
theorem q_meth (f : Mt) (o a : E) : (fun ρ => evE call tbl ρ (.meth f o a)) = mtF (mtD f) (fun ρ => evE call tbl ρ o) (fun ρ => evE call tbl ρ a) := by funext ρ g; rw [evE]; rfl
theorem q_inG (x : Str) (neg : Bool) (a : E) : (fun ρ => evE call tbl ρ (.inG x neg a)) = inGF (tbl x) neg (fun ρ => evE call tbl ρ a) := by funext ρ g; rw [evE]; rfl
theorem q_getG (x : Str) (a : E) : (fun ρ => evE call tbl ρ (.getG x a)) = getGF (tbl x) (fun ρ => evE call tbl ρ a) := by funext ρ g; rw [evE]; rfl
theorem q_rowG (i k : Nat) : (fun ρ => evE call tbl ρ (.rowGet i k)) = rowG i k := by funext ρ g; unfold evE; rfl
theorem q_rowL (i : Nat) : (fun ρ => evE call tbl ρ (.rowLen i)) = rowL i := by funext ρ g; rw [evE]; rfl
theorem q_rowC (i : Nat) (a : E) : (fun ρ => evE call tbl ρ (.rowCell i a)) = rowC i (fun ρ => evE call tbl ρ a) := by funext ρ g; rw [evE]; rfl
theorem q_nil : (fun ρ => evEs call tbl ρ .nil) = nilA := by funext ρ g; rw [evEs]; rfl
theorem q_cons (e : E) (es : Es) : (fun ρ => evEs call tbl ρ (.cons e es)) = consA (fun ρ => evE call tbl ρ e) (fun ρ => evEs call tbl ρ es) := by funext ρ g; rw [evEs]; rfl
theorem q_onil : (fun ρ => evO call tbl ρ .nil) = noP := by funext ρ g; rw [evO]; rfl
theorem q_ocons (e : E) (es : Es) : (fun ρ => evO call tbl ρ (.cons e es)) = someP (fun ρ => evE call tbl ρ e) := by funext ρ g; rw [evO]; rfl
theorem q_cnil : (fun ρ => evC call tbl ρ .nil) = yesC := by funext ρ g; rw [evC]; rfl
theorem q_ccons (e : E) (es : Es) : (fun ρ => evC call tbl ρ (.cons e es)) = oneC (fun ρ => evE call tbl ρ e) := by funext ρ g; rw [evC]; rfl
theorem q_val (e : E) : (fun ρ => evI call tbl ρ (.val e)) = itF (fun ρ => evE call tbl ρ e) := by funext ρ g; rw [evI]; rfl
theorem q_rng1 (e : E) : (fun ρ => evI call tbl ρ (.rng1 e)) = rng1F (fun ρ => evE call tbl ρ e) := by funext ρ g; rw [evI]; rfl
theorem q_rng3 (a b c : E) : (fun ρ => evI call tbl ρ (.rng3 a b c)) = rng3F (fun ρ => evE call tbl ρ a) (fun ρ => evE call tbl ρ b) (fun ρ => evE call tbl ρ c) := by funext ρ g; rw [evI]; rfl
theorem q_rng2 (a b : E) : (fun ρ => evI call tbl ρ (.rng2 a b)) = rng2F (fun ρ => evE call tbl ρ a) (fun ρ => evE call tbl ρ b) := by funext ρ g; rw [evI]; rfl
end
end Mi
namespace Mi
open PySem PySem.Spec PyProof.Rows L2
section
variable {X : Cx} {K : PySem.W.Frag} {e tg : Expr} {es : List Expr} {o : Option Expr}
theorem pe_to {F F' : Den} (h : PE X e (TEx K F)) (q : F' = F) : PE X e (TEx K F') := q ▸ h
theorem pt_to {F F' : Den} (h : PT X e (TTx K F)) (q : F' = F) : PT X e (TTx K F') := q ▸ h
theorem pw_to {F F' : Den} (h : PW X e (TTx K F)) (q : F' = F) : PW X e (TTx K F') := q ▸ h
theorem pa_to {F F' : Dens} (h : PA X es (TAx K F)) (q : F' = F) : PA X es (TAx K F') := q ▸ h
theorem po_to {F F' : Denp} (h : PO X o (TOx K F)) (q : F' = F) : PO X o (TOx K F') := q ▸ h
theorem pc_to {F F' : Dent} (h : PTs X es (TCx K F)) (q : F' = F) : PTs X es (TCx K F') := q ▸ h
theorem pi_to {F F' : Dens} (h : PI X tg e (TIx K F)) (q : F' = F) : PI X tg e (TIx K F') := q ▸ h
end
end Mi
end
section
set_option maxRecDepth 100000
set_option maxHeartbeats 1000000
/-! The meaning of an expression is what the machine does. -/
namespace Mi
open PySem PySem.Spec PyProof.Rows L2
/-- an exception class of the text, without an __init__ of its own -/
def ExcF (K : PySem.W.Frag) (mg : Str → Option Value) (c : Str) : Prop := ∃ C, clsOf K c = some C ∧ mg c = some (.ref C) ∧ PySem.W.excIn K C [.type "ValueError", .type "Exception", .type "BaseException", .type "object"] "ValueError.__new__" = true ∧
  PySem.W.keepIn K (.ref C) = true ∧ PySem.W.subIn K (.ref C) (.type "BaseException") = some true ∧ PySem.W.typeIn K (.ref C) = some (.type "type") ∧ PySem.W.exmOne K (.ref C) (.ref C) = some true
structure XOk (M : MTab) (call : Call) (tbl : TblS) (k : Nat) (N : List Str) (X : Cx) (sc : Scope) : Prop where
  hN : X.N = N
  nd : N.Nodup
  hsc : X.env.scope = sc
  calm : X.calm = true
  room : Room k X.A
  fns : ∀ f row, (f, row) ∈ M.fns → FnF X call k f row
  free : ∀ x ∈ M.free, X.mg x = none
  cst : ∀ x d, M.cst.lookup x = some d → ∃ u v, X.mg x = some u ∧ RelV v u ∧ ∀ S H, Rep S H d v
  tab : ∀ x l, tbl x = some l → TabF X x l
  exc : ∀ c ∈ M.exc, ExcF X.K X.mg c
section
variable {M : MTab} {call : Call} {tbl : TblS} {k : Nat} {N : List Str} {X : Cx} {sc : Scope}
theorem XOk.blk (x : XOk M call tbl k N X sc) (scope : Scope) (s : Shared) (H : Hp) (C : Addr) (cl : List (Str × Addr)) (fp : List Addr) : XOk M call tbl k N (X.blk s H scope (compEnvC scope cl C X.env) fp) (relS scope sc) := by
  refine ⟨x.hN, x.nd, ?_, x.calm, x.room, x.fns, x.free, x.cst, x.tab, x.exc⟩
  rw [← x.hsc]
  rfl
theorem XOk.hu (x : XOk M call tbl k N X sc) : X.A.units + 64 < cLine := x.room.units
theorem XOk.hu65 (x : XOk M call tbl k N X sc) : X.A.units + 65 < cLine := by have := x.room.un; omega
theorem XOk.gl (x : XOk M call tbl k N X sc) {y : Str} (h : glo sc y = true) : Gl X y := by
  show X.env.scope.names.lookup y = _
  rw [x.hsc]
  exact (glo_of h).1
theorem XOk.var (x : XOk M call tbl k N X sc) {i : Nat} {y : Str} {p : Pos} (h : okV N sc i y = true) : PE X (.Name y p) (tVar i) := by
  unfold okV at h
  simp only [Bool.and_eq_true, decide_eq_true_eq, Bool.not_eq_true'] at h
  exact pe_var (by rw [x.hN]; exact h.1.1.1) (by rw [x.hsc]; exact vis_of h.1.1.2) h.1.2 h.2
theorem XOk.fr (x : XOk M call tbl k N X sc) {y : Str} (h : M.free.contains y = true) : X.mg y = none := x.free y (List.contains_iff_mem.mp h)
theorem const_pe {d : D} {c : Const} {j : Nat} {p : Pos} (h : okC d c = true) : ∃ v, PE X (.Constant c j p) (tC v) ∧ ∀ S H, Rep S H d v := by
  unfold okC at h
  split at h
  · exact ⟨_, pe_non, fun _ _ => .none⟩
  · rw [eq_of_beq h]; exact ⟨_, pe_bl, fun _ _ => .bool _⟩
  · rw [of_decide_eq_true h]; exact ⟨_, pe_int, fun _ _ => .int _⟩
  · rw [of_decide_eq_true h]; exact ⟨_, pe_str, fun _ _ => .str _⟩
  · cases h
theorem own_eq {l : List Nat} : (ownOf N l).map (·.2) = l := by
  unfold ownOf
  rw [List.map_map]
  exact List.map_id _
theorem tgtN_inv {i : Nat} {e : Expr} {sc : Scope} (h : tgtN N sc i e = true) : ∃ y p, e = .Name y p ∧ N[i]? = some y ∧ L2.Loc sc y := by
  unfold tgtN at h
  split at h
  · rename_i y p
    rw [Bool.and_eq_true, decide_eq_true_eq] at h
    refine ⟨y, p, rfl, h.1, ?_⟩
    have h2 := h.2
    unfold L2.Loc
    split at h2
    · exact .inl (by assumption)
    · exact .inr (by assumption)
    · cases h2
  · cases h
/-- the targets' rules, if what they store to may be stored to -/
theorem pgs_of (hN : X.N = N) (nd : N.Nodup) (hl : ∀ (sc' : Scope) y, sc' = sc → L2.Loc sc' y → L2.Loc X.env.scope y) (hf : ∀ y, L2.Loc sc y → X.fn y = true ∨ X.env.scope.names.lookup y = some .local) : ∀ {l : List Nat} {es : List Expr}, tgts N sc l es = true → PGs X es (gNames l) ∧ (assignEach es X.env).length = l.length ∧ (assignEach es X.env).findIdx? (·.1) = none
  | [], [], _ => ⟨pgs_nil, rfl, rfl⟩
  | i :: is, e :: es, h => by
    unfold tgts at h
    rw [Bool.and_eq_true] at h
    obtain ⟨y, p, rfl, hi, hx⟩ := tgtN_inv h.1
    obtain ⟨h1, h2, h3⟩ := pgs_of hN nd hl hf h.2
    refine ⟨pgs_cons (pg_name (by rw [hN]; exact nd) (by rw [hN]; exact hi) (hl sc y rfl hx) (hf y hx)) h1, ?_, ?_⟩
    · show (assignEach es X.env).length + 1 = _
      rw [h2]
      rfl
    · show ((false, assign (.Name y p) X.env) :: assignEach es X.env).findIdx? (·.1) = none
      rw [List.findIdx?_cons, h3]
      rfl
  | [], _ :: _, h => by cases h
  | _ :: _, [], h => by cases h
theorem pg_of (hN : X.N = N) (nd : N.Nodup) (hc : X.calm = true) (hl : ∀ (sc' : Scope) y, sc' = sc → L2.Loc sc' y → L2.Loc X.env.scope y) (hf : ∀ y, L2.Loc sc y → X.fn y = true ∨ X.env.scope.names.lookup y = some .local) {tg : Tg} {e : Expr} (h : okT N sc tg e = true) : PG X e (gT X.K tg) := by
  cases tg with
  | one i =>
    obtain ⟨y, p, rfl, hi, hx⟩ := tgtN_inv (show tgtN N sc i e = true from h)
    exact pg_name (by rw [hN]; exact nd) (by rw [hN]; exact hi) (hl sc y rfl hx) (hf y hx)
  | many l =>
    unfold okT at h
    dsimp only at h
    split at h
    · obtain ⟨h1, h2, h3⟩ := pgs_of hN nd hl hf h
      exact pg_tup hc h1 h2 h3
    · cases h
theorem boot_int' : bootBuiltins "int" = some (.type "int") := by decide +kernel
theorem boot_str' : bootBuiltins "str" = some (.type "str") := by decide +kernel
theorem boot_list' : bootBuiltins "list" = some (.type "list") := by decide +kernel
theorem boot_tuple' : bootBuiltins "tuple" = some (.type "tuple") := by decide +kernel
theorem boot_bool' : bootBuiltins "bool" = some (.type "bool") := by decide +kernel
theorem boot_min' : bootBuiltins "min" = some (.builtin "min") := by decide +kernel
theorem boot_sorted' : bootBuiltins "sorted" = some (.builtin "sorted") := by decide +kernel
theorem ty_boot {T : String} {ty : Str} (h : tyName T = some ty) : bootBuiltins ty = some (.type T) ∧ ty ≠ "__name__" := by
  unfold tyName at h
  split at h
  · rename_i e; subst e; cases h; exact ⟨boot_int', by decide⟩
  · split at h
    · rename_i e; subst e; cases h; exact ⟨boot_bool', by decide⟩
    · split at h
      · rename_i e; subst e; cases h; exact ⟨boot_str', by decide⟩
      · split at h
        · rename_i e; subst e; cases h; exact ⟨boot_tuple', by decide⟩
        · split at h
          · rename_i e; subst e; cases h; exact ⟨boot_list', by decide⟩
          · cases h
theorem bi_pe {f : Bi} {a : Expr} {es : List Expr} {A : Dens} {p pos : Pos} (x : XOk M call tbl k N X sc) (hg : glo sc f.py = true) (hf : M.free.contains f.py = true) (ha : PA X (a :: es) (TAx X.K A)) (hp : (a :: es).all plainX = true) : PE X (.Call (.Name f.py p) (a :: es) [] pos) (TEx X.K (biF (biD f) A)) := by
  simp only [List.all_cons, Bool.and_eq_true] at hp
  have he := star_of (es := es) (env := X.env) hp.1
  have hpl := any_of (env := X.env) (pos := pos) hp.2
  have g := x.gl hg
  have m := x.fr hf
  have db := (glo_of hg).2
  cases f
  · exact me_biB ob_len g m PySem.boot_len ha (by decide) db he hpl
  · exact me_biT ob_list g m boot_list' ha (by decide) db he hpl
  · exact me_biT ob_tuple g m boot_tuple' ha (by decide) db he hpl
  · exact me_biB (ob_sorted x.hu) g m boot_sorted' ha (by decide) db he hpl
  · exact me_biB (ob_min x.calm x.hu) g m boot_min' ha (by decide) db he hpl
  · exact me_biB (ob_min2 x.calm) g m boot_min' ha (by decide) db he hpl
  · exact me_biT ob_int g m boot_int' ha (by decide) db he hpl
  · exact me_biT ob_str g m boot_str' ha (by decide) db he hpl
theorem blk_pg {scope : Scope} {tg : Tg} {e : Expr} (x : XOk M call tbl k N X sc) (h : okT N scope tg e = true) (s : Shared) (H : Hp) (C : Addr) (cl : List (Str × Addr)) (fp : List Addr) : PG (X.blk s H scope (compEnvC scope cl C X.env) fp) e (gT X.K tg) := by
  have key : ∀ y, L2.Loc scope y → L2.Loc (relS scope X.env.scope) y := fun y hy => by
    rcases hy with hy | hy
    · exact .inl (lookup_relS_keep (by decide) hy)
    · exact .inr (lookup_relS_keep (by decide) hy)
  refine pg_of (X := X.blk s H scope (compEnvC scope cl C X.env) fp) (sc := scope) x.hN x.nd x.calm (fun sc' y es hy => ?_) (fun y hy => ?_) h
  · subst es
    exact key y hy
  · rcases hy with hy | hy
    · exact .inr (lookup_relS_keep (by decide) hy)
    · refine .inl ?_
      show (scope.names.lookup y == some .cell) = true
      rw [hy]
      rfl
theorem okEs_plain : ∀ {es : Es} {xs : List Expr}, okEs M tbl N sc es xs = true → xs.all plainX = true
  | .nil, [], _ => rfl
  | .nil, _ :: _, h => by cases h
  | .cons e es, [], h => by cases h
  | .cons e es, x :: xs, h => by
    simp only [okEs, Bool.and_eq_true] at h
    simp only [List.all_cons, Bool.and_eq_true]
    exact ⟨h.1.1, okEs_plain h.2⟩
end
section
variable {M : MTab} {call : Call} {tbl : TblS} {k : Nat} {N : List Str}
mutual
theorem sndE : ∀ (e' : E) {X : Cx} {sc : Scope} {e : Expr}, XOk M call tbl k N X sc → okE M tbl N sc e' e = true → PE X e (TEx X.K fun ρ => evE call tbl ρ e')
  | .cst d, X, sc, e, x, h => by
    simp only [okE] at h
    split at h
    · obtain ⟨v, h1, h2⟩ := const_pe (X := X) h
      exact pe_to (me_cst h1 h2) (q_cst call tbl _)
    · cases h
  | .var i, X, sc, e, x, h => by
    simp only [okE] at h
    split at h
    · exact pe_to (me_var (x.var h)) (q_var call tbl _)
    · cases h
  | .glo y d, X, sc, e, x, h => by
    simp only [okE] at h
    split at h
    · rename_i z p
      simp only [Bool.and_eq_true, decide_eq_true_eq] at h
      obtain ⟨⟨rfl, hg⟩, hc⟩ := h
      split at hc
      · rename_i d' hd
        have := sameK_of hc
        subst this
        obtain ⟨u, v, h1, h2, h3⟩ := x.cst _ _ hd
        exact pe_to (me_cst (pe_glob (x.gl hg) h1 h2 (glo_of hg).2) h3) (q_glo call tbl _ _)
      · cases hc
    · cases h
  | .bin o a b, X, sc, e, x, h => by
    simp only [okE] at h
    split at h
    · simp only [Bool.and_eq_true, decide_eq_true_eq] at h
      obtain ⟨⟨rfl, h1⟩, h2⟩ := h
      have e1 := sndE a x h1
      have e2 := sndE b x h2
      have ho : OpR X (binaryOp o.py) (rD2 (binD o)) := by
        cases o
        · exact od_add
        · exact od_sub
        · exact od_mul
        · exact od_fdiv
        · exact od_mod
        · exact od_pow
      exact pe_to (me_op2 (pe_op ho e1 e2)) (q_bin call tbl _ _ _)
    · cases h
  | .neg a, X, sc, e, x, h => by
    simp only [okE] at h
    split at h
    · exact pe_to (me_neg (sndE a x h)) (q_neg call tbl _)
    · cases h
  | .not a, X, sc, e, x, h => by
    simp only [okE] at h
    split at h
    · exact pe_to (me_not (sndE a x h)) (q_not call tbl _)
    · cases h
  | .and a b, X, sc, e, x, h => by
    simp only [okE] at h
    split at h
    · rename_i y z r p
      rw [Bool.and_eq_true] at h
      have e1 := sndE a x h.1
      have h2 := h.2
      split at h2
      · exact pe_to (me_and e1 (pe_one (sndE b x h2))) (q_and call tbl _ _)
      · exact pe_to (me_and e1 (sndE b x h2)) (q_and call tbl _ _)
    · cases h
  | .or a b, X, sc, e, x, h => by
    simp only [okE] at h
    split at h
    · rename_i y z r p
      rw [Bool.and_eq_true] at h
      have e1 := sndE a x h.1
      have h2 := h.2
      split at h2
      · exact pe_to (me_or e1 (pe_one (sndE b x h2))) (q_or call tbl _ _)
      · exact pe_to (me_or e1 (sndE b x h2)) (q_or call tbl _ _)
    · cases h
  | .cmp o a b, X, sc, e, x, h => by
    simp only [okE] at h
    split at h
    · simp only [Bool.and_eq_true, decide_eq_true_eq] at h
      obtain ⟨⟨⟨rfl, hp⟩, h1⟩, h2⟩ := h
      exact pe_to (me_cmp (oc_cmp x.hu o) (sndE a x h1) (sndE b x h2) (mark_of hp)) (q_cmp call tbl _ _ _)
    · cases h
  | .chn o p a b c, X, sc, e, x, h => by
    simp only [okE] at h
    split at h
    · simp only [Bool.and_eq_true, decide_eq_true_eq] at h
      obtain ⟨⟨⟨⟨⟨⟨rfl, rfl⟩, hp⟩, hq⟩, h1⟩, h2⟩, h3⟩ := h
      exact pe_to (me_chn (oc_cmp x.hu o) (oc_cmp x.hu p) (sndE a x h1) (sndE b x h2) (sndE c x h3) (marks_of hp hq)) (q_chn call tbl _ _ _ _ _)
    · cases h
  | .isN a, X, sc, e, x, h => by
    simp only [okE] at h
    split at h
    · exact pe_to (me_isN (sndE a x h)) (q_isN call tbl _)
    · cases h
  | .noN a, X, sc, e, x, h => by
    simp only [okE] at h
    split at h
    · exact pe_to (me_noN (sndE a x h)) (q_noN call tbl _)
    · cases h
  | .ite c a b, X, sc, e, x, h => by
    simp only [okE] at h
    split at h
    · simp only [Bool.and_eq_true] at h
      exact pe_to (me_ite (sndW c x h.1.1) (sndE a x h.1.2) (sndE b x h.2)) (q_ite call tbl _ _ _)
    · cases h
  | .tup es, X, sc, e, x, h => by
    simp only [okE] at h
    split at h
    · exact pe_to (me_tup (sndEs es x h)) (q_tup call tbl _)
    · cases h
  | .lst es, X, sc, e, x, h => by
    simp only [okE] at h
    split at h
    · exact pe_to (me_lst (sndEs es x h)) (q_lst call tbl _)
    · cases h
  | .sub a b, X, sc, e, x, h => by
    simp only [okE] at h
    split at h
    · simp only [Bool.and_eq_true] at h
      exact pe_to (me_sub (sndE a x h.1.2) (sndE b x h.2) (ix_of h.1.1)) (q_sub call tbl _ _)
    · cases h
  | .slc a lo hi, X, sc, e, x, h => by
    simp only [okE] at h
    split at h
    · simp only [Bool.and_eq_true] at h
      exact pe_to (me_slc (sndE a x h.1.1) (sndO lo x h.1.2) (sndO hi x h.2)) (q_slc call tbl _ _ _)
    · cases h
  | .comp elt tg it cs, X, sc, e, x, h => by
    simp only [okE] at h
    split at h
    · rename_i y t i ifs scope p
      simp only [Bool.and_eq_true, List.all_eq_true, decide_eq_true_eq] at h
      obtain ⟨⟨⟨⟨⟨⟨h1, h2⟩, h3⟩, h4⟩, h5⟩, h6⟩, h7⟩ := h
      exact pe_to (me_comp x.calm (by rw [x.hN]; exact x.nd) (sndI it x h5) (own := ownOf N tg.list) (by rw [x.hN, x.hsc]; exact blkOk_by h1) own_eq (by rw [x.hN]; exact h2) (fun s H C cl fp => blk_pg x h3 s H C cl fp) (fun s H C cl fp => sndCs cs (x.blk scope s H C cl fp) h6) (fun s H C cl fp => sndE elt (x.blk scope s H C cl fp) h7) (set_of h4)) (q_comp call tbl _ _ _ _)
    · cases h
  | .isi T a, X, sc, e, x, h => by
    simp only [okE] at h
    split at h
    · simp only [Bool.and_eq_true, decide_eq_true_eq] at h
      obtain ⟨⟨⟨⟨⟨⟨⟨rfl, h1⟩, h2⟩, h3⟩, h4⟩, h5⟩, h6⟩, h7⟩ := h
      obtain ⟨b1, b2⟩ := ty_boot h3
      exact pe_to (me_isi (sndE a x h7) (x.gl h1) (x.fr h2) (x.gl h4) (x.fr h5) b1 b2 (glo_of h4).2 (star_of h6)) (q_isi call tbl _ _)
    · cases h
  | .isq fl a, X, sc, e, x, h => by
    simp only [okE] at h
    split at h
    · simp only [Bool.and_eq_true, decide_eq_true_eq] at h
      obtain ⟨⟨⟨⟨⟨⟨⟨⟨⟨⟨rfl, h1⟩, h2⟩, rfl⟩, rfl⟩, h3⟩, h4⟩, h5⟩, h6⟩, h7⟩, h8⟩ := h
      exact pe_to (me_isq (fl := fl) (sndE a x h8) (x.gl h1) (x.fr h2) (x.gl h3) (x.fr h5) (x.gl h4) (x.fr h6) (star_of h7)) (q_isq call tbl fl _)
    · cases h
  | .join z a, X, sc, e, x, h => by
    simp only [okE] at h
    split at h
    · simp only [Bool.and_eq_true, decide_eq_true_eq] at h
      obtain ⟨⟨⟨⟨rfl, rfl⟩, h1⟩, h2⟩, h3⟩ := h
      exact pe_to (me_join (sndE a x h3) (star_of (es := []) h1) h2) (q_join call tbl _ _)
    · cases h
  | .lrg a, X, sc, e, x, h => by
    simp only [okE] at h
    split at h
    · simp only [Bool.and_eq_true, decide_eq_true_eq] at h
      obtain ⟨⟨⟨⟨⟨⟨⟨rfl, h1⟩, h2⟩, rfl⟩, h3⟩, h4⟩, h5⟩, h6⟩ := h
      exact pe_to (me_lrg x.calm (x.gl h1) (x.fr h2) (x.gl h3) (x.fr h4) (sndE a x h6) (star_of (es := []) h5)) (q_lrg call tbl _)
    · cases h
  | .lcp a, X, sc, e, x, h => by
    simp only [okE] at h
    split at h
    · simp only [Bool.and_eq_true, decide_eq_true_eq] at h
      obtain ⟨⟨⟨⟨rfl, h1⟩, h2⟩, h3⟩, h4⟩ := h
      exact pe_to (me_lcp (x.gl h1) (x.fr h2) boot_list' (sndE a x h4) (star_of (es := []) h3) (any_of (by rfl))) (q_lcp call tbl _)
    · cases h
  | .dget i a, X, sc, e, x, h => by
    simp only [okE] at h
    split at h
    · simp only [Bool.and_eq_true] at h
      exact pe_to (me_dget (by have := x.hu; omega) (x.var h.1.1) (sndE a x h.2) (ix_of h.1.2)) (q_dget call tbl _ _)
    · cases h
  | .sset a, X, sc, e, x, h => by
    simp only [okE] at h
    split at h
    · simp only [Bool.and_eq_true, decide_eq_true_eq] at h
      obtain ⟨⟨⟨⟨⟨⟨⟨rfl, h1⟩, h2⟩, rfl⟩, h3⟩, h4⟩, h5⟩, h6⟩ := h
      exact pe_to (me_sset x.calm (x.gl h1) (x.fr h2) boot_sorted' (x.gl h3) (x.fr h4) (sndE a x h6) (star_of (es := []) h5) (any_of (es := []) (by rfl)) (any_of (es := []) (by rfl))) (q_sset call tbl _)
    · cases h
  | .scp a lo hi, X, sc, e, x, h => by
    simp only [okE] at h
    split at h
    · simp only [Bool.and_eq_true] at h
      exact pe_to (me_scp (sndE a x h.1.1) (sndO lo x h.1.2) (sndO hi x h.2)) (q_scp call tbl _ _ _)
    · cases h
  | .bi f es, X, sc, e, x, h => by
    simp only [okE] at h
    split at h
    · simp only [Bool.and_eq_true, decide_eq_true_eq] at h
      obtain ⟨⟨⟨rfl, h1⟩, h2⟩, h3⟩ := h
      exact pe_to (bi_pe x h1 h2 (sndEs es x h3) (okEs_plain h3)) (q_bi call tbl _ _)
    · cases h
  | .call f row es, X, sc, e, x, h => by
    simp only [okE] at h
    split at h
    · rename_i z p xs q
      simp only [Bool.and_eq_true, decide_eq_true_eq] at h
      obtain ⟨⟨⟨rfl, h1⟩, h2⟩, h3⟩ := h
      have hF := x.fns _ _ (List.contains_iff_mem.mp h2)
      split at h3
      · have ha := sndEs es x h3
        have hp := okEs_plain h3
        cases xs with
        | nil =>
          cases es with
          | nil => exact pe_to (me_call0 hF x.room (x.gl h1) (glo_of h1).2) (by rw [q_call, q_nil])
          | cons e es => cases h3
        | cons y ys =>
          simp only [List.all_cons, Bool.and_eq_true] at hp
          exact pe_to (me_call hF x.room (x.gl h1) ha (glo_of h1).2 (star_of hp.1) (any_of hp.2)) (q_call call tbl _ _ _)
      · rename_i i y q' ys
        simp only [Bool.and_eq_true] at h3
        have ha := sndEs es x h3.2
        exact pe_to (me_callr hF x.room (x.gl h1) (ma_row (x.var h3.1) ha (star_of rfl)) (glo_of h1).2 (star_of rfl) (any_of (okEs_plain h3.2))) (q_call call tbl _ _ _)
      · cases h3
    · cases h
  | .meth f o a, X, sc, e, x, h => by
    simp only [okE] at h
    split at h
    · cases f with
      | index =>
        simp only [Bool.and_eq_true, decide_eq_true_eq] at h
        obtain ⟨⟨⟨⟨⟨rfl, h1⟩, h2⟩, h3⟩, h4⟩, h5⟩ := h
        exact pe_to (me_index x.hu65 (sndE o x h4) (sndE a x h5) (base_of h1) h3 (star_of (es := []) h2)) (q_meth call tbl _ _ _)
      | count =>
        simp only [Bool.and_eq_true, decide_eq_true_eq] at h
        obtain ⟨⟨⟨⟨⟨rfl, h1⟩, h2⟩, h3⟩, h4⟩, h5⟩ := h
        exact pe_to (me_count x.hu (sndE o x h4) (sndE a x h5) (base_of h1) h3 (star_of (es := []) h2)) (q_meth call tbl _ _ _)
    · cases h
  | .inG y neg a, X, sc, e, x, h => by
    simp only [okE] at h
    split at h
    · simp only [Bool.and_eq_true, decide_eq_true_eq] at h
      obtain ⟨⟨⟨⟨rfl, rfl⟩, h1⟩, h2⟩, h3⟩ := h
      obtain ⟨l, hl⟩ := Option.isSome_iff_exists.mp h2
      exact pe_to (me_inG (l := l) (neg := neg) (x.tab _ l hl) (sndE a x h3) (x.gl h1) (glo_of h1).2 (mark_of rfl)) (by rw [q_inG, hl])
    · cases h
  | .getG y a, X, sc, e, x, h => by
    simp only [okE] at h
    split at h
    · simp only [Bool.and_eq_true, decide_eq_true_eq] at h
      obtain ⟨⟨⟨⟨rfl, h1⟩, h2⟩, h4⟩, h3⟩ := h
      obtain ⟨l, hl⟩ := Option.isSome_iff_exists.mp h2
      exact pe_to (me_getG (l := l) (x.tab _ l hl) (sndE a x h3) (x.gl h1) (glo_of h1).2 (ix_of h4)) (by rw [q_getG, hl])
    · cases h
  | .rowGet i j, X, sc, e, x, h => by
    simp only [okE] at h
    split at h
    · simp only [Bool.and_eq_true, decide_eq_true_eq] at h
      obtain ⟨h1, rfl⟩ := h
      exact pe_to (me_rowG (x.var h1)) (q_rowG call tbl _ _)
    · cases h
  | .rowLen i, X, sc, e, x, h => by
    simp only [okE] at h
    split at h
    · simp only [Bool.and_eq_true, decide_eq_true_eq] at h
      obtain ⟨⟨⟨⟨rfl, h1⟩, h2⟩, h3⟩, rfl⟩ := h
      exact pe_to (me_rowL (x.var h3) (x.gl h1) (x.fr h2)) (q_rowL call tbl _)
    · cases h
  | .rowCell i a, X, sc, e, x, h => by
    simp only [okE] at h
    split at h
    · simp only [Bool.and_eq_true, decide_eq_true_eq] at h
      obtain ⟨⟨⟨h1, rfl⟩, h2⟩, h3⟩ := h
      exact pe_to (me_rowC (x.var h1) (sndE a x h3) (ix_of h2)) (q_rowC call tbl _ _)
    · cases h
theorem sndEs : ∀ (es : Es) {X : Cx} {sc : Scope} {xs : List Expr}, XOk M call tbl k N X sc → okEs M tbl N sc es xs = true → PA X xs (TAx X.K fun ρ => evEs call tbl ρ es)
  | .nil, X, sc, xs, x, h => by
    cases xs with
    | nil => exact pa_to (ma_nil) (q_nil call tbl)
    | cons y ys => cases h
  | .cons e es, X, sc, xs, x, h => by
    cases xs with
    | nil => cases h
    | cons y ys =>
      simp only [okEs, Bool.and_eq_true] at h
      exact pa_to (ma_cons (sndE e x h.1.2) (sndEs es x h.2) (star_of h.1.1)) (q_cons call tbl _ _)
theorem sndO : ∀ (es : Es) {X : Cx} {sc : Scope} {o : Option Expr}, XOk M call tbl k N X sc → okO M tbl N sc es o = true → PO X o (TOx X.K fun ρ => evO call tbl ρ es)
  | .nil, X, sc, o, x, h => by
    cases o with
    | none => exact po_to (mo_none) (q_onil call tbl)
    | some y => cases h
  | .cons e es, X, sc, o, x, h => by
    cases o with
    | none => cases h
    | some y =>
      simp only [okO, Bool.and_eq_true] at h
      exact po_to (mo_some (sndE e x h.1)) (q_ocons call tbl _ _)
theorem sndW : ∀ (e' : E) {X : Cx} {sc : Scope} {e : Expr}, XOk M call tbl k N X sc → okW M tbl N sc e' e = true → PT X e (TTx X.K fun ρ => evE call tbl ρ e')
  | .not a, X, sc, e, x, h => by
    simp only [okW] at h
    split at h
    · exact pt_to (mt_not (sndW a x h)) (q_not call tbl _)
    · cases h
  | .and a b, X, sc, e, x, h => by
    simp only [okW] at h
    split at h
    · rename_i y z r p
      rw [Bool.and_eq_true] at h
      have e1 := sndW a x h.1
      have h2 := h.2
      split at h2
      · exact pt_to (PW.pt (mt_and e1 (pw_and1 (sndW b x h2)))) (q_and call tbl _ _)
      · exact pt_to (PW.pt (mt_and e1 (sndWa b x h2))) (q_and call tbl _ _)
    · cases h
  | .or a b, X, sc, e, x, h => by
    simp only [okW] at h
    split at h
    · rename_i y z r p
      rw [Bool.and_eq_true] at h
      have e1 := sndW a x h.1
      have h2 := h.2
      split at h2
      · exact pt_to (PW.pt (mt_or e1 (pw_or1 (sndW b x h2)))) (q_or call tbl _ _)
      · exact pt_to (PW.pt (mt_or e1 (sndWo b x h2))) (q_or call tbl _ _)
    · cases h
  | .cmp o a b, X, sc, e, x, h => by
    simp only [okW] at h
    split at h
    · simp only [Bool.and_eq_true, decide_eq_true_eq] at h
      obtain ⟨⟨⟨rfl, hp⟩, h1⟩, h2⟩ := h
      exact pt_to (mt_cmp (oc_cmp x.hu o) (sndE a x h1) (sndE b x h2) (mark_of hp)) (q_cmp call tbl _ _ _)
    · cases h
  | .chn o p a b c, X, sc, e, x, h => by
    simp only [okW] at h
    split at h
    · simp only [Bool.and_eq_true, decide_eq_true_eq] at h
      obtain ⟨⟨⟨⟨⟨⟨rfl, rfl⟩, hp⟩, hq⟩, h1⟩, h2⟩, h3⟩ := h
      exact pt_to (mt_chn (oc_cmp x.hu o) (oc_cmp x.hu p) (sndE a x h1) (sndE b x h2) (sndE c x h3) (marks_of hp hq)) (q_chn call tbl _ _ _ _ _)
    · cases h
  | .isN a, X, sc, e, x, h => by
    simp only [okW] at h
    split at h
    · exact pt_to (mt_isN (sndE a x h)) (q_isN call tbl _)
    · cases h
  | .noN a, X, sc, e, x, h => by
    simp only [okW] at h
    split at h
    · exact pt_to (mt_noN (sndE a x h)) (q_noN call tbl _)
    · cases h
  | .inG y neg a, X, sc, e, x, h => by
    simp only [okW] at h
    split at h
    · simp only [Bool.and_eq_true, decide_eq_true_eq] at h
      obtain ⟨⟨⟨⟨rfl, rfl⟩, h1⟩, h2⟩, h3⟩ := h
      obtain ⟨l, hl⟩ := Option.isSome_iff_exists.mp h2
      exact pt_to (mt_inG (l := l) (neg := neg) (x.tab _ l hl) (sndE a x h3) (x.gl h1) (glo_of h1).2 (mark_of rfl)) (by rw [q_inG, hl])
    · cases h
  | .var i, X, sc, e, x, h => by
    simp only [okW] at h
    split at h
    · exact pt_to (mt_val (me_var (x.var h)) (test_of rfl)) (q_var call tbl _)
    · cases h
  | .call f row es, X, sc, e, x, h => by
    simp only [okW] at h
    split at h
    · rename_i z p xs q
      simp only [Bool.and_eq_true, decide_eq_true_eq] at h
      obtain ⟨⟨⟨rfl, h1⟩, h2⟩, h3⟩ := h
      have hF := x.fns _ _ (List.contains_iff_mem.mp h2)
      refine pt_to (F := callF call _ row fun ρ => evEs call tbl ρ es) (mt_val ?_ (test_of rfl)) (q_call call tbl _ _ _)
      split at h3
      · have ha := sndEs es x h3
        have hp := okEs_plain h3
        cases xs with
        | nil =>
          cases es with
          | nil => exact pe_to (me_call0 hF x.room (x.gl h1) (glo_of h1).2) (by rw [q_nil])
          | cons e es => cases h3
        | cons y ys =>
          simp only [List.all_cons, Bool.and_eq_true] at hp
          exact me_call hF x.room (x.gl h1) ha (glo_of h1).2 (star_of hp.1) (any_of hp.2)
      · rename_i i y q' ys
        simp only [Bool.and_eq_true] at h3
        have ha := sndEs es x h3.2
        exact me_callr hF x.room (x.gl h1) (ma_row (x.var h3.1) ha (star_of rfl)) (glo_of h1).2 (star_of rfl) (any_of (okEs_plain h3.2))
      · cases h3
    · cases h
  | .isq fl a, X, sc, e, x, h => by
    simp only [okW] at h
    split at h
    · simp only [Bool.and_eq_true, decide_eq_true_eq] at h
      obtain ⟨⟨⟨⟨⟨⟨⟨⟨⟨⟨rfl, h1⟩, h2⟩, rfl⟩, rfl⟩, h3⟩, h4⟩, h5⟩, h6⟩, h7⟩, h8⟩ := h
      exact pt_to (mt_val (me_isq (fl := fl) (sndE a x h8) (x.gl h1) (x.fr h2) (x.gl h3) (x.fr h5) (x.gl h4) (x.fr h6) (star_of h7)) (test_of rfl)) (q_isq call tbl fl _)
    · cases h
  | .isi T a, X, sc, e, x, h => by
    simp only [okW] at h
    split at h
    · simp only [Bool.and_eq_true, decide_eq_true_eq] at h
      obtain ⟨⟨⟨⟨⟨⟨⟨rfl, h1⟩, h2⟩, h3⟩, h4⟩, h5⟩, h6⟩, h7⟩ := h
      obtain ⟨b1, b2⟩ := ty_boot h3
      exact pt_to (mt_val (me_isi (sndE a x h7) (x.gl h1) (x.fr h2) (x.gl h4) (x.fr h5) b1 b2 (glo_of h4).2 (star_of h6)) (test_of rfl)) (q_isi call tbl _ _)
    · cases h
  | .sub a b, X, sc, e, x, h => by
    simp only [okW] at h
    split at h
    · simp only [Bool.and_eq_true] at h
      exact pt_to (mt_val (me_sub (sndE a x h.1.2) (sndE b x h.2) (ix_of h.1.1)) (test_of rfl)) (q_sub call tbl _ _)
    · cases h
  | .cst _, X, sc, e, x, h => by cases h
  | .glo _ _, X, sc, e, x, h => by cases h
  | .bin _ _ _, X, sc, e, x, h => by cases h
  | .neg _, X, sc, e, x, h => by cases h
  | .ite _ _ _, X, sc, e, x, h => by cases h
  | .tup _, X, sc, e, x, h => by cases h
  | .lst _, X, sc, e, x, h => by cases h
  | .slc _ _ _, X, sc, e, x, h => by cases h
  | .comp _ _ _ _, X, sc, e, x, h => by cases h
  | .bi _ _, X, sc, e, x, h => by cases h
  | .meth _ _ _, X, sc, e, x, h => by cases h
  | .getG _ _, X, sc, e, x, h => by cases h
  | .rowGet _ _, X, sc, e, x, h => by cases h
  | .rowLen _, X, sc, e, x, h => by cases h
  | .rowCell _ _, X, sc, e, x, h => by cases h
  | .join _ _, X, sc, e, x, h => by cases h
  | .lrg _, X, sc, e, x, h => by cases h
  | .lcp _, X, sc, e, x, h => by cases h
  | .sset _, X, sc, e, x, h => by cases h
  | .dget _ _, X, sc, e, x, h => by cases h
  | .scp _ _ _, X, sc, e, x, h => by cases h
/-- the rest of an and -/
theorem sndWa : ∀ (e' : E) {X : Cx} {sc : Scope} {y z : Expr} {r : List Expr} {p : Pos}, XOk M call tbl k N X sc → okW M tbl N sc e' (.BoolOp .And (y :: z :: r) p) = true → PW X (.BoolOp .And (y :: z :: r) p) (TTx X.K fun ρ => evE call tbl ρ e')
  | .and a b, X, sc, y, z, r, p, x, h => by
    simp only [okW] at h
    rw [Bool.and_eq_true] at h
    have e1 := sndW a x h.1
    have h2 := h.2
    split at h2
    · exact pw_to (mt_and e1 (pw_and1 (sndW b x h2))) (q_and call tbl _ _)
    · exact pw_to (mt_and e1 (sndWa b x h2)) (q_and call tbl _ _)
  | .not _, X, sc, y, z, r, p, x, h => by cases h
  | .or _ _, X, sc, y, z, r, p, x, h => by cases h
  | .cmp _ _ _, X, sc, y, z, r, p, x, h => by cases h
  | .chn _ _ _ _ _, X, sc, y, z, r, p, x, h => by cases h
  | .isN _, X, sc, y, z, r, p, x, h => by cases h
  | .noN _, X, sc, y, z, r, p, x, h => by cases h
  | .inG _ _ _, X, sc, y, z, r, p, x, h => by cases h
  | .var _, X, sc, y, z, r, p, x, h => by cases h
  | .call _ _ _, X, sc, y, z, r, p, x, h => by cases h
  | .isi _ _, X, sc, y, z, r, p, x, h => by cases h
  | .sub _ _, X, sc, y, z, r, p, x, h => by cases h
  | .cst _, X, sc, y, z, r, p, x, h => by cases h
  | .glo _ _, X, sc, y, z, r, p, x, h => by cases h
  | .bin _ _ _, X, sc, y, z, r, p, x, h => by cases h
  | .neg _, X, sc, y, z, r, p, x, h => by cases h
  | .ite _ _ _, X, sc, y, z, r, p, x, h => by cases h
  | .tup _, X, sc, y, z, r, p, x, h => by cases h
  | .lst _, X, sc, y, z, r, p, x, h => by cases h
  | .slc _ _ _, X, sc, y, z, r, p, x, h => by cases h
  | .comp _ _ _ _, X, sc, y, z, r, p, x, h => by cases h
  | .bi _ _, X, sc, y, z, r, p, x, h => by cases h
  | .meth _ _ _, X, sc, y, z, r, p, x, h => by cases h
  | .getG _ _, X, sc, y, z, r, p, x, h => by cases h
  | .rowGet _ _, X, sc, y, z, r, p, x, h => by cases h
  | .rowLen _, X, sc, y, z, r, p, x, h => by cases h
  | .rowCell _ _, X, sc, y, z, r, p, x, h => by cases h
  | .join _ _, X, sc, y, z, r, p, x, h => by cases h
  | .lrg _, X, sc, y, z, r, p, x, h => by cases h
  | .lcp _, X, sc, y, z, r, p, x, h => by cases h
  | .sset _, X, sc, y, z, r, p, x, h => by cases h
  | .dget _ _, X, sc, y, z, r, p, x, h => by cases h
  | .scp _ _ _, X, sc, y, z, r, p, x, h => by cases h
  | .isq _ _, X, sc, y, z, r, p, x, h => by cases h
theorem sndWo : ∀ (e' : E) {X : Cx} {sc : Scope} {y z : Expr} {r : List Expr} {p : Pos}, XOk M call tbl k N X sc → okW M tbl N sc e' (.BoolOp .Or (y :: z :: r) p) = true → PW X (.BoolOp .Or (y :: z :: r) p) (TTx X.K fun ρ => evE call tbl ρ e')
  | .or a b, X, sc, y, z, r, p, x, h => by
    simp only [okW] at h
    rw [Bool.and_eq_true] at h
    have e1 := sndW a x h.1
    have h2 := h.2
    split at h2
    · exact pw_to (mt_or e1 (pw_or1 (sndW b x h2))) (q_or call tbl _ _)
    · exact pw_to (mt_or e1 (sndWo b x h2)) (q_or call tbl _ _)
  | .not _, X, sc, y, z, r, p, x, h => by cases h
  | .and _ _, X, sc, y, z, r, p, x, h => by cases h
  | .cmp _ _ _, X, sc, y, z, r, p, x, h => by cases h
  | .chn _ _ _ _ _, X, sc, y, z, r, p, x, h => by cases h
  | .isN _, X, sc, y, z, r, p, x, h => by cases h
  | .noN _, X, sc, y, z, r, p, x, h => by cases h
  | .inG _ _ _, X, sc, y, z, r, p, x, h => by cases h
  | .var _, X, sc, y, z, r, p, x, h => by cases h
  | .call _ _ _, X, sc, y, z, r, p, x, h => by cases h
  | .isi _ _, X, sc, y, z, r, p, x, h => by cases h
  | .sub _ _, X, sc, y, z, r, p, x, h => by cases h
  | .cst _, X, sc, y, z, r, p, x, h => by cases h
  | .glo _ _, X, sc, y, z, r, p, x, h => by cases h
  | .bin _ _ _, X, sc, y, z, r, p, x, h => by cases h
  | .neg _, X, sc, y, z, r, p, x, h => by cases h
  | .ite _ _ _, X, sc, y, z, r, p, x, h => by cases h
  | .tup _, X, sc, y, z, r, p, x, h => by cases h
  | .lst _, X, sc, y, z, r, p, x, h => by cases h
  | .slc _ _ _, X, sc, y, z, r, p, x, h => by cases h
  | .comp _ _ _ _, X, sc, y, z, r, p, x, h => by cases h
  | .bi _ _, X, sc, y, z, r, p, x, h => by cases h
  | .meth _ _ _, X, sc, y, z, r, p, x, h => by cases h
  | .getG _ _, X, sc, y, z, r, p, x, h => by cases h
  | .rowGet _ _, X, sc, y, z, r, p, x, h => by cases h
  | .rowLen _, X, sc, y, z, r, p, x, h => by cases h
  | .rowCell _ _, X, sc, y, z, r, p, x, h => by cases h
  | .join _ _, X, sc, y, z, r, p, x, h => by cases h
  | .lrg _, X, sc, y, z, r, p, x, h => by cases h
  | .lcp _, X, sc, y, z, r, p, x, h => by cases h
  | .sset _, X, sc, y, z, r, p, x, h => by cases h
  | .dget _ _, X, sc, y, z, r, p, x, h => by cases h
  | .scp _ _ _, X, sc, y, z, r, p, x, h => by cases h
  | .isq _ _, X, sc, y, z, r, p, x, h => by cases h
theorem sndCs : ∀ (es : Es) {X : Cx} {sc : Scope} {xs : List Expr}, XOk M call tbl k N X sc → okCs M tbl N sc es xs = true → PTs X xs (TCx X.K fun ρ => evC call tbl ρ es)
  | .nil, X, sc, xs, x, h => by
    cases xs with
    | nil => exact pc_to (mc_nil) (q_cnil call tbl)
    | cons y ys => cases h
  | .cons e es, X, sc, xs, x, h => by
    simp only [okCs] at h
    split at h
    · rw [Bool.and_eq_true] at h
      exact pc_to (mc_one (sndW e x h.1)) (q_ccons call tbl _ _)
    · cases h
theorem sndI : ∀ (it : It) {X : Cx} {sc : Scope} {tg e : Expr}, XOk M call tbl k N X sc → okI M tbl N sc it e = true → PI X tg e (TIx X.K fun ρ => evI call tbl ρ it)
  | .val a, X, sc, tg, e, x, h => by
    simp only [okI] at h
    exact pi_to (mi_val (sndE a x h)) (q_val call tbl _)
  | .rng1 a, X, sc, tg, e, x, h => by
    simp only [okI] at h
    split at h
    · simp only [Bool.and_eq_true, decide_eq_true_eq] at h
      obtain ⟨⟨⟨⟨rfl, h1⟩, h2⟩, h3⟩, h4⟩ := h
      exact pi_to (mi_rng1 (sndE a x h4) (x.gl h1) (x.fr h2) (star_of (es := []) h3)) (q_rng1 call tbl _)
    · cases h
  | .rng2 a b, X, sc, tg, e, x, h => by
    simp only [okI] at h
    split at h
    · simp only [Bool.and_eq_true, decide_eq_true_eq] at h
      obtain ⟨⟨⟨⟨⟨⟨rfl, h1⟩, h2⟩, h3⟩, h4⟩, h5⟩, h6⟩ := h
      exact pi_to (mi_rng2 (sndE a x h5) (sndE b x h6) (x.gl h1) (x.fr h2) (by rw [star_of h3, star_of (es := []) h4]; rfl) (star_of (es := []) h4)) (q_rng2 call tbl _ _)
    · cases h
  | .rng3 a b c, X, sc, tg, e, x, h => by
    simp only [okI] at h
    split at h
    · simp only [Bool.and_eq_true, decide_eq_true_eq] at h
      obtain ⟨⟨⟨⟨⟨⟨⟨⟨rfl, h1⟩, h2⟩, h3⟩, h4⟩, h5⟩, h6⟩, h7⟩, h8⟩ := h
      exact pi_to (mi_rng3 (sndE a x h6) (sndE b x h7) (sndE c x h8) (x.gl h1) (x.fr h2) (by rw [star_of h3, star_of h4, star_of (es := []) h5]; rfl) (by rw [star_of h4, star_of (es := []) h5]; rfl) (star_of (es := []) h5)) (q_rng3 call tbl _ _ _)
    · cases h
end
end
end Mi
end
section
set_option maxRecDepth 100000
set_option maxHeartbeats 1000000
/-! Statements: the language and its meaning. -/
namespace Mi
open PySem PySem.Spec PyProof.Rows L2
mutual
inductive S where
  | asg (i : Nat) (fz : List Nat) (e : E)
  | tup (is : List Nat) (fz : List Nat) (e : E)
  | par2 (i j : Nat) (a b : E)
  | par3 (i j l : Nat) (a b c : E)
  | app (i : Nat) (e : E)
  | spo (i k : Nat) (e : E)
  | rem (i : Nat) (e : E)
  | ext (i : Nat) (e : E)
  | apo (i j : Nat) (e : E)
  | ins (i : Nat) (a b : E)
  | sto (i : Nat) (a b : E)
  | rowSet (i k : Nat) (e : E)
  | exp (e : E)
  | ite (c : E) (a b : Ss)
  | whl (n : Nat) (c : E) (b : Ss)
  | for1 (tg : Tg) (fz : List Nat) (it : It) (b : Ss)
  | forK (tg : Tg) (fz : List Nat) (e : E) (b : Ss)
  | ret (e : E)
  | rai
  | raiC (c : Str)
  | retX (f : Str) (es : Es)
  | tryR (b : Ss) (c : Str) (d : D)
  | dnew (i : Nat)
  | dof (i : Nat) (e : E)
  | dput (i : Nat) (a b : E)
  | forD (tg : Tg) (i : Nat) (b : Ss)
  | pas
inductive Ss where
  | nil
  | cons (s : S) (ss : Ss)
end
/-- a name's value between statements: none; the row; what nobody changes; what is this def's own; spoilt: its items that are lists, their lengths at most -/
inductive Sl | no | row | imm (d : D) | own (d : D) | jk (ks : List (Nat × Nat)) | dcm (es : List (List L2.Key × D)) | dcl (es : List (List L2.Key × D))
abbrev SEnv := List Sl
def Sl.x : Sl → Sx
  | .no => .no
  | .row => .row
  | .imm d => .val d .fz
  | .own d => .val d .bo
  | .jk _ => .no
  | .dcm es => .dct es
  | .dcl es => .dct es
/-- at a def's end its own things are new -/
def Sl.y : Sl → Sx
  | .no => .no
  | .row => .row
  | .imm d => .val d .fz
  | .own d => .val d .fr
  | .jk _ => .no
  | .dcm _ => .no
  | .dcl _ => .no
def SEnv.x (ρ : SEnv) : Ex := ρ.map Sl.x
def SEnv.y (ρ : SEnv) : Ex := ρ.map Sl.y
inductive Out | nx (ρ : SEnv) (g : G) | rt (d : D) (t : Tag) (g : G) | ex (c : Str) (ρ : SEnv) (g : G)
def kindL (d : D) (t : Tag) : Option Sl := match t with
  | .fr => some (.own d)
  | .fz => some (.imm d)
  | .bo => none
def kindT (d : D) (t : Tag) : Option Sl := match t with
  | .fz => some (.imm d)
  | .fr => if lf d then some (.imm d) else some (.own d)
  | .bo => if lf d then some (.imm d) else none
/-- what a name that is given d holds -/
def kind (d : D) (t : Tag) : Option Sl := match d with
  | .list _ => kindL d t
  | .tuple _ => kindT d t
  | _ => some (.imm d)
def frz1 (ρ : SEnv) (i : Nat) : SEnv := match ρ[i]? with
  | some (.own d) => ρ.set i (.imm d)
  | _ => ρ
def frz (ρ : SEnv) (l : List Nat) : SEnv := l.foldl frz1 ρ
def put (ρ : SEnv) (i : Nat) (d : D) (t : Tag) : Option SEnv := (kind d t).map fun s => ρ.set i s
def puts : List Nat → List D → Tag → SEnv → Option SEnv
  | [], [], _, ρ => some ρ
  | i :: is, d :: ds, t, ρ => match put ρ i d t with
    | none => none
    | some ρ' => puts is ds t ρ'
  | _, _, _, _ => none
/-- what a loop's target is given: nothing of one's own -/
def fzT (t : Tag) : Tag := match t with
  | .bo => .bo
  | _ => .fz
def putT (tg : Tg) (d : D) (t : Tag) (ρ : SEnv) : Option SEnv := match tg with
  | .one i => put ρ i d t
  | .many l => match d with
    | .tuple ds => puts l ds t ρ
    | _ => none
def lists : Nat → List D → List (Nat × Nat)
  | _, [] => []
  | k, .list l :: ds => (k, l.length) :: lists (k + 1) ds
  | k, _ :: ds => lists (k + 1) ds
def spoil (s : Sl) (k : Nat) : Option Sl := match s with
  | .own (.tuple ds) => if ((lists 0 ds).any fun p => p.1 == k) && ((lists 0 ds).all fun p => decide (p.2 < 1000000)) then some (.jk ((lists 0 ds).map fun p => (p.1, p.2 + 1))) else none
  | .own (.list ds) => if ((lists 0 ds).any fun p => p.1 == k) && ((lists 0 ds).all fun p => decide (p.2 < 1000000)) then some (.jk ((lists 0 ds).map fun p => (p.1, p.2 + 1))) else none
  | .jk ks => if (ks.any fun p => p.1 == k) && (ks.all fun p => decide (p.2 < 1000000)) then some (.jk (ks.map fun p => (p.1, p.2 + 1))) else none
  | _ => none
def whileN (c : SEnv → G → Option (Bool × G)) (b : SEnv → G → Option Out) : Nat → SEnv → G → Option Out
  | 0, _, _ => none
  | n + 1, ρ, g => match c ρ g with
    | none => none
    | some (false, g1) => some (.nx ρ g1)
    | some (true, g1) => match b ρ g1 with
      | none => none
      | some (.nx ρ' g2) => whileN c b n ρ' g2
      | some (.rt d t g2) => some (.rt d t g2)
      | some (.ex c ρ2 g2) => some (.ex c ρ2 g2)
def forL (tg : Tg) (t : Tag) (b : SEnv → G → Option Out) : List D → SEnv → G → Option Out
  | [], ρ, g => some (.nx ρ g)
  | x :: xs, ρ, g => match putT tg x t ρ with
    | none => none
    | some ρ1 => match b ρ1 g with
      | none => none
      | some (.nx ρ2 g2) => forL tg t b xs ρ2 g2
      | some (.rt d u g2) => some (.rt d u g2)
      | some (.ex c ρ2 g2) => some (.ex c ρ2 g2)
def fresh (d : D) (t : Tag) : Bool := match t with
  | .fr => true
  | _ => lf d
def freshL (es : List D) (t : Tag) : Bool := match t with
  | .fr => true
  | _ => lfs es
variable (call : Call) (tbl : TblS)
def evB (c : E) (ρ : SEnv) (g : G) : Option (Bool × G) := match evE call tbl ρ.x c g with
  | some (.bool b, _, g1) => some (b, g1)
  | _ => none
mutual
def exec : S → SEnv → G → Option Out
  | .asg i fz e, ρ, g => match evE call tbl (frz ρ fz).x e g with
    | none => none
    | some (d, t, g1) => match put (frz ρ fz) i d t with
      | none => none
      | some ρ' => some (.nx ρ' g1)
  | .tup is fz e, ρ, g => match evE call tbl (frz ρ fz).x e g with
    | none => none
    | some (d, t, g1) => match putT (.many is) d (fzT t) (frz ρ fz) with
      | none => none
      | some ρ' => some (.nx ρ' g1)
  | .par2 i j a b, ρ, g => match evE call tbl ρ.x a g with
    | none => none
    | some (d, t, g1) => match evE call tbl ρ.x b g1 with
      | none => none
      | some (d', t', g2) => match put ρ i d t with
        | none => none
        | some ρ1 => match put ρ1 j d' t' with
          | none => none
          | some ρ2 => some (.nx ρ2 g2)
  | .par3 i j l a b c, ρ, g => match evE call tbl ρ.x a g with
    | none => none
    | some (d, t, g1) => match evE call tbl ρ.x b g1 with
      | none => none
      | some (d', t', g2) => match evE call tbl ρ.x c g2 with
        | none => none
        | some (d2, t2, g3) => match put ρ i d t with
          | none => none
          | some ρ1 => match put ρ1 j d' t' with
            | none => none
            | some ρ2 => match put ρ2 l d2 t2 with
              | none => none
              | some ρ3 => some (.nx ρ3 g3)
  | .app i e, ρ, g => match evE call tbl ρ.x e g with
    | none => none
    | some (d, t, g1) => match ρ[i]? with
      | some (.own (.list ds)) => if fresh d t && decide (ds.length < 1000000) then some (.nx (ρ.set i (.own (.list (ds ++ [d])))) g1) else none
      | _ => none
  | .spo i k e, ρ, g => match evE call tbl ρ.x e g with
    | none => none
    | some (d, _, g1) => match ρ[i]? with
      | some s => match spoil s k with
        | some s' => if lf d then some (.nx (ρ.set i s') g1) else none
        | none => none
      | none => none
  | .rem i e, ρ, g => match evE call tbl ρ.x e g with
    | none => none
    | some (d, _, g1) => match ρ[i]? with
      | some (.own (.list ds)) => if decide (min (PyData.depthAll ds) d.depth ≤ 60) then (match SeqAt.dataPlace ds d with
        | some j => some (.nx (ρ.set i (.own (.list (ds.eraseIdx j)))) g1)
        | none => none) else none
      | _ => none
  | .ext i e, ρ, g => match evE call tbl ρ.x e g with
    | none => none
    | some (d, t, g1) => match ρ[i]?, d with
      | some (.own (.list ds)), .list es => if freshL es t && decide (ds.length + es.length < 1000000) then some (.nx (ρ.set i (.own (.list (ds ++ es)))) g1) else none
      | _, _ => none
  | .apo i j e, ρ, g => match evE call tbl ρ.x e g with
    | some (.int k, _, g1) => match ρ[i]?, ρ[j]? with
      | some (.own (.list ds)), some (.own (.list es)) => match es[k.toNat]? with
        | some d => if lf d && decide (i ≠ j) && decide (0 ≤ k) && decide (k ≤ 1000000) && decide (ds.length < 1000000) then some (.nx ((ρ.set j (.own (.list (es.eraseIdx k.toNat)))).set i (.own (.list (ds ++ [d])))) g1) else none
        | none => none
      | _, _ => none
    | _ => none
  | .ins i a b, ρ, g => match evE call tbl ρ.x a g with
    | some (.int k, _, g1) => match evE call tbl ρ.x b g1 with
      | none => none
      | some (d, _, g2) => match ρ[i]? with
        | some (.own (.list ds)) => if lf d && decide (0 ≤ k) && decide (k ≤ 1000000) && decide (ds.length < 1000000) then some (.nx (ρ.set i (.own (.list (ds.take k.toNat ++ [d] ++ ds.drop k.toNat)))) g2) else none
        | _ => none
    | _ => none
  | .sto i a b, ρ, g => match evE call tbl ρ.x b g with
    | none => none
    | some (d, _, g1) => match evE call tbl ρ.x a g1 with
      | some (.int k, _, g2) => match ρ[i]? with
        | some (.own (.list ds)) => if lf d && decide (0 ≤ k) && decide (k.toNat < ds.length) then some (.nx (ρ.set i (.own (.list (ds.set k.toNat d)))) g2) else none
        | _ => none
      | _ => none
  | .rowSet i k e, ρ, g => match evE call tbl ρ.x e g with
    | some (.int v, _, g1) => match ρ[i]? with
      | some .row => match k with
        | 1 => some (.nx ρ { g1 with p := v })
        | 2 => some (.nx ρ { g1 with m := v })
        | 3 => some (.nx ρ { g1 with r := v })
        | _ => none
      | _ => none
    | _ => none
  | .exp e, ρ, g => match evE call tbl ρ.x e g with
    | none => none
    | some (_, _, g1) => some (.nx ρ g1)
  | .ite c a b, ρ, g => match evB call tbl c ρ g with
    | none => none
    | some (true, g1) => execs a ρ g1
    | some (false, g1) => execs b ρ g1
  | .whl n c b, ρ, g => whileN (evB call tbl c) (fun ρ g => execs b ρ g) n ρ g
  | .for1 tg fz it b, ρ, g => match evI call tbl (frz ρ fz).x it g with
    | none => none
    | some (xs, t, g1) => match t with
      | .bo => none
      | _ => forL tg .fz (fun ρ g => execs b ρ g) xs (frz ρ fz) g1
  | .forK tg fz e b, ρ, g => match evE call tbl (frz ρ fz).x e g with
    | some (.list ds, _, g1) => match sortK ds with
      | some es => forL tg .fz (fun ρ g => execs b ρ g) es (frz ρ fz) g1
      | none => none
    | _ => none
  | .ret e, ρ, g => match evE call tbl ρ.y e g with
    | none => none
    | some (d, t, g1) => match nrm d t with
      | .bo => none
      | u => some (.rt d u g1)
  | .rai, _, _ => none
  | .raiC c, ρ, g => some (.ex c ρ g)
  | .retX f es, ρ, g => match evEs call tbl ρ.x es g with
    | none => none
    | some (ds, _, g1) => match call f false ds g1 with
      | some (d, u, g2) => (match u with
        | .fr => some (.rt d .fr g2)
        | _ => none)
      | none => match call (xn f) false ds g1 with
        | some (.str c, _, g2) => some (.ex c ρ g2)
        | _ => none
  | .tryR b c d, ρ, g => match execs b ρ g with
    | none => none
    | some (.nx ρ' g1) => some (.nx ρ' g1)
    | some (.rt e t g1) => some (.rt e t g1)
    | some (.ex c' _ g1) => if c' = c ∧ leaf d = true then some (.rt d .fr g1) else none
  | .dnew i, ρ, g => some (.nx (ρ.set i (.dcm [])) g)
  | .dof i e, ρ, g => match evE call tbl ρ.x e g with
    | some (.list ds, .fr, g1) => (match pairsE ds with
      | none => none
      | some es => if (es.map (·.1)).Nodup then some (.nx (ρ.set i (.dcm es)) g1) else none)
    | _ => none
  | .dput i a b, ρ, g => match evE call tbl ρ.x b g with
    | none => none
    | some (d, t, g1) => match evE call tbl ρ.x a g1 with
      | none => none
      | some (x, _, g2) => match ρ[i]? with
        | some (.dcm es) => (match dkeyD x with
          | none => none
          | some k => if fresh d t && decide (es.length < 1000000) then some (.nx (ρ.set i (.dcm (putE es k d))) g2) else none)
        | _ => none
  | .forD tg i b, ρ, g => match ρ[i]? with
    | some (.dcm es) => forL tg .fz (fun ρ g => execs b ρ g) (es.map fun p => keyE p.1) (ρ.set i (.dcl es)) g
    | some (.dcl es) => forL tg .fz (fun ρ g => execs b ρ g) (es.map fun p => keyE p.1) ρ g
    | _ => none
  | .pas, ρ, g => some (.nx ρ g)
def execs : Ss → SEnv → G → Option Out
  | .nil, ρ, g => some (.nx ρ g)
  | .cons s ss, ρ, g => match exec s ρ g with
    | none => none
    | some (.nx ρ' g1) => execs ss ρ' g1
    | some (.rt d t g1) => some (.rt d t g1)
    | some (.ex c ρ1 g1) => some (.ex c ρ1 g1)
end
/-! ### a def, and all of them -/
structure Fd where
  name : Str
  row : Bool
  /-- how many parameters beside the row -/
  ar : Nat
  /-- how many names -/
  nn : Nat
  body : Ss
def entry (f : Fd) (ds : List D) : SEnv := ((if f.row then [Sl.row] else []) ++ ds.map Sl.imm) ++ List.replicate (f.nn - ds.length - (if f.row then 1 else 0)) Sl.no
def runF (call : Call) (f : Fd) (ds : List D) (g : G) : Option (D × Tag × G) := if ds.length = f.ar then (match execs call tbl f.body (entry f ds) g with
    | some (.rt d t g') => some (d, t, g')
    | some (.nx _ g') => some (.none, .fr, g')
    | some (.ex _ _ _) => none
    | none => none) else none
/-- what it raises -/
def runE (call : Call) (f : Fd) (ds : List D) (g : G) : Option (D × Tag × G) := if ds.length = f.ar then (match execs call tbl f.body (entry f ds) g with
    | some (.ex c _ g') => some (.str c, .fr, g')
    | _ => none) else none
/-- calls, n deep -/
def run (fs : List Fd) : Nat → Call
  | 0 => fun _ _ _ _ => none
  | n + 1 => fun x row ds g => match fs.find? fun f => f.name == x && f.row == row with
    | none => (match fs.find? fun f => xn f.name == x && f.row == row with
      | none => none
      | some f => runE tbl (run fs n) f ds g)
    | some f => runF tbl (run fs n) f ds g
end Mi
end
section
set_option maxRecDepth 100000
set_option maxHeartbeats 1000000
/-! A def's names between statements: what is frozen, what is its own. -/
namespace Mi
open PySem PySem.Spec PyProof.Rows L2
/-! ### data is read off the heap; a list is not its own item -/
section
variable {S S' : Addr → Prop} {H : Hp}
mutual
theorem Rep.det : ∀ (d : D) {d' : D} {v : V}, Rep S H d v → Rep S' H d' v → d = d'
  | .none, d', v, h, k => by
    rw [h.none_inv] at k
    cases d' with
    | none => rfl
    | bool b => cases k.bool_inv
    | int b => cases k.int_inv
    | str b => cases k.str_inv
    | tuple b => obtain ⟨_, _, e, _⟩ := k.tuple_inv; cases e
    | list b => obtain ⟨_, _, e, _⟩ := k.list_inv; cases e
    | dict b => exact k.dict_inv.elim
  | .bool x, d', v, h, k => by
    rw [h.bool_inv] at k
    cases d' with
    | none => cases k.none_inv
    | bool b => cases k.bool_inv; rfl
    | int b => cases k.int_inv
    | str b => cases k.str_inv
    | tuple b => obtain ⟨_, _, e, _⟩ := k.tuple_inv; cases e
    | list b => obtain ⟨_, _, e, _⟩ := k.list_inv; cases e
    | dict b => exact k.dict_inv.elim
  | .int x, d', v, h, k => by
    rw [h.int_inv] at k
    cases d' with
    | none => cases k.none_inv
    | bool b => cases k.bool_inv
    | int b => cases k.int_inv; rfl
    | str b => cases k.str_inv
    | tuple b => obtain ⟨_, _, e, _⟩ := k.tuple_inv; cases e
    | list b => obtain ⟨_, _, e, _⟩ := k.list_inv; cases e
    | dict b => exact k.dict_inv.elim
  | .str x, d', v, h, k => by
    rw [h.str_inv] at k
    cases d' with
    | none => cases k.none_inv
    | bool b => cases k.bool_inv
    | int b => cases k.int_inv
    | str b => cases k.str_inv; rfl
    | tuple b => obtain ⟨_, _, e, _⟩ := k.tuple_inv; cases e
    | list b => obtain ⟨_, _, e, _⟩ := k.list_inv; cases e
    | dict b => exact k.dict_inv.elim
  | .tuple ds, d', v, h, k => by
    obtain ⟨a, vs, e, h1, h2⟩ := h.tuple_inv
    rw [e] at k
    cases d' with
    | none => cases k.none_inv
    | bool b => cases k.bool_inv
    | int b => cases k.int_inv
    | str b => cases k.str_inv
    | tuple b =>
      obtain ⟨_, _, e, k1, k2⟩ := k.tuple_inv
      cases e
      rw [h1] at k1
      cases k1
      rw [RepA.det ds h2 k2]
    | list b =>
      obtain ⟨_, _, e, _, k1, _⟩ := k.list_inv
      cases e
      rw [h1] at k1
      cases k1
    | dict b => exact k.dict_inv.elim
  | .list ds, d', v, h, k => by
    obtain ⟨a, vs, e, h0, h1, h2⟩ := h.list_inv
    rw [e] at k
    cases d' with
    | none => cases k.none_inv
    | bool b => cases k.bool_inv
    | int b => cases k.int_inv
    | str b => cases k.str_inv
    | tuple b =>
      obtain ⟨_, _, e, k1, k2⟩ := k.tuple_inv
      cases e
      rw [h1] at k1
      cases k1
    | list b =>
      obtain ⟨_, _, e, _, k1, k2⟩ := k.list_inv
      cases e
      rw [h1] at k1
      cases k1
      rw [RepA.det ds h2 k2]
    | dict b => exact k.dict_inv.elim
  | .dict _, d', v, h, k => h.dict_inv.elim
theorem RepA.det : ∀ (ds : List D) {es : List D} {vs : List V}, RepA S H ds vs → RepA S' H es vs → ds = es
  | [], es, vs, h, k => by
    rw [h.nil_inv] at k
    cases es with
    | nil => rfl
    | cons e es => obtain ⟨_, _, e, _⟩ := k.inv; cases e
  | d :: ds, es, vs, h, k => by
    obtain ⟨v, r, e, h1, h2⟩ := h.inv
    rw [e] at k
    cases es with
    | nil => cases k.nil_inv
    | cons e' es =>
      obtain ⟨_, _, e, k1, k2⟩ := k.inv
      cases e
      rw [Rep.det d h1 k1, RepA.det ds h2 k2]
end
mutual
theorem Rep.away (p : Addr) (vs0 : List V) (h0 : H p = some (.lst vs0)) : ∀ (d : D) {v : V}, Rep S H d v → Rep (fun a => S a ∧ a ≠ p) H d v ∨ ∃ es, sizeOf es < sizeOf d ∧ RepA S H es vs0
  | .none, v, h => .inl (Rep.leaf rfl h)
  | .bool _, v, h => .inl (Rep.leaf rfl h)
  | .int _, v, h => .inl (Rep.leaf rfl h)
  | .str _, v, h => .inl (Rep.leaf rfl h)
  | .tuple ds, v, h => by
    obtain ⟨a, vs, e, h1, h2⟩ := h.tuple_inv
    rw [e]
    rcases RepA.away p vs0 h0 ds h2 with z | ⟨es, z1, z2⟩
    · exact .inl (Rep.tuple h1 z)
    · exact .inr ⟨es, by simp; omega, z2⟩
  | .list ds, v, h => by
    obtain ⟨a, vs, e, hs, h1, h2⟩ := h.list_inv
    rw [e]
    by_cases q : a = p
    · subst q
      rw [h0] at h1
      cases h1
      exact .inr ⟨ds, by simp, h2⟩
    · rcases RepA.away p vs0 h0 ds h2 with z | ⟨es, z1, z2⟩
      · exact .inl (Rep.list ⟨hs, q⟩ h1 z)
      · exact .inr ⟨es, by simp; omega, z2⟩
  | .dict _, v, h => h.dict_inv.elim
theorem RepA.away (p : Addr) (vs0 : List V) (h0 : H p = some (.lst vs0)) : ∀ (ds : List D) {vs : List V}, RepA S H ds vs → RepA (fun a => S a ∧ a ≠ p) H ds vs ∨ ∃ es, sizeOf es < sizeOf ds ∧ RepA S H es vs0
  | [], vs, h => by
    rw [h.nil_inv]
    exact .inl .nil
  | d :: ds, vs, h => by
    obtain ⟨v, r, e, h1, h2⟩ := h.inv
    rw [e]
    rcases Rep.away p vs0 h0 d h1 with z | ⟨es, z1, z2⟩
    · rcases RepA.away p vs0 h0 ds h2 with y | ⟨es, z1, z2⟩
      · exact .inl (.cons z y)
      · exact .inr ⟨es, by simp; omega, z2⟩
    · exact .inr ⟨es, by simp; omega, z2⟩
end
/-- a list's items do not hold it -/
theorem RepA.aloof {p : Addr} {ds : List D} {vs : List V} (h0 : H p = some (.lst vs)) (h : RepA S H ds vs) : RepA (fun a => S a ∧ a ≠ p) H ds vs := by
  rcases RepA.away p vs h0 ds h with z | ⟨es, z1, z2⟩
  · exact z
  · rw [RepA.det es z2 h] at z1
    exact absurd z1 (Nat.lt_irrefl _)
theorem RepA.erase {ds : List D} {vs : List V} (h : RepA S H ds vs) (j : Nat) : RepA S H (ds.eraseIdx j) (vs.eraseIdx j) := by
  rw [List.eraseIdx_eq_take_drop_succ, List.eraseIdx_eq_take_drop_succ]
  exact (h.take j).append (h.drop (j + 1))
theorem rep_upd {p : Addr} {o : HO} {xs : List V} {d : D} {v : V} (hp : H p = some (.lst xs)) (h : Rep S H d v) (hn : ¬ S p) : Rep S (upd H p o) d v :=
  Rep.mono (fun a ys h1 h2 => ⟨h1, by rw [upd_ne (fun (z : a = p) => hn (z ▸ h1))]; exact h2⟩) (fun a ys h => by rw [upd_ne (ne_of h hp (fun z => by cases z))]; exact h) d v h
theorem repA_upd {p : Addr} {o : HO} {xs : List V} {d : List D} {v : List V} (hp : H p = some (.lst xs)) (h : RepA S H d v) (hn : ¬ S p) : RepA S (upd H p o) d v :=
  RepA.mono (fun a ys h1 h2 => ⟨h1, by rw [upd_ne (fun (z : a = p) => hn (z ▸ h1))]; exact h2⟩) (fun a ys h => by rw [upd_ne (ne_of h hp (fun z => by cases z))]; exact h) d v h
end
/-- what nobody changes: what came in, what is new and nobody's own -/
def Fz (Z0 : Addr → Prop) (H0 : Hp) (O : Nat → Addr → Prop) : Addr → Prop := fun a => Nw Z0 H0 a ∧ ∀ j, ¬ O j a
def SlOk (R : Addr) (F : Addr → Prop) (Oi : Addr → Prop) (H : Hp) (x : Option (Option V)) : Sl → Prop
  | .no => True
  | .row => x = some (some (.ref R))
  | .imm d => ∃ v, x = some (some v) ∧ Rep F H d v
  | .own d => ∃ v, x = some (some v) ∧ Rep Oi H d v
  | .jk ks => ∃ a vs, x = some (some (.ref a)) ∧ (H a = some (.tup vs) ∨ (H a = some (.lst vs) ∧ Oi a)) ∧ ∀ p ∈ ks, ∃ b ws, vs[p.1]? = some (.ref b) ∧ Oi b ∧ b ≠ a ∧ H b = some (.lst ws) ∧ ws.length ≤ p.2
  | .dcm es => ∃ a kvs, x = some (some (.ref a)) ∧ Oi a ∧ H a = some (.dT kvs) ∧ RepK Oi H es kvs
  | .dcl es => ∃ a kvs o, x = some (some (.ref a)) ∧ F a ∧ H a = some (.frz o (.dT kvs)) ∧ RepK F H es kvs
structure StOk (R : Addr) (H0 : Hp) (Z0 : Addr → Prop) (O : Nat → Addr → Prop) (ρ : SEnv) (σ : L2.St) (H : Hp) : Prop where
  len : ρ.length = σ.length
  x0 : Ext R H0 H
  nr : ¬ Z0 R
  h0R : H0 R ≠ none
  hR : H R ≠ none
  o0 : ∀ i a, O i a → H0 a = none ∧ H a ≠ none
  dj : ∀ i j a, O i a → O j a → i = j
  sl : ∀ (i : Nat) (s : Sl), ρ[i]? = some s → SlOk R (Fz Z0 H0 O) (O i) H σ[i]? s
/-- from one state to a later one: what stood and was nobody's own stays -/
structure Ev (R : Addr) (O : Nat → Addr → Prop) (H : Hp) (O' : Nat → Addr → Prop) (H' : Hp) : Prop where
  own : ∀ i a, O' i a → (∃ j, O j a) ∨ H a = none
  keep : ∀ a xs, a ≠ R → H a = some (.lst xs) → (∀ j, ¬ O j a) → H' a = some (.lst xs)
  dk : ∀ a o, dl o = true → H a = some o → (∀ j, ¬ O j a) → H' a = some o
  tups : ∀ a xs, H a = some (.tup xs) → H' a = some (.tup xs)
  there : ∀ a, H a ≠ none → H' a ≠ none
section
variable {R : Addr} {H0 H H' H1 H2 : Hp} {Z0 : Addr → Prop} {O O' O1 O2 : Nat → Addr → Prop} {ρ ρ' : SEnv} {σ σ' : L2.St}
theorem Ev.refl : Ev R O H O H := ⟨fun i a h => .inl ⟨i, h⟩, fun _ _ _ h _ => h, fun _ _ _ h _ => h, fun _ _ h => h, fun _ h => h⟩
theorem Ev.back (a : Ev R O H O' H') {c : Addr} (h : H' c = none) : H c = none := by
  cases q : H c with
  | none => rfl
  | some o => exact absurd h (a.there c (by rw [q]; exact fun z => nomatch z))
theorem Ev.trans (a : Ev R O H O1 H1) (b : Ev R O1 H1 O2 H2) : Ev R O H O2 H2 := by
  refine ⟨fun i c h => ?_, fun c o n h ho => b.keep c o n (a.keep c o n h ho) fun j hj => ?_, fun c o m h ho => b.dk c o m (a.dk c o m h ho) fun j hj => ?_, fun c xs h => b.tups c xs (a.tups c xs h), fun c h => b.there c (a.there c h)⟩
  · rcases b.own i c h with ⟨j, hj⟩ | hn
    · exact a.own j c hj
    · exact .inr (a.back hn)
  · rcases a.own j c hj with ⟨j', hj'⟩ | hn
    · exact ho j' hj'
    · rw [h] at hn
      cases hn
  · rcases a.own j c hj with ⟨j', hj'⟩ | hn
    · exact ho j' hj'
    · rw [h] at hn
      cases hn
theorem ext_there (x : Ext R H H1) (hR : H1 R ≠ none) (a : Addr) (h : H a ≠ none) : H1 a ≠ none := by
  by_cases e : a = R
  · rw [e]; exact hR
  · exact x.thr a e h
theorem Ev.ext (x : Ext R H H1) (hR : H1 R ≠ none) : Ev R O H O H1 := ⟨fun i a h => .inl ⟨i, h⟩, fun a o n h _ => x.keep a o n h, fun a o m h _ => x.dk a o m h, x.tups, ext_there x hR⟩
theorem StOk.fzR (st : StOk R H0 Z0 O ρ σ H) : ¬ Fz Z0 H0 O' R := fun z => z.1.elim st.nr st.h0R
theorem StOk.oR (st : StOk R H0 Z0 O ρ σ H) {i : Nat} {a : Addr} (h : O i a) : a ≠ R := fun z => st.h0R (z ▸ (st.o0 i a h).1)
/-- what nobody changes stays so -/
theorem Ev.kp (ev : Ev R O H O' H') {S : Addr → Prop} (h1 : ∀ a, S a → a ≠ R ∧ ∀ j, ¬ O j a) : Kp S H H' := ⟨fun a xs s e => ev.keep a _ (h1 a s).1 e (h1 a s).2, ev.tups⟩
theorem Ev.fz (ev : Ev R O H O' H') {a : Addr} (h : Fz Z0 H0 O a) (n : H a ≠ none) : Fz Z0 H0 O' a := ⟨h.1, fun j z => (ev.own j a z).elim (fun ⟨i, y⟩ => h.2 i y) n⟩
theorem Ev.rep (st : StOk R H0 Z0 O ρ σ H) (ev : Ev R O H O' H') {d : D} {v : V} (h : Rep (Fz Z0 H0 O) H d v) : Rep (Fz Z0 H0 O') H' d v :=
  ((h.alloc.kp (ev.kp fun a s => ⟨fun z => st.fzR (z ▸ s.1), s.1.2⟩)).sub fun a s => ev.fz s.1 s.2)
theorem ev_x0 (st : StOk R H0 Z0 O ρ σ H) (ev : Ev R O H O' H') : Ext R H0 H' :=
  ⟨fun a o n h => ev.keep a o n (st.x0.keep a o n h) fun j z => (by rw [(st.o0 j a z).1] at h; cases h), fun a o m h => ev.dk a o m (st.x0.dk a o m h) fun j z => (by rw [(st.o0 j a z).1] at h; cases h), fun a xs h => ev.tups a xs (st.x0.tups a xs h), fun a n h => ev.there a (st.x0.thr a n h)⟩
theorem SlOk.move (st : StOk R H0 Z0 O ρ σ H) (ev : Ev R O H O' H') {i : Nat} {x : Option (Option V)} {s : Sl} (hO : O' i = O i) (hk : ∀ a xs, O i a → H a = some (.lst xs) → H' a = some (.lst xs)) (hdk : ∀ a o, dl o = true → O i a → H a = some o → H' a = some o) (h : SlOk R (Fz Z0 H0 O) (O i) H x s) : SlOk R (Fz Z0 H0 O') (O' i) H' x s := by
  rw [hO]
  cases s with
  | no => trivial
  | row => exact h
  | imm d => obtain ⟨v, e, r⟩ := h; exact ⟨v, e, Ev.rep st ev r⟩
  | own d => obtain ⟨v, e, r⟩ := h; exact ⟨v, e, r.kp ⟨fun a xs s y => hk a _ s y, ev.tups⟩⟩
  | jk ks =>
    obtain ⟨a, vs, e, h1, h2⟩ := h
    refine ⟨a, vs, e, ?_, fun p hp => ?_⟩
    · rcases h1 with z | ⟨z, y⟩
      · exact .inl (ev.tups _ _ z)
      · exact .inr ⟨hk a _ y z, y⟩
    · obtain ⟨b, ws, k1, k2, k3, k4, k5⟩ := h2 p hp
      exact ⟨b, ws, k1, k2, k3, hk b _ k2 k4, k5⟩
  | dcm es =>
    obtain ⟨a, kvs, e, h0, h1, h2⟩ := h
    exact ⟨a, kvs, e, h0, hdk _ _ rfl h0 h1, h2.imp fun _ _ r => r.kp ⟨fun a xs s y => hk a _ s y, ev.tups⟩⟩
  | dcl es =>
    obtain ⟨a, kvs, o, e, h0, h1, h2⟩ := h
    exact ⟨a, kvs, o, e, ev.fz h0 (by rw [h1]; exact fun z => nomatch z), ev.dk _ _ rfl h1 h0.2, h2.imp fun _ _ r => Ev.rep st ev r⟩
theorem StOk.step (st : StOk R H0 Z0 O ρ σ H) (ev : Ev R O H O' H') (i : Nat) {s : Sl} (hal : ∀ a, O' i a → H' a ≠ none) (hd : ∀ j a, j ≠ i → O' i a → ¬ O j a) (hO : ∀ j, j ≠ i → O' j = O j) (hk : ∀ j a xs, j ≠ i → O j a → H a = some (.lst xs) → H' a = some (.lst xs)) (hdk : ∀ j a o, dl o = true → j ≠ i → O j a → H a = some o → H' a = some o)
    (hl : σ'.length = σ.length) (hσ : ∀ j, j ≠ i → σ'[j]? = σ[j]?) (hs : i < σ.length → SlOk R (Fz Z0 H0 O') (O' i) H' σ'[i]? s) : StOk R H0 Z0 O' (ρ.set i s) σ' H' := by
  refine ⟨by rw [List.length_set, hl]; exact st.len, ev_x0 st ev, st.nr, st.h0R, ev.there R st.hR, fun j a h => ?_, fun j k a h1 h2 => ?_, fun j s' e => ?_⟩
  · refine ⟨?_, ?_⟩
    · rcases ev.own j a h with ⟨k, z⟩ | z
      · exact (st.o0 k a z).1
      · exact st.x0.none st.hR z
    · by_cases q : j = i
      · subst q; exact hal a h
      · rw [hO j q] at h; exact ev.there a (st.o0 j a h).2
  · by_cases q : j = i
    · by_cases q' : k = i
      · rw [q, q']
      · subst q
        rw [hO k q'] at h2
        exact absurd h2 (hd k a q' h1)
    · rw [hO j q] at h1
      by_cases q' : k = i
      · subst q'
        exact absurd h1 (hd j a q h2)
      · rw [hO k q'] at h2
        exact st.dj j k a h1 h2
  · by_cases q : i = j
    · subst q
      have hlt : i < ρ.length := by
        rcases Nat.lt_or_ge i ρ.length with z | z
        · exact z
        · rw [List.getElem?_eq_none (by rw [List.length_set]; exact z)] at e
          cases e
      rw [List.getElem?_set_self hlt] at e
      cases e
      exact hs (by rw [← st.len]; exact hlt)
    · rw [List.getElem?_set_ne q] at e
      rw [hσ j (Ne.symm q)]
      exact SlOk.move st ev (hO j (Ne.symm q)) (fun a o h y => hk j a o (Ne.symm q) h y) (fun a o m h y => hdk j a o m (Ne.symm q) h y) (st.sl j s' e)
/-- all names keep what they hold -/
theorem StOk.evo (st : StOk R H0 Z0 O ρ σ H) (ev : Ev R O H O H') (hk : ∀ j a xs, O j a → H a = some (.lst xs) → H' a = some (.lst xs)) (hdk : ∀ j a o, dl o = true → O j a → H a = some o → H' a = some o) : StOk R H0 Z0 O ρ σ H' :=
  ⟨st.len, ev_x0 st ev, st.nr, st.h0R, ev.there R st.hR, fun j a h => ⟨(st.o0 j a h).1, ev.there a (st.o0 j a h).2⟩, st.dj, fun j s e => SlOk.move st ev rfl (hk j) (hdk j) (st.sl j s e)⟩
theorem StOk.ext (st : StOk R H0 Z0 O ρ σ H) (x : Ext R H H1) (hR : H1 R ≠ none) : StOk R H0 Z0 O ρ σ H1 := st.evo (Ev.ext x hR) (fun j a o h e => x.keep a o (st.oR h) e) fun j a o m h e => x.dk a o m e
/-- an expression's sets, evaluated at Hk, in a statement begun at H -/
def TT (R : Addr) (Z0 : Addr → Prop) (H0 : Hp) (O : Nat → Addr → Prop) (H Hk : Hp) : Tag → Addr → Prop
  | .fr => fun a => Hk a = none
  | .fz => fun a => Fz Z0 H0 O a ∧ (H a ≠ none ∨ Hk a = none)
  | .bo => fun a => a ≠ R
theorem StOk.tok (st : StOk R H0 Z0 O ρ σ H) (x : Ext R H H1) (hR : H1 R ≠ none) : TOk R H1 (TT R Z0 H0 O H H1) := by
  refine ⟨fun a h => ⟨⟨.inr (st.x0.none st.hR (x.none hR h)), fun j z => (st.o0 j a z).2 (x.none hR h)⟩, .inr h⟩, fun a h z => st.fzR (z ▸ h.1), fun t => ?_, fun a h => h⟩
  cases t with
  | fr => exact fun z => hR z
  | fz => exact fun z => st.fzR z.1
  | bo => exact fun z => z rfl
theorem xget {i : Nat} {s : Sx} (h : ρ.x[i]? = some s) : ∃ l, ρ[i]? = some l ∧ l.x = s := by
  unfold SEnv.x at h
  rw [List.getElem?_map] at h
  exact Option.map_eq_some_iff.mp h
theorem yget {i : Nat} {s : Sx} (h : ρ.y[i]? = some s) : ∃ l, ρ[i]? = some l ∧ l.y = s := by
  unfold SEnv.y at h
  rw [List.getElem?_map] at h
  exact Option.map_eq_some_iff.mp h
theorem StOk.srx (st : StOk R H0 Z0 O ρ σ H) (x : Ext R H H1) : SRx R (TT R Z0 H0 O H H1) ρ.x σ H1 := by
  intro i s h
  obtain ⟨l, h1, rfl⟩ := xget h
  have z := st.sl i l h1
  cases l with
  | no => trivial
  | row => exact z
  | imm d =>
    obtain ⟨v, e, r⟩ := z
    exact ⟨v, e, (r.alloc.ext x fun y => st.fzR y.1).sub fun a y => ⟨y.1, .inl y.2⟩⟩
  | own d =>
    obtain ⟨v, e, r⟩ := z
    exact ⟨v, e, (r.ext x fun y => st.oR y rfl).sub fun a y => st.oR y⟩
  | jk ks => trivial
  | dcm es =>
    obtain ⟨a, kvs, e, h0, h1, h2⟩ := z
    exact ⟨a, kvs, e, x.rd (.inl h1), h2.imp fun _ _ r => (r.ext x fun y => st.oR y rfl).sub fun a y => st.oR y⟩
  | dcl es =>
    obtain ⟨a, kvs, o, e, h0, h1, h2⟩ := z
    exact ⟨a, kvs, e, x.rd (.inr ⟨o, h1⟩), h2.imp fun _ _ r => (r.ext x fun y => st.fzR y).sub fun a y => show a ≠ R from fun z => st.fzR (O' := O) (z ▸ y)⟩
/-- at a def's end -/
def TR (R : Addr) (Z0 : Addr → Prop) (H0 : Hp) : Tag → Addr → Prop
  | .fr => fun a => H0 a = none
  | .fz => Nw Z0 H0
  | .bo => fun a => a ≠ R
theorem StOk.tokR (st : StOk R H0 Z0 O ρ σ H) : TOk R H (TR R Z0 H0) := by
  refine ⟨fun a h => .inr h, fun a h z => ?_, fun t => ?_, fun a h => st.x0.none st.hR h⟩
  · subst z; exact h.elim st.nr st.h0R
  · cases t with
    | fr => exact fun z => st.h0R z
    | fz => exact fun z => z.elim st.nr st.h0R
    | bo => exact fun z => z rfl
theorem StOk.sryx (st : StOk R H0 Z0 O ρ σ H) : SRx R (TR R Z0 H0) ρ.y σ H := by
  intro i s h
  obtain ⟨l, h1, rfl⟩ := yget h
  have z := st.sl i l h1
  cases l with
  | no => trivial
  | row => exact z
  | imm d =>
    obtain ⟨v, e, r⟩ := z
    exact ⟨v, e, r.sub fun a y => y.1⟩
  | own d =>
    obtain ⟨v, e, r⟩ := z
    exact ⟨v, e, r.sub fun a y => (st.o0 i a y).1⟩
  | jk ks => trivial
  | dcm es => trivial
  | dcl es => trivial
/-- i's own is P now -/
def setO (O : Nat → Addr → Prop) (i : Nat) (P : Addr → Prop) : Nat → Addr → Prop := fun j => if j = i then P else O j
theorem setO_self {i : Nat} {P : Addr → Prop} : setO O i P i = P := by simp [setO]
theorem setO_ne {i j : Nat} {P : Addr → Prop} (h : j ≠ i) : setO O i P j = O j := by simp [setO, h]
theorem setO_own {i j : Nat} {P : Addr → Prop} {a : Addr} (h : setO O i P j a) : P a ∨ (j ≠ i ∧ O j a) := by
  by_cases e : j = i
  · subst e; rw [setO_self] at h; exact .inl h
  · rw [setO_ne e] at h; exact .inr ⟨e, h⟩
theorem Ev.setO (ev : Ev R O H O H1) {i : Nat} {P : Addr → Prop} (h : ∀ a, P a → O i a ∨ H a = none) : Ev R O H (setO O i P) H1 :=
  ⟨fun j a z => (setO_own z).elim (fun y => (h a y).elim (fun w => .inl ⟨i, w⟩) .inr) fun y => .inl ⟨j, y.2⟩, ev.keep, ev.dk, ev.tups, ev.there⟩
theorem lset_self {i : Nat} {x : Option V} (h : i < σ.length) : (σ.set i x)[i]? = some x := List.getElem?_set_self h
/-- a name is given a value that is new since H (its own now), or that nobody changes -/
theorem StOk.own1 (st : StOk R H0 Z0 O ρ σ H) (x : Ext R H H1) (hR : H1 R ≠ none) (i : Nat) {d : D} {v : V} (r : Rep (fun a => H a = none) H1 d v) :
    StOk R H0 Z0 (setO O i fun a => H a = none ∧ H1 a ≠ none) (ρ.set i (.own d)) (σ.set i (some v)) H1 ∧ Ev R O H (setO O i fun a => H a = none ∧ H1 a ≠ none) H1 := by
  have ev : Ev R O H (setO O i fun a => H a = none ∧ H1 a ≠ none) H1 := (Ev.ext x hR).setO fun a z => .inr z.1
  refine ⟨st.step ev i (fun a h => ?_) (fun j a n h z => ?_) (fun j n => setO_ne n) (fun j a o n h e => x.keep a o (st.oR h) e) (fun j a o m n h e => x.dk a o m e) (List.length_set) (fun j n => List.getElem?_set_ne (Ne.symm n)) (fun hi => ?_), ev⟩
  · rw [setO_self] at h; exact h.2
  · rw [setO_self] at h; exact (st.o0 j a z).2 h.1
  · rw [lset_self hi, setO_self]
    exact ⟨v, rfl, r.alloc⟩
theorem StOk.imm1 (st : StOk R H0 Z0 O ρ σ H) (x : Ext R H H1) (hR : H1 R ≠ none) (i : Nat) {d : D} {v : V} (r : Rep (Fz Z0 H0 (setO O i fun _ => False)) H1 d v) :
    StOk R H0 Z0 (setO O i fun _ => False) (ρ.set i (.imm d)) (σ.set i (some v)) H1 ∧ Ev R O H (setO O i fun _ => False) H1 := by
  have ev : Ev R O H (setO O i fun _ => False) H1 := (Ev.ext x hR).setO fun a z => z.elim
  refine ⟨st.step ev i (fun a h => ?_) (fun j a n h z => ?_) (fun j n => setO_ne n) (fun j a o n h e => x.keep a o (st.oR h) e) (fun j a o m n h e => x.dk a o m e) (List.length_set) (fun j n => List.getElem?_set_ne (Ne.symm n)) (fun hi => ?_), ev⟩
  · rw [setO_self] at h; exact h.elim
  · rw [setO_self] at h; exact h.elim
  · rw [lset_self hi]
    exact ⟨v, rfl, r⟩
/-- how a name's given value stands, by its tag -/
theorem StOk.put (st : StOk R H0 Z0 O ρ σ H) (x : Ext R H H1) (hR : H1 R ≠ none) {i : Nat} {d : D} {t : Tag} {v : V} {T : Tag → Addr → Prop} (hfr : ∀ a, T .fr a → H a = none) (hfz : ∀ a, T .fz a → Fz Z0 H0 O a) (r : Rep (T t) H1 d v) (e : put ρ i d t = some ρ') :
    ∃ P, (∀ a, P a → H a = none ∧ H1 a ≠ none) ∧ StOk R H0 Z0 (setO O i P) ρ' (σ.set i (some v)) H1 ∧ Ev R O H (setO O i P) H1 := by
  have isown : Rep (fun a => H a = none) H1 d v → ρ' = ρ.set i (.own d) → ∃ P, (∀ a, P a → H a = none ∧ H1 a ≠ none) ∧ StOk R H0 Z0 (setO O i P) ρ' (σ.set i (some v)) H1 ∧ Ev R O H (setO O i P) H1 := fun r e => by
    subst e
    obtain ⟨h1, h2⟩ := st.own1 x hR i r
    exact ⟨_, fun a z => z, h1, h2⟩
  have isimm : Rep (Fz Z0 H0 (setO O i fun _ => False)) H1 d v → ρ' = ρ.set i (.imm d) → ∃ P, (∀ a, P a → H a = none ∧ H1 a ≠ none) ∧ StOk R H0 Z0 (setO O i P) ρ' (σ.set i (some v)) H1 ∧ Ev R O H (setO O i P) H1 := fun r e => by
    subst e
    obtain ⟨h1, h2⟩ := st.imm1 x hR i r
    exact ⟨_, fun a z => z.elim, h1, h2⟩
  have sub : ∀ a, T .fz a → Fz Z0 H0 (setO O i fun _ => False) a := fun a z => ⟨(hfz a z).1, fun j y => (setO_own y).elim id fun w => (hfz a z).2 j w.2⟩
  unfold Mi.put kind at e
  cases d with
  | list ds =>
    cases t with
    | fr => cases e; exact isown (r.sub hfr) rfl
    | fz => cases e; exact isimm (r.sub sub) rfl
    | bo => cases e
  | tuple ds =>
    cases t with
    | fr =>
      dsimp only [kindT] at e
      split at e
      · rename_i hl
        cases e; exact isimm (Rep.lf _ _ hl r) rfl
      · cases e; exact isown (r.sub hfr) rfl
    | fz => cases e; exact isimm (r.sub sub) rfl
    | bo =>
      dsimp only [kindT] at e
      split at e
      · rename_i hl
        cases e; exact isimm (Rep.lf _ _ hl r) rfl
      · cases e
  | none => cases e; exact isimm (Rep.leaf rfl r) rfl
  | bool _ => cases e; exact isimm (Rep.leaf rfl r) rfl
  | int _ => cases e; exact isimm (Rep.leaf rfl r) rfl
  | str _ => cases e; exact isimm (Rep.leaf rfl r) rfl
  | dict _ => exact r.dict_inv.elim
/-- what is frozen is nobody's own any more -/
theorem StOk.frz1 (st : StOk R H0 Z0 O ρ σ H) (i : Nat) : ∃ O', StOk R H0 Z0 O' (frz1 ρ i) σ H ∧ Ev R O H O' H := by
  unfold Mi.frz1
  split
  · rename_i d hd
    have ev : Ev R O H (setO O i fun _ => False) H := Ev.refl.setO fun a z => z.elim
    refine ⟨_, st.step ev i (fun a h => ?_) (fun j a n h z => ?_) (fun j n => setO_ne n) (fun j a o n h e => e) (fun j a o m n h e => e) rfl (fun j n => rfl) (fun hi => ?_), ev⟩
    · rw [setO_self] at h; exact h.elim
    · rw [setO_self] at h; exact h.elim
    · obtain ⟨v, e, r⟩ := st.sl i _ hd
      exact ⟨v, e, r.sub fun a z => ⟨.inr (st.o0 i a z).1, fun j y => (setO_own y).elim id fun w => w.1 (st.dj j i a w.2 z)⟩⟩
  · exact ⟨O, st, Ev.refl⟩
theorem StOk.frz : ∀ (l : List Nat) {O : Nat → Addr → Prop} {ρ : SEnv}, StOk R H0 Z0 O ρ σ H → ∃ O', StOk R H0 Z0 O' (frz ρ l) σ H ∧ Ev R O H O' H
  | [], O, ρ, st => ⟨O, st, Ev.refl⟩
  | i :: l, O, ρ, st => by
    obtain ⟨O1, s1, e1⟩ := st.frz1 i
    obtain ⟨O2, s2, e2⟩ := StOk.frz l s1
    exact ⟨O2, s2, e1.trans e2⟩
end
end Mi
end
section
set_option maxRecDepth 100000
set_option maxHeartbeats 1000000
/-! The rules for statements. -/
namespace Mi
open PySem PySem.Spec PyProof.Rows L2
abbrev DenS := SEnv → G → Option Out
def EndsOk (K : PySem.W.Frag) (W : WX) (R sc : Addr) (H0 : Hp) (Z0 : Addr → Prop) (O : Nat → Addr → Prop) (H : Hp) (D : Ends) : Out → Prop
  | .nx ρ' g' => ∀ σ' H' O', StOk R H0 Z0 O' ρ' σ' H' → Ev R O H O' H' → GR K R sc H' g' → D.nx σ' H'
  | .rt d t g' => ∀ v H', Ext R H0 H' → GR K R sc H' g' → Rep (RS t Z0 H0) H' d v → D.rt v H'
  | .ex c ρ' g' => ∃ C, clsOf K c = some C ∧ ∀ σ' H' O', StOk R H0 Z0 O' ρ' σ' H' → Ev R O H O' H' → GR K R sc H' g' → W (.ref C) none σ' H'
def TSx (K : PySem.W.Frag) (W : WX) (F : DenS) : TS := fun D σ H => ∃ R sc H0 Z0 O ρ g out, StOk R H0 Z0 O ρ σ H ∧ GR K R sc H g ∧ F ρ g = some out ∧ EndsOk K W R sc H0 Z0 O H D out
theorem _root_.L2.PS.weak {X : Cx} {e : Stmt} {t t' : TS} (h : PS X e t) (w : ∀ D σ H, t' D σ H → t D σ H) : PS X e t' := ⟨fun pins s σ H D I q => h.run pins s σ H D I (w _ _ _ q)⟩
theorem _root_.L2.PSs.weak {X : Cx} {e : List Stmt} {t t' : TS} (h : PSs X e t) (w : ∀ D σ H, t' D σ H → t D σ H) : PSs X e t' := ⟨fun pins s σ H D I q => h.run pins s σ H D I (w _ _ _ q)⟩
section
variable {K : PySem.W.Frag} {W : WX} {R sc : Addr} {H0 H H1 : Hp} {Z0 : Addr → Prop} {O O1 : Nat → Addr → Prop} {D D' : Ends} {out : Out}
theorem EndsOk.after (ev : Ev R O H O1 H1) (q : EndsOk K W R sc H0 Z0 O H D out) : EndsOk K W R sc H0 Z0 O1 H1 D out := by
  cases out with
  | nx ρ' g' => exact fun σ' H' O' a b c => q σ' H' O' a (ev.trans b) c
  | rt d t g' => exact q
  | ex c ρ' g' =>
    obtain ⟨C, e, q⟩ := q
    exact ⟨C, e, fun σ' H' O' a b c => q σ' H' O' a (ev.trans b) c⟩
end
section
variable {X : Cx} {W : WX} {F F' : Den} {e : Expr} {pos : Pos} {st : Stmt} {rest : List Stmt}
/-- an expression of a statement -/
theorem ev_x {F : Den} {R sc : Addr} {H0 H H1 : Hp} {Z0 : Addr → Prop} {O : Nat → Addr → Prop} {ρ : SEnv} {σ : L2.St} {g g' : G} {d : D} {t : Tag} {Q : VK} (st : StOk R H0 Z0 O ρ σ H) (x : Ext R H H1) (gr : GR X.K R sc H1 g) (e : F ρ.x g = some (d, t, g'))
    (q : ∀ v H2, Ext R H1 H2 → GR X.K R sc H2 g' → Rep (TT R Z0 H0 O H H1 t) H2 d v → Q v H2) : (TEx X.K F) σ H1 Q :=
  ⟨R, sc, _, ρ.x, g, d, t, g', st.tok x gr.ne, st.srx x, gr, e, q⟩
theorem ev_e0 {F : Den} {R sc : Addr} {H0 H : Hp} {Z0 : Addr → Prop} {O : Nat → Addr → Prop} {ρ : SEnv} {σ : L2.St} {g g' : G} {d : D} {t : Tag} {Q : VK} (st : StOk R H0 Z0 O ρ σ H) (gr : GR X.K R sc H g) (e : F ρ.x g = some (d, t, g'))
    (q : ∀ v H2, Ext R H H2 → GR X.K R sc H2 g' → Rep (TT R Z0 H0 O H H t) H2 d v → Q v H2) : (TEx X.K F) σ H Q := ev_x st (Ext.refl _ _) gr e q
/-! ### blocks -/
def nilF : DenS := fun ρ g => some (.nx ρ g)
def seqF (F F' : DenS) : DenS := fun ρ g => match F ρ g with
    | none => none
    | some (.nx ρ' g1) => F' ρ' g1
    | some (.rt d t g1) => some (.rt d t g1)
    | some (.ex c ρ1 g1) => some (.ex c ρ1 g1)
theorem ms_nil : PSs X [] (TSx X.K W nilF) := pss_nil.weak fun D σ H ⟨R, sc, H0, Z0, O, ρ, g, out, st, gr, e, q⟩ => by
  cases e
  exact q σ H O st Ev.refl gr
theorem ms_cons {F F' : DenS} (h : PS X st (TSx X.K W F)) (h' : PSs X rest (TSx X.K W F')) : PSs X (st :: rest) (TSx X.K W (seqF F F')) := (pss_cons h h').weak fun D σ H ⟨R, sc, H0, Z0, O, ρ, g, out, st, gr, e, q⟩ => by
  unfold seqF at e
  split at e
  · cases e
  · rename_i ρ' g1 e1
    exact ⟨R, sc, H0, Z0, O, ρ, g, _, st, gr, e1, fun σ' H' O' a b c => ⟨R, sc, H0, Z0, O', ρ', g1, out, a, c, e, q.after b⟩⟩
  · rename_i d t g1 e1
    cases e
    exact ⟨R, sc, H0, Z0, O, ρ, g, _, st, gr, e1, q⟩
  · rename_i c ρ1 g1 e1
    cases e
    exact ⟨R, sc, H0, Z0, O, ρ, g, _, st, gr, e1, q⟩
theorem ms_pass : PS X (.Pass pos) (TSx X.K W nilF) := ps_pass.weak fun D σ H ⟨R, sc, H0, Z0, O, ρ, g, out, st, gr, e, q⟩ => by
  cases e
  exact q σ H O st Ev.refl gr
theorem ms_never : PS X st (TSx X.K W fun _ _ => none) := ps_never.weak fun D σ H ⟨R, sc, H0, Z0, O, ρ, g, out, st, gr, e, q⟩ => by cases e
def retF (F : Den) : DenS := fun ρ g => match F ρ.y g with
    | none => none
    | some (d, t, g1) => match nrm d t with
      | .bo => none
      | u => some (.rt d u g1)
theorem ms_ret (h : PE X e (TEx X.K F)) : PS X (.Return (some e) pos) (TSx X.K W (retF F)) := (ps_ret h).weak fun D σ H ⟨R, sc, H0, Z0, O, ρ, g, out, st, gr, e, q⟩ => by
  unfold retF at e
  split at e
  · cases e
  · rename_i d t g1 e1
    refine ⟨R, sc, _, ρ.y, g, d, t, g1, st.tokR, st.sryx, gr, e1, fun v H' x gr' r => ?_⟩
    have r' := rep_nrm r
    split at e
    · cases e
    · rename_i u hu
      cases e
      refine q v H' (st.x0.trans x) gr' ?_
      cases hn : nrm d t with
      | fr => rw [hn] at r'; exact r'
      | fz => rw [hn] at r'; exact r'
      | bo => exact absurd hn hu
def ifF (c : SEnv → G → Option (Bool × G)) (F F' : DenS) : DenS := fun ρ g => match c ρ g with
    | none => none
    | some (true, g1) => F ρ g1
    | some (false, g1) => F' ρ g1
def bF (F : Den) : SEnv → G → Option (Bool × G) := fun ρ g => match F ρ.x g with
    | some (.bool b, _, g1) => some (b, g1)
    | _ => none
theorem bF_inv {ρ g b g1} (e : bF F ρ g = some (b, g1)) : ∃ t, F ρ.x g = some (.bool b, t, g1) := by
  unfold bF at e
  split at e
  · rename_i b' t g' e1
    cases e
    exact ⟨t, e1⟩
  · cases e
theorem ev_t {R sc : Addr} {H0 H : Hp} {Z0 : Addr → Prop} {O : Nat → Addr → Prop} {ρ : SEnv} {σ : L2.St} {g g' : G} {b : Bool} {Q : Bool → Hp → Prop} (st : StOk R H0 Z0 O ρ σ H) (gr : GR X.K R sc H g) (e : bF F ρ g = some (b, g'))
    (q : ∀ H2, Ext R H H2 → GR X.K R sc H2 g' → Q b H2) : (TTx X.K F) σ H Q := by
  obtain ⟨t, e1⟩ := bF_inv e
  exact ⟨R, sc, _, ρ.x, g, b, t, g', st.tok (Ext.refl _ _) gr.ne, st.srx (Ext.refl _ _), gr, e1, q⟩
theorem ms_if {A B : List Stmt} {FA FB : DenS} (h : PT X e (TTx X.K F)) (ha : PSs X A (TSx X.K W FA)) (hb : PSs X B (TSx X.K W FB)) : PS X (.If e A B pos) (TSx X.K W (ifF (bF F) FA FB)) := (ps_if h ha hb).weak fun D σ H ⟨R, sc, H0, Z0, O, ρ, g, out, st, gr, e, q⟩ => by
  unfold ifF at e
  split at e
  · cases e
  · rename_i g1 e1
    exact ev_t st gr e1 fun H2 x gr2 => by
      rw [if_pos rfl]
      exact ⟨R, sc, H0, Z0, O, ρ, g1, out, st.ext x gr2.ne, gr2, e, q.after (Ev.ext x gr2.ne)⟩
  · rename_i g1 e1
    exact ev_t st gr e1 fun H2 x gr2 => by
      rw [if_neg (by decide)]
      exact ⟨R, sc, H0, Z0, O, ρ, g1, out, st.ext x gr2.ne, gr2, e, q.after (Ev.ext x gr2.ne)⟩
/-! ### while -/
theorem ms_while {n : Nat} {B : List Stmt} {FB : DenS} (hp : PassesOwn (model X.prog X.w) X.A X.env X.xe) (h : PT X e (TTx X.K F)) (hb : PSs X B (TSx X.K W FB)) : PS X (.While e B [] pos) (TSx X.K W (whileN (bF F) FB n)) := (ps_while hp h hb).weak fun D σ H ⟨R, sc, H0, Z0, O, ρ, g, out, st, gr, e, q⟩ => by
  refine ⟨fun m σ1 H1 => ∃ O1 ρ1 g1, StOk R H0 Z0 O1 ρ1 σ1 H1 ∧ Ev R O H O1 H1 ∧ GR X.K R sc H1 g1 ∧ whileN (bF F) FB m ρ1 g1 = some out, ⟨n, O, ρ, g, st, Ev.refl, gr, e⟩, ?_⟩
  rintro m σ1 H1 ⟨O1, ρ1, g1, st1, ev1, gr1, e1⟩
  cases m with
  | zero => cases e1
  | succ m =>
    unfold whileN at e1
    split at e1
    · cases e1
    · rename_i g2 e2
      cases e1
      exact ev_t st1 gr1 e2 fun H2 x gr2 => by
        rw [if_neg (by decide)]
        exact q σ1 H2 O1 (st1.ext x gr2.ne) (ev1.trans (Ev.ext x gr2.ne)) gr2
    · rename_i g2 e2
      exact ev_t st1 gr1 e2 fun H2 x gr2 => by
        rw [if_pos rfl]
        have st2 := st1.ext x gr2.ne
        have ev2 := ev1.trans (Ev.ext (O := O1) x gr2.ne)
        refine ⟨fun σ' H' => ∃ O' ρ' g', StOk R H0 Z0 O' ρ' σ' H' ∧ Ev R O H O' H' ∧ GR X.K R sc H' g' ∧ whileN (bF F) FB m ρ' g' = some out, fun σ' H' z => ⟨m, Nat.lt_succ_self m, z⟩, ?_⟩
        split at e1
        · cases e1
        · rename_i ρ' g3 e3
          exact ⟨R, sc, H0, Z0, O1, ρ1, g2, _, st2, gr2, e3, fun σ' H' O' a b c => ⟨O', ρ', g3, a, ev2.trans b, c, e1⟩⟩
        · rename_i d t g3 e3
          cases e1
          exact ⟨R, sc, H0, Z0, O1, ρ1, g2, _, st2, gr2, e3, q⟩
        · rename_i c ρ3 g3 e3
          cases e1
          obtain ⟨C, hC, q⟩ := q
          exact ⟨R, sc, H0, Z0, O1, ρ1, g2, _, st2, gr2, e3, C, hC, fun σ' H' O' a b c => q σ' H' O' a (ev2.trans b) c⟩
/-! ### targets -/
section
variable {R : Addr} {H0 H : Hp} {Z0 : Addr → Prop}
def TF (R : Addr) (Z0 : Addr → Prop) (H0 : Hp) (O : Nat → Addr → Prop) : Tag → Addr → Prop
  | .fr => fun _ => False
  | .fz => Fz Z0 H0 O
  | .bo => fun a => a ≠ R
theorem fz_setO {O : Nat → Addr → Prop} {i : Nat} {P : Addr → Prop} (h : ∀ a, P a → H a = none ∧ H a ≠ none) {a : Addr} (z : Fz Z0 H0 O a) : Fz Z0 H0 (setO O i P) a := ⟨z.1, fun j y => (setO_own y).elim (fun w => (h a w).2 (h a w).1) fun w => z.2 j w.2⟩
theorem TF.sub {O : Nat → Addr → Prop} {i : Nat} {P : Addr → Prop} (h : ∀ a, P a → H a = none ∧ H a ≠ none) (t : Tag) (a : Addr) (z : TF R Z0 H0 O t a) : TF R Z0 H0 (setO O i P) t a := by
  cases t with
  | fr => exact z
  | fz => exact fz_setO h z
  | bo => exact z
theorem puts_ok {t : Tag} : ∀ {l : List Nat} {ds : List D} {vs : List V} {O : Nat → Addr → Prop} {ρ ρ' : SEnv} {σ : L2.St} {Q : L2.St → Hp → Prop}, StOk R H0 Z0 O ρ σ H → RepA (TF R Z0 H0 O t) H ds vs → puts l ds t ρ = some ρ' →
    (∀ σ' O', StOk R H0 Z0 O' ρ' σ' H → Ev R O H O' H → Q σ' H) → gNames l vs σ H Q
  | [], [], vs, O, ρ, ρ', σ, Q, st, r, e, q => by
    cases e
    exact ⟨r.nil_inv, q σ O st Ev.refl⟩
  | [], d :: ds, vs, O, ρ, ρ', σ, Q, st, r, e, q => by cases e
  | i :: is, [], vs, O, ρ, ρ', σ, Q, st, r, e, q => by cases e
  | i :: is, d :: ds, vs, O, ρ, ρ', σ, Q, st, r, e, q => by
    unfold puts at e
    split at e
    · cases e
    · rename_i ρ1 e1
      obtain ⟨v, rs, ev, r1, r2⟩ := r.inv
      obtain ⟨P, hP, st1, ev1⟩ := st.put (Ext.refl R H) st.hR (T := TF R Z0 H0 O) (fun a z => z.elim) (fun a z => z) r1 e1
      exact ⟨v, rs, ev, puts_ok st1 (r2.sub fun a z => TF.sub hP t a z) e fun σ' O' a b => q σ' O' a (ev1.trans b)⟩
theorem puts_len {t : Tag} : ∀ {l : List Nat} {ds : List D} {ρ ρ' : SEnv}, puts l ds t ρ = some ρ' → l.length = ds.length
  | [], [], _, _, _ => rfl
  | [], _ :: _, _, _, e => by cases e
  | _ :: _, [], _, _, e => by cases e
  | i :: is, d :: ds, ρ, ρ', e => by
    unfold puts at e
    split at e
    · cases e
    · rw [List.length_cons, List.length_cons, puts_len e]
theorem putT_ok {K : PySem.W.Frag} {t : Tag} {tg : Tg} {d : D} {v : V} {O : Nat → Addr → Prop} {ρ ρ' : SEnv} {σ : L2.St} {Q : L2.St → Hp → Prop} (st : StOk R H0 Z0 O ρ σ H) (r : Rep (TF R Z0 H0 O t) H d v) (e : putT tg d t ρ = some ρ')
    (q : ∀ σ' O', StOk R H0 Z0 O' ρ' σ' H → Ev R O H O' H → Q σ' H) : gT K tg v σ H Q := by
  unfold putT at e
  cases tg with
  | one i =>
    obtain ⟨P, hP, st1, ev1⟩ := st.put (Ext.refl R H) st.hR (T := TF R Z0 H0 O) (fun a z => z.elim) (fun a z => z) r e
    exact q _ _ st1 ev1
  | many l =>
    dsimp only at e
    split at e
    · rename_i ds
      obtain ⟨a, vs, ea, h1, h2⟩ := r.tuple_inv
      exact ⟨a, vs, ea, SqT.of h1, by rw [h2.length]; exact (puts_len e).symm, puts_ok st h2 e q⟩
    · cases e
theorem TT.toF {O : Nat → Addr → Prop} {H1 : Hp} {ρ : SEnv} {σ : L2.St} (st : StOk R H0 Z0 O ρ σ H) (x : Ext R H H1) (hR : H1 R ≠ none) {t : Tag} {a : Addr} (z : TT R Z0 H0 O H H t a) : TF R Z0 H0 O (fzT t) a := by
  cases t with
  | fr => exact ((st.tok (Ext.refl _ _) st.hR).up1 a z).1
  | fz => exact z.1
  | bo => exact z
end
/-! ### assignments -/
def asgF (i : Nat) (fz : List Nat) (F : Den) : DenS := fun ρ g => match F (frz ρ fz).x g with
    | none => none
    | some (d, t, g1) => match put (frz ρ fz) i d t with
      | none => none
      | some ρ' => some (.nx ρ' g1)
theorem asg_gen {i : Nat} {fz : List Nat} : ∀ D σ H, TSx X.K W (asgF i fz F) D σ H → tAsg (TEx X.K F) (gName i) D σ H := fun D σ H ⟨R, sc, H0, Z0, O, ρ, g, out, st, gr, e, q⟩ => by
  obtain ⟨O1, st1, ev1⟩ := StOk.frz fz st
  unfold asgF at e
  split at e
  · cases e
  · rename_i d t g1 e1
    split at e
    · cases e
    · rename_i ρ' e2
      cases e
      refine ev_e0 st1 gr e1 fun v H2 x gr2 r => ?_
      obtain ⟨P, hP, st2, ev2⟩ := st1.put x gr2.ne (T := TT R Z0 H0 O1 H H) (fun a z => z) (fun a z => z.1) r e2
      exact q _ _ _ st2 (ev1.trans ev2) gr2
def tupSF (is fz : List Nat) (F : Den) : DenS := fun ρ g => match F (frz ρ fz).x g with
    | none => none
    | some (d, t, g1) => match putT (.many is) d (fzT t) (frz ρ fz) with
      | none => none
      | some ρ' => some (.nx ρ' g1)
theorem ms_tup {is fz : List Nat} {tg : Expr} (h : PE X e (TEx X.K F)) (hg : PG X tg (gT X.K (.many is))) (hs : swapsWithSole [tg] e pos.line X.env = pure false) (hw : swappedStores [tg] e X.env = pure none)
    (h1 : (assignEach [tg] X.env).map (·.2) = [assign tg X.env]) : PS X (.Assign [tg] e pos) (TSx X.K W (tupSF is fz F)) := (ps_asg h hg hs hw h1).weak fun D σ H ⟨R, sc, H0, Z0, O, ρ, g, out, st, gr, e, q⟩ => by
  obtain ⟨O1, st1, ev1⟩ := StOk.frz fz st
  unfold tupSF at e
  split at e
  · cases e
  · rename_i d t g1 e1
    split at e
    · cases e
    · rename_i ρ' e2
      cases e
      refine ev_e0 st1 gr e1 fun v H2 x gr2 r => ?_
      have st2 := st1.ext x gr2.ne
      have ev2 := ev1.trans (Ev.ext (O := O1) x gr2.ne)
      exact putT_ok st2 (r.sub fun a z => TT.toF st1 x gr2.ne z) e2 fun σ' O' a b => q _ _ _ a (ev2.trans b) gr2
/-! ### for -/
def forF (tg : Tg) (fz : List Nat) (F : Dens) (FB : DenS) : DenS := fun ρ g => match F (frz ρ fz).x g with
    | none => none
    | some (xs, t, g1) => match t with
      | .bo => none
      | _ => forL tg .fz FB xs (frz ρ fz) g1
theorem drop_of {α : Type} {l : List α} {i : Nat} {x : α} {r : List α} (h : l.drop i = x :: r) : l[i]? = some x ∧ l.drop (i + 1) = r := by
  refine ⟨?_, ?_⟩
  · have := congrArg (fun z => z[0]?) h
    simpa using this
  · have := congrArg List.tail h
    simpa using this
theorem ms_for {tgx iter : Expr} {tg : Tg} {fz : List Nat} {B : List Stmt} {FI : Dens} {FB : DenS} (hp : PassesOwn (model X.prog X.w) X.A X.env X.xe) (hc : X.calm = true) (hi : PI X tgx iter (TIx X.K FI)) (hg : PG X tgx (gT X.K tg)) (hb : PSs X B (TSx X.K W FB))
    (hs : ∀ x, foldedSetIterable iter X.env x = pure x) : PS X (.For tgx iter B [] pos) (TSx X.K W (forF tg fz FI FB)) := (ps_for hp hc hi hg hb hs).weak fun D σ H ⟨R, sc, H0, Z0, O0, ρ0, g, out, st0, gr, e, q0⟩ => by
  obtain ⟨O, st, ev0⟩ := StOk.frz fz st0
  have q := q0.after ev0
  unfold forF at e
  split at e
  · cases e
  · rename_i xs t g1 e1
    have ht : t ≠ .bo := fun z => by subst z; cases e
    have e' : forL tg .fz FB xs (Mi.frz ρ0 fz) g1 = some out := by
      cases t with
      | fr => exact e
      | fz => exact e
      | bo => exact absurd rfl ht
    refine ⟨R, sc, _, _, g, xs, t, g1, st.tok (Ext.refl _ _) gr.ne, st.srx (Ext.refl _ _), gr, e1, fun J H1 x gr1 it => ?_⟩
    have st1 := st.ext x gr1.ne
    have q1 := q.after (Ev.ext (O := O) x gr1.ne)
    -- what is walked: nobody's own, nobody changes it
    have hS : ∀ a, (TT R Z0 H0 O H H t a ∧ H1 a ≠ none) → Fz Z0 H0 O a := fun a z => by
      cases t with
      | fr => exact ((st.tok (Ext.refl _ _) st.hR).up1 a z.1).1
      | fz => exact z.1.1
      | bo => exact absurd rfl ht
    have hS' : ∀ a, (TT R Z0 H0 O H H t a ∧ H1 a ≠ none) → a ≠ R ∧ ∀ j, ¬ O j a := fun a z => ⟨fun y => st.fzR (O' := O) (y ▸ hS a z), (hS a z).2⟩
    refine ⟨fun i m σ2 H2 => ∃ O2 ρ2 g2, m + i = xs.length ∧ StOk R H0 Z0 O2 ρ2 σ2 H2 ∧ Ev R O H1 O2 H2 ∧ GR X.K R sc H2 g2 ∧ forL tg .fz FB (xs.drop i) ρ2 g2 = some out, ⟨xs.length, O, Mi.frz ρ0 fz, g1, rfl, st1, Ev.refl, gr1, by rw [List.drop_zero]; exact e'⟩, ?_⟩
    rintro i m σ2 H2 ⟨O2, ρ2, g2, hm, st2, ev2, gr2, e2⟩
    have kp : Kp (fun a => TT R Z0 H0 O H H t a ∧ H1 a ≠ none) H1 H2 := ev2.kp hS'
    cases hd : xs.drop i with
    | nil =>
      rw [hd] at e2
      cases e2
      have hi : i = xs.length := by
        have := congrArg List.length hd
        rw [List.length_drop] at this
        simp at this
        omega
      subst hi
      exact .inl ⟨it.stop H2 kp, q1 σ2 H2 O2 st2 ev2 gr2⟩
    | cons d r =>
      rw [hd] at e2
      obtain ⟨hx, hr⟩ := drop_of hd
      obtain ⟨t1, t2⟩ := it.turn H2 kp i d hx
      refine .inr ⟨t1, fun σ' H' => ∃ O' ρ' g', (m - 1) + (i + 1) = xs.length ∧ StOk R H0 Z0 O' ρ' σ' H' ∧ Ev R O H1 O' H' ∧ GR X.K R sc H' g' ∧ forL tg .fz FB (xs.drop (i + 1)) ρ' g' = some out, fun σ' H' z => ⟨m - 1, ?_, z⟩, fun v H3 y => ?_⟩
      · have : i < xs.length := by
          have := congrArg List.length hd
          rw [List.length_drop, List.length_cons] at this
          omega
        omega
      · obtain ⟨rfl, rv⟩ := t2 v H3 y
        have hlt : i < xs.length := by
          have := congrArg List.length hd
          rw [List.length_drop, List.length_cons] at this
          omega
        unfold forL at e2
        split at e2
        · cases e2
        · rename_i ρ3 e3
          refine putT_ok st2 (rv.sub fun a z => ?_) e3 fun σ4 O4 st4 ev4 => ?_
          · exact ⟨(hS a z).1, fun j w => (ev2.own j a w).elim (fun ⟨k, y⟩ => (hS a z).2 k y) z.2⟩
          · split at e2
            · cases e2
            · rename_i ρ5 g5 e5
              exact ⟨R, sc, H0, Z0, O4, ρ3, g2, _, st4, gr2, e5, fun σ' H' O' a b c => ⟨O', ρ5, g5, by omega, a, (ev2.trans ev4).trans b, c, by rw [hr]; exact e2⟩⟩
            · rename_i d5 u5 g5 e5
              cases e2
              exact ⟨R, sc, H0, Z0, O4, ρ3, g2, _, st4, gr2, e5, q⟩
            · rename_i c5 ρ5 g5 e5
              cases e2
              obtain ⟨C, hC, q1⟩ := q1
              exact ⟨R, sc, H0, Z0, O4, ρ3, g2, _, st4, gr2, e5, C, hC, fun σ' H' O' a b c => q1 σ' H' O' a ((ev2.trans ev4).trans b) c⟩
end
section
variable {X : Cx} {W : WX} {pos : Pos}
def raiF (c : Str) : DenS := fun ρ g => some (.ex c ρ g)
theorem ms_raise {c : Str} {e : Expr} {C : Addr} (hc : X.calm = true) (tk : Takes X W) (he : PMk X e (fun _ H Q => Q (.ref C) none H)) (hC : clsOf X.K c = some C) : PS X (.Raise (some e) none pos) (TSx X.K W (raiF c)) := (ps_raise hc tk he).weak fun D σ H ⟨R, sc, H0, Z0, O, ρ, g, out, st, gr, e, q⟩ => by
  cases e
  obtain ⟨C', e', q⟩ := q
  rw [hC] at e'
  cases e'
  exact q σ H O st Ev.refl gr
def retXF (call : Call) (f : Str) (A : Dens) : DenS := fun ρ g => match A ρ.x g with
    | none => none
    | some (ds, _, g1) => match call f false ds g1 with
      | some (d, u, g2) => (match u with
        | .fr => some (.rt d .fr g2)
        | _ => none)
      | none => match call (xn f) false ds g1 with
        | some (.str c, _, g2) => some (.ex c ρ g2)
        | _ => none
theorem ms_retX {call : Call} {k : Nat} {f : Str} {a : Expr} {es : List Expr} {A : Dens} {p pos2 : Pos} (tk : Takes X W) (hF : FnF X call k f false) (hr : Room k X.A) (hg : Gl X f) (ha : PA X (a :: es) (TAx X.K A)) (hdb : (f == ("__debug__" : Str)) = false)
    (he : starEach (a :: es) X.env = (false, eval a X.env) :: starEach es X.env) (hpl : (backTo pos2 (starEach es X.env)).any (·.1) = false) : PS X (.Return (some (.Call (.Name f p) (a :: es) [] pos2)) pos) (TSx X.K W (retXF call f A)) := by
  obtain ⟨ad, fd, ps, hm, hk, hb, F⟩ := hF
  refine (ps_ret (pe_callS (E := WE W) F hr hg hm hk hb (fun σ => passAt tk σ) ha hdb he hpl)).weak fun D σ H ⟨R, sc, H0, Z0, O, ρ, g, out, st, gr, e, q⟩ => ?_
  unfold retXF at e
  split at e
  · cases e
  · rename_i ds t g1 e1
    refine ⟨R, sc, _, ρ.x, g, ds, t, g1, st.tok (Ext.refl _ _) gr.ne, st.srx (Ext.refl _ _), gr, e1, fun vs H1 x1 gr1 r1 => ?_⟩
    have st1 := st.ext x1 gr1.ne
    have nT : ¬ TT R Z0 H0 O H H t R := (st.tok (Ext.refl _ _) gr.ne).nr t
    split at e
    · rename_i d u g2 e2
      split at e
      · cases e
        refine .inl ⟨R, sc, _, ds, g1, d, .fr, g2, nT, gr1, r1, e2, fun v H' x gr' r => q v H' (st1.x0.trans x) gr' (r.sub fun a z => ?_)⟩
        exact st1.x0.none gr1.ne z
      · cases e
    · split at e
      · rename_i c u g2 e2
        cases e
        obtain ⟨C, hC, q⟩ := q
        refine .inr ⟨R, sc, _, ds, g1, c, u, g2, C, nT, gr1, r1, e2, hC, fun H' x gr' => ?_⟩
        exact q σ H' O (st1.ext x gr'.ne) ((Ev.ext x1 gr1.ne).trans (Ev.ext x gr'.ne)) gr'
      · cases e
def tryF (F : DenS) (c : Str) (d : D) : DenS := fun ρ g => match F ρ g with
    | none => none
    | some (.nx ρ' g1) => some (.nx ρ' g1)
    | some (.rt e t g1) => some (.rt e t g1)
    | some (.ex c' _ g1) => if c' = c ∧ leaf d = true then some (.rt d .fr g1) else none
theorem ms_try {F : DenS} {c : Str} {C : Addr} {d : D} {v : V} {body : List Stmt} {np pos2 pos3 : Pos} {e : Expr} (hs : X.stack = X.env :: X.outer) (hf : X.env.frame = some X.env.locals) (hcn : Names X c (.ref C)) (hC : clsOf X.K c = some C) (hm : PySem.W.exmOne X.K (.ref C) (.ref C) = some true)
    (hb : ∀ (W : WX) (pn : List (Addr × Obj)) (xe : Value → Shared → Prop), Takes (X.tr pn xe) W → PassesOwn (model X.prog X.w) X.A X.env xe → PSs (X.tr pn xe) body (TSx X.K W F)) (tk : Takes X W)
    (he : ∀ (a : Addr) (pn : List (Addr × Obj)), PE (X.suite a pn) e (tC v)) (hv : ∀ S H, Rep S H d v) : PS X (.Try body [.ExceptHandler (some (.Name c np)) none [.Return (some e) pos3] pos2] [] [] pos) (TSx X.K W (tryF F c d)) := by
  refine (ps_try_only (tb := fun W => TSx X.K W F) (ts := fun _ _ _ => fun D _ H => D.rt v H) hs hf hcn tk hb (fun a oe cls d' pn hz hd => ?_)).weak fun D σ H ⟨R, sc, H0, Z0, O, ρ, g, out, st, gr, e, q⟩ => ?_
  · exact (pss_cons (ps_ret (he a ((a, oe) :: pn))) pss_nil).weak fun D σ H q => q
  · unfold tryF at e
    split at e
    · cases e
    · rename_i ρ' g1 e1
      cases e
      exact ⟨R, sc, H0, Z0, O, ρ, g, _, st, gr, e1, q⟩
    · rename_i d' t g1 e1
      cases e
      exact ⟨R, sc, H0, Z0, O, ρ, g, _, st, gr, e1, q⟩
    · rename_i c' ρ' g1 e1
      split at e
      · rename_i hcd
        obtain ⟨rfl, hl⟩ := hcd
        cases e
        refine ⟨R, sc, H0, Z0, O, ρ, g, _, st, gr, e1, C, hC, fun σ' H' O' a b gr' => ⟨true, hm, fun _ ad _ => q v H' a.x0 gr' (hv _ _), fun z => by cases z⟩⟩
      · cases e
end
end Mi
end
section
set_option maxRecDepth 100000
set_option maxHeartbeats 1000000
/-! The rules for what changes a list: append, remove, extend; the row's cells; pairs stored at once. -/
namespace Mi
open PySem PySem.Spec PyProof.Rows L2
section
variable {X : Cx}
def rRem : V → List V → Hp → VK → Prop := fun x xs H Q => ∃ S S' a vs ds d v j, x = .ref a ∧ xs = [v] ∧ H a = some (.lst vs) ∧ RepA S H ds vs ∧ Rep S' H d v ∧ min (PyData.depthAll ds) d.depth ≤ 60 ∧ SeqAt.dataPlace ds d = some j ∧ Q .non (upd H a (.lst (vs.eraseIdx j)))
theorem om_remove (hu : X.A.units + 64 < cLine) : MtM X "list.remove" rRem := by
  intro pins s σ H x xs v us Q I rx rxs h
  obtain ⟨S, S', a, vs, ds, d, y, j, rfl, rfl, hH, r1, r2, hd, hp, q⟩ := h
  cases rx
  obtain ⟨u, rfl, ru⟩ := rxs.one
  obtain ⟨z, its, n, r, hl, e⟩ := I.lstM hH
  obtain ⟨as, hr⟩ := Dp.readsAll I _ vs its (RepA.dp _ _ r1) r
  obtain ⟨bs, hr2⟩ := r2.reads I ru
  refine SeqAt.remove_list_data (vs := its.toArray) ⟨_, e, rfl, n, rfl⟩ (by simpa using hr) hr2 (RepA.plain _ _ r1) (Rep.plain _ _ r2) (by omega) hp (by rw [List.size_toArray, ← hl]; rw [line_eq] at *; omega) ?_
  refine ⟨.non, _, I.lset (its' := its.eraseIdx j) (t' := s.toks) hH e ?_ (r.eraseIdx j) ?_, rfl, q⟩
  · show its.toArray.eraseIdxIfInBounds j = (its.eraseIdx j).toArray
    rw [List.eraseIdxIfInBounds_toArray]
  · have := List.length_eraseIdx_le vs j
    omega
end
section
variable {R sc : Addr} {H0 H H2 : Hp} {Z0 : Addr → Prop} {O : Nat → Addr → Prop} {ρ : SEnv} {σ : L2.St}
/-- i's own list at a is another one now: of its old items and of what is new since H -/
theorem StOk.mut (st : StOk R H0 Z0 O ρ σ H) (x : Ext R H H2) (hR : H2 R ≠ none) {i : Nat} {a : Addr} {vs ws : List V} {s : Sl} {P : Addr → Prop} (ha : O i a) (h2 : H2 a = some (.lst vs)) (hP : ∀ b, P b → O i b ∨ (H b = none ∧ H2 b ≠ none))
    (hs : SlOk R (Fz Z0 H0 (setO O i P)) P (upd H2 a (.lst ws)) σ[i]? s) : StOk R H0 Z0 (setO O i P) (ρ.set i s) σ (upd H2 a (.lst ws)) ∧ Ev R O H (setO O i P) (upd H2 a (.lst ws)) := by
  have th : ∀ b, H2 b ≠ none → upd H2 a (.lst ws) b ≠ none := fun b h => by
    by_cases e : b = a
    · subst e; rw [upd_same]; exact fun z => nomatch z
    · rw [upd_ne e]; exact h
  have ev : Ev R O H (setO O i P) (upd H2 a (.lst ws)) := by
    refine ⟨fun j b h => ?_, fun b o n h ho => ?_, fun b o m h ho => (by rw [upd_ne (ne_of (x.dk b o m h) h2 (dl_lst m vs))]; exact x.dk b o m h), fun b xs h => ?_, fun b h => th b (ext_there x hR b h)⟩
    · rcases setO_own h with z | z
      · exact (hP b z).elim (fun w => .inl ⟨i, w⟩) fun w => .inr w.1
      · exact .inl ⟨j, z.2⟩
    · rw [upd_ne (fun (z : b = a) => ho i (z ▸ ha))]
      exact x.keep b o n h
    · have h' := x.tups b xs h
      rw [upd_ne (ne_of h' h2 fun z => nomatch z)]
      exact h'
  refine ⟨st.step ev i (fun b h => ?_) (fun j b n h z => ?_) (fun j n => setO_ne n) (fun j b o n h e => ?_) (fun j b o m n h e => (by rw [upd_ne (ne_of (x.dk b o m e) h2 (dl_lst m vs))]; exact x.dk b o m e)) rfl (fun j n => rfl) (fun hi => by rw [setO_self]; exact hs), ev⟩
  · rw [setO_self] at h
    exact th b ((hP b h).elim (fun w => ext_there x hR b (st.o0 i b w).2) fun w => w.2)
  · rw [setO_self] at h
    exact (hP b h).elim (fun w => n (st.dj j i b z w)) fun w => (st.o0 j b z).2 w.1
  · rw [upd_ne (fun (z : b = a) => n (st.dj j i b h (z ▸ ha)))]
    exact x.keep b o (st.oR h) e
end
section
variable {X : Cx} {F F' F'' : Den} {e a b c : Expr} {pos apos cpos p : Pos} {i : Nat}
def appF (i : Nat) (F : Den) : DenS := fun ρ g => match F ρ.x g with
    | none => none
    | some (d, t, g1) => match ρ[i]? with
      | some (.own (.list ds)) => if fresh d t && decide (ds.length < 1000000) then some (.nx (ρ.set i (.own (.list (ds ++ [d])))) g1) else none
      | _ => none
theorem fresh_rep {R : Addr} {H0 H H2 : Hp} {Z0 : Addr → Prop} {O : Nat → Addr → Prop} {d : D} {t : Tag} {v : V} (r : Rep (TT R Z0 H0 O H H t) H2 d v) (h : fresh d t = true) : Rep (fun b => H b = none ∧ H2 b ≠ none) H2 d v := by
  cases t with
  | fr => exact r.alloc
  | fz => exact Rep.lf _ _ h r
  | bo => exact Rep.lf _ _ h r
theorem line1 {n m : Nat} (h1 : n < 1000000) (h2 : m ≤ n) : m < sizeLine := by rw [line_eq]; unfold LINE; omega
theorem ms_app (h : PE X a (tVar i)) (h' : PE X b (TEx X.K F)) (hbase : attributeBase a "append" X.env (eval a X.env) = eval a X.env) (hline : (apos.endLine == cpos.line) = true) (hs : starEach [b] X.env = [(false, eval b X.env)]) :
    PS X (.Expr (.Call (.Attribute a "append" apos) [b] [] cpos) pos) (TSx X.K W (appF i F)) := by
  have hs1 : starEach [b] X.env = (false, eval b X.env) :: starEach [] X.env := hs
  refine (ps_expr (pe_bm PySem.F.plainAttrs_list PySem.F.slot_list_append PySem.F.type_list_append mt_append h (pa_cons h' pa_nil hs1) hbase (by rw [hs]; rfl) hline hs1 rfl)).weak fun D σ H ⟨R, sc, H0, Z0, O, ρ, g, out, st, gr, e, q⟩ => ?_
  unfold appF at e
  split at e
  · cases e
  · rename_i d t g1 e1
    split at e
    · rename_i ds hi
      split at e
      · rename_i hc
        cases e
        rw [Bool.and_eq_true, decide_eq_true_eq] at hc
        obtain ⟨v, ev, r⟩ := st.sl i _ hi
        obtain ⟨p, vs, rfl, ho, hl, hr⟩ := r.list_inv
        refine ⟨.ref p, ev, .inl ⟨rfl, _, SqL.of hl⟩, ev_e0 st gr e1 fun u H2 x gr2 r2 => ?_⟩
        have hl2 := x.keep p _ (st.oR ho) hl
        refine ⟨p, vs, u, rfl, rfl, hl2, line1 hc.2 (by rw [hr.length]; exact Nat.le_refl _), ?_⟩
        have rn := fresh_rep r2 hc.1
        have np : H p ≠ none := (st.o0 i p ho).2
        have al : RepA (fun b => O i b ∧ b ≠ p) H2 ds vs := (hr.aloof hl).ext x fun z => st.oR z.1 rfl
        obtain ⟨st3, ev3⟩ := st.mut x gr2.ne (ws := vs ++ [u]) (s := .own (.list (ds ++ [d]))) (P := fun b => O i b ∨ (H b = none ∧ H2 b ≠ none)) ho hl2 (fun b z => z) ⟨.ref p, ev, Rep.list (.inl ho) upd_same
          (((repA_upd hl2 al fun z => z.2 rfl).sub fun b z => .inl z.1).append (.cons ((rep_upd hl2 rn fun z => np z.1).sub fun b z => .inr z) .nil))⟩
        exact q _ _ _ st3 ev3 (gr2.upd hl2 (st.oR ho))
      · cases e
    · cases e
def extF (i : Nat) (F : Den) : DenS := fun ρ g => match F ρ.x g with
    | none => none
    | some (d, t, g1) => match ρ[i]?, d with
      | some (.own (.list ds)), .list es => if freshL es t && decide (ds.length + es.length < 1000000) then some (.nx (ρ.set i (.own (.list (ds ++ es)))) g1) else none
      | _, _ => none
theorem ms_ext (h : PE X a (tVar i)) (h' : PE X b (TEx X.K F)) (hbase : attributeBase a "extend" X.env (eval a X.env) = eval a X.env) (hline : (apos.endLine == cpos.line) = true) (hs : starEach [b] X.env = [(false, eval b X.env)]) :
    PS X (.Expr (.Call (.Attribute a "extend" apos) [b] [] cpos) pos) (TSx X.K W (extF i F)) := by
  have hs1 : starEach [b] X.env = (false, eval b X.env) :: starEach [] X.env := hs
  refine (ps_expr (pe_bm PySem.F.plainAttrs_list PySem.F.slot_list_extend PySem.F.type_list_extend mt_extend h (pa_cons h' pa_nil hs1) hbase (by rw [hs]; rfl) hline hs1 rfl)).weak fun D σ H ⟨R, sc, H0, Z0, O, ρ, g, out, st, gr, e, q⟩ => ?_
  unfold extF at e
  split at e
  · cases e
  · rename_i d t g1 e1
    split at e
    · rename_i ds es hi
      split at e
      · rename_i hc
        cases e
        rw [Bool.and_eq_true, decide_eq_true_eq] at hc
        obtain ⟨v, ev, r⟩ := st.sl i _ hi
        obtain ⟨p, vs, rfl, ho, hl, hr⟩ := r.list_inv
        refine ⟨.ref p, ev, .inl ⟨rfl, _, SqL.of hl⟩, ev_e0 st gr e1 fun u H2 x gr2 r2 => ?_⟩
        have hl2 := x.keep p _ (st.oR ho) hl
        obtain ⟨p', ws, rfl, ht, hw, rw2⟩ := r2.list_inv
        refine ⟨p, p', vs, ws, rfl, rfl, hl2, hw, Nat.le_of_lt (line1 hc.2 (by rw [hr.length, rw2.length]; exact Nat.le_refl _)), ?_⟩
        have rn : RepA (fun b => H b = none ∧ H2 b ≠ none) H2 es ws := by
          cases t with
          | fr => exact rw2.alloc
          | fz => exact RepA.lf _ _ hc.1 rw2
          | bo => exact RepA.lf _ _ hc.1 rw2
        have np : H p ≠ none := (st.o0 i p ho).2
        have al : RepA (fun b => O i b ∧ b ≠ p) H2 ds vs := (hr.aloof hl).ext x fun z => st.oR z.1 rfl
        obtain ⟨st3, ev3⟩ := st.mut x gr2.ne (ws := vs ++ ws) (s := .own (.list (ds ++ es))) (P := fun b => O i b ∨ (H b = none ∧ H2 b ≠ none)) ho hl2 (fun b z => z) ⟨.ref p, ev, Rep.list (.inl ho) upd_same
          (((repA_upd hl2 al fun z => z.2 rfl).sub fun b z => .inl z.1).append ((repA_upd hl2 rn fun z => np z.1).sub fun b z => .inr z))⟩
        exact q _ _ _ st3 ev3 (gr2.upd hl2 (st.oR ho))
      · cases e
    · cases e
def remF (i : Nat) (F : Den) : DenS := fun ρ g => match F ρ.x g with
    | none => none
    | some (d, _, g1) => match ρ[i]? with
      | some (.own (.list ds)) => if decide (min (PyData.depthAll ds) d.depth ≤ 60) then (match SeqAt.dataPlace ds d with
        | some j => some (.nx (ρ.set i (.own (.list (ds.eraseIdx j)))) g1)
        | none => none) else none
      | _ => none
theorem ms_rem (hu : X.A.units + 64 < cLine) (h : PE X a (tVar i)) (h' : PE X b (TEx X.K F)) (hbase : attributeBase a "remove" X.env (eval a X.env) = eval a X.env) (hline : (apos.endLine == cpos.line) = true) (hs : starEach [b] X.env = [(false, eval b X.env)]) :
    PS X (.Expr (.Call (.Attribute a "remove" apos) [b] [] cpos) pos) (TSx X.K W (remF i F)) := by
  have hs1 : starEach [b] X.env = (false, eval b X.env) :: starEach [] X.env := hs
  refine (ps_expr (pe_bm PySem.F.plainAttrs_list PySem.F.slot_list_remove PySem.F.type_list_remove (om_remove hu) h (pa_cons h' pa_nil hs1) hbase (by rw [hs]; rfl) hline hs1 rfl)).weak fun D σ H ⟨R, sc, H0, Z0, O, ρ, g, out, st, gr, e, q⟩ => ?_
  unfold remF at e
  split at e
  · cases e
  · rename_i d t g1 e1
    split at e
    · rename_i ds hi
      split at e
      · rename_i hc
        split at e
        · rename_i j hj
          cases e
          rw [decide_eq_true_eq] at hc
          obtain ⟨v, ev, r⟩ := st.sl i _ hi
          obtain ⟨p, vs, rfl, ho, hl, hr⟩ := r.list_inv
          refine ⟨.ref p, ev, .inl ⟨rfl, _, SqL.of hl⟩, ev_e0 st gr e1 fun u H2 x gr2 r2 => ?_⟩
          have hl2 := x.keep p _ (st.oR ho) hl
          have al : RepA (fun b => O i b ∧ b ≠ p) H2 ds vs := (hr.aloof hl).ext x fun z => st.oR z.1 rfl
          refine ⟨_, _, p, vs, ds, d, u, j, rfl, rfl, hl2, al, r2, hc, hj, ?_⟩
          obtain ⟨st3, ev3⟩ := st.mut x gr2.ne (ws := vs.eraseIdx j) (s := .own (.list (ds.eraseIdx j))) (P := O i) ho hl2 (fun b z => .inl z) ⟨.ref p, ev, Rep.list ho upd_same
            (((repA_upd hl2 al fun z => z.2 rfl).sub fun b z => z.1).erase j)⟩
          exact q _ _ _ st3 ev3 (gr2.upd hl2 (st.oR ho))
        · cases e
      · cases e
    · cases e
theorem repA_set {S : Addr → Prop} {H : Hp} : ∀ {ds : List D} {vs : List V} (j : Nat) {d : D} {v : V}, RepA S H ds vs → Rep S H d v → RepA S H (ds.set j d) (vs.set j v)
  | [], vs, j, d, v, h, r => by rw [h.nil_inv]; exact .nil
  | e :: ds, vs, 0, d, v, h, r => by
    obtain ⟨w, rs, e1, r1, r2⟩ := h.inv
    rw [e1]
    exact .cons r r2
  | e :: ds, vs, j + 1, d, v, h, r => by
    obtain ⟨w, rs, e1, r1, r2⟩ := h.inv
    rw [e1]
    exact .cons r1 (repA_set j r2 r)
def apoF (i j : Nat) (F : Den) : DenS := fun ρ g => match F ρ.x g with
    | some (.int k, _, g1) => match ρ[i]?, ρ[j]? with
      | some (.own (.list ds)), some (.own (.list es)) => match es[k.toNat]? with
        | some d => if lf d && decide (i ≠ j) && decide (0 ≤ k) && decide (k ≤ 1000000) && decide (ds.length < 1000000) then some (.nx ((ρ.set j (.own (.list (es.eraseIdx k.toNat)))).set i (.own (.list (ds ++ [d])))) g1) else none
        | none => none
      | _, _ => none
    | _ => none
theorem ms_apo {j : Nat} {apos2 cpos2 : Pos} (h : PE X a (tVar i)) (h2 : PE X c (tVar j)) (h' : PE X b (TEx X.K F)) (hbase : attributeBase a "append" X.env (eval a X.env) = eval a X.env) (hline : (apos.endLine == cpos.line) = true)
    (hbase2 : attributeBase c "pop" X.env (eval c X.env) = eval c X.env) (hline2 : (apos2.endLine == cpos2.line) = true) (hs : starEach [b] X.env = [(false, eval b X.env)]) :
    PS X (.Expr (.Call (.Attribute a "append" apos) [.Call (.Attribute c "pop" apos2) [b] [] cpos2] [] cpos) pos) (TSx X.K W (apoF i j F)) := by
  have hs1 : starEach [b] X.env = (false, eval b X.env) :: starEach [] X.env := hs
  have hp := pe_bm (X := X) (o := c) (e := b) (es := []) (cpos := cpos2) PySem.F.plainAttrs_list PySem.F.slot_list_pop PySem.F.type_list_pop mt_popAt h2 (pa_cons h' pa_nil hs1) hbase2 (by rw [hs]; rfl) hline2 hs1 rfl
  refine (ps_expr (pe_bm PySem.F.plainAttrs_list PySem.F.slot_list_append PySem.F.type_list_append mt_append h (pa_cons hp pa_nil rfl) hbase rfl hline rfl rfl)).weak fun D σ H ⟨R, sc, H0, Z0, O, ρ, g, out, st, gr, e, q⟩ => ?_
  unfold apoF at e
  split at e
  · rename_i k t g1 e1
    split at e
    · rename_i ds es hi hj
      split at e
      · rename_i d hd
        split at e
        · rename_i hc
          cases e
          simp only [Bool.and_eq_true, decide_eq_true_eq] at hc
          obtain ⟨⟨⟨⟨c1, c2⟩, c3⟩, c4⟩, c5⟩ := hc
          obtain ⟨v, ev, r⟩ := st.sl i _ hi
          obtain ⟨p, vs, rfl, ho, hl, hr⟩ := r.list_inv
          obtain ⟨v', ev', r'⟩ := st.sl j _ hj
          obtain ⟨p', ws, rfl, ho', hl', hr'⟩ := r'.list_inv
          have hpp : p ≠ p' := fun z => c2 (st.dj i j p ho (z ▸ ho'))
          refine ⟨.ref p, ev, .inl ⟨rfl, _, SqL.of hl⟩, ⟨.ref p', ev', .inl ⟨rfl, _, SqL.of hl'⟩, ev_e0 st gr e1 fun u H2 x gr2 r2 => ?_⟩⟩
          have hu := r2.int_inv
          subst hu
          have hl2 := x.keep p _ (st.oR ho) hl
          have hl2' := x.keep p' _ (st.oR ho') hl'
          have hkl : k.toNat < es.length := (List.getElem?_eq_some_iff.mp hd).1
          obtain ⟨y, hy, ry⟩ := hr'.get hd
          refine ⟨p', ws, k, k.toNat, y, rfl, rfl, hl2', by omega, by omega, ?_, hy, ?_⟩
          · exact PySem.seqIndex_of c3 (by rw [hr'.length]; omega)
          have al' : RepA (fun b => O j b ∧ b ≠ p') H2 es ws := (hr'.aloof hl').ext x fun z => st.oR z.1 rfl
          obtain ⟨st3, ev3⟩ := st.mut x gr2.ne (ws := ws.eraseIdx k.toNat) (s := .own (.list (es.eraseIdx k.toNat))) (P := O j) ho' hl2' (fun b z => .inl z) ⟨.ref p', ev', Rep.list ho' upd_same
            (((repA_upd hl2' al' fun z => z.2 rfl).sub fun b z => z.1).erase k.toNat)⟩
          have gr3 := gr2.upd (o := .lst (ws.eraseIdx k.toNat)) hl2' (st.oR ho')
          have hl3 : upd H2 p' (.lst (ws.eraseIdx k.toNat)) p = some (.lst vs) := by rw [upd_ne hpp]; exact hl2
          have hi3 : (ρ.set j (.own (.list (es.eraseIdx k.toNat))))[i]? = some (.own (.list ds)) := by
            rw [List.getElem?_set_ne (Ne.symm c2)]; exact hi
          obtain ⟨v3, ev3', r3⟩ := st3.sl i _ hi3
          have e3 : V.ref p = v3 := by
            rw [ev] at ev3'
            exact Option.some.inj (Option.some.inj ev3')
          subst e3
          obtain ⟨p3, vs3, e4, ho3, hl4, hr3⟩ := r3.list_inv
          cases e4
          rw [hl3] at hl4
          cases hl4
          refine ⟨p, vs, y, rfl, rfl, hl3, line1 c5 (by rw [hr.length]; exact Nat.le_refl _), ?_⟩
          have np : upd H2 p' (.lst (ws.eraseIdx k.toNat)) p ≠ none := by rw [hl3]; exact fun z => nomatch z
          have al : RepA (fun b => setO O j (O j) i b ∧ b ≠ p) (upd H2 p' (.lst (ws.eraseIdx k.toNat))) ds vs := hr3.aloof hl3
          have ry0 : Rep (fun _ => False) H d y := Rep.lf d y c1 ry
          have ry2 : Rep (fun _ => False) (upd H2 p' (.lst (ws.eraseIdx k.toNat))) d y := rep_upd hl2' (ry0.ext x id) id
          have ry3 : Rep (setO O j (O j) i) (upd (upd H2 p' (.lst (ws.eraseIdx k.toNat))) p (.lst (vs ++ [y]))) d y := (rep_upd hl3 ry2 id).sub fun b z => z.elim
          obtain ⟨st4, ev4⟩ := st3.mut (Ext.refl R _) gr3.ne (i := i) (a := p) (vs := vs) (ws := vs ++ [y]) (s := .own (.list (ds ++ [d]))) (P := setO O j (O j) i) ho3 hl3 (fun b z => .inl z) ⟨.ref p, ev, Rep.list ho3 upd_same
            (((repA_upd hl3 al fun z => z.2 rfl).sub fun b z => z.1).append (.cons ry3 .nil))⟩
          exact q _ _ _ st4 (ev3.trans ev4) (gr3.upd hl3 (st3.oR ho3))
        · cases e
      · cases e
    · cases e
  · cases e
def insF (i : Nat) (F F' : Den) : DenS := fun ρ g => match F ρ.x g with
    | some (.int k, _, g1) => match F' ρ.x g1 with
      | none => none
      | some (d, _, g2) => match ρ[i]? with
        | some (.own (.list ds)) => if lf d && decide (0 ≤ k) && decide (k ≤ 1000000) && decide (ds.length < 1000000) then some (.nx (ρ.set i (.own (.list (ds.take k.toNat ++ [d] ++ ds.drop k.toNat)))) g2) else none
        | _ => none
    | _ => none
theorem ms_ins (h : PE X a (tVar i)) (h' : PE X b (TEx X.K F)) (h'' : PE X c (TEx X.K F')) (hbase : attributeBase a "insert" X.env (eval a X.env) = eval a X.env) (hline : (apos.endLine == cpos.line) = true)
    (hs : starEach [b, c] X.env = (false, eval b X.env) :: starEach [c] X.env) (hs2 : starEach [c] X.env = (false, eval c X.env) :: starEach [] X.env) :
    PS X (.Expr (.Call (.Attribute a "insert" apos) [b, c] [] cpos) pos) (TSx X.K W (insF i F F')) := by
  refine (ps_expr (pe_bm PySem.F.plainAttrs_list PySem.F.slot_list_insert PySem.F.type_list_insert mt_insert h (pa_cons h' (pa_cons h'' pa_nil hs2) hs) hbase (by rw [hs, hs2]; rfl) hline hs (by rw [hs2]; rfl))).weak fun D σ H ⟨R, sc, H0, Z0, O, ρ, g, out, st, gr, e, q⟩ => ?_
  unfold insF at e
  split at e
  · rename_i k t g1 e1
    split at e
    · cases e
    · rename_i d t2 g2 e2
      split at e
      · rename_i ds hi
        split at e
        · rename_i hc
          cases e
          simp only [Bool.and_eq_true, decide_eq_true_eq] at hc
          obtain ⟨⟨⟨c1, c2⟩, c3⟩, c4⟩ := hc
          obtain ⟨v, ev, r⟩ := st.sl i _ hi
          obtain ⟨p, vs, rfl, ho, hl, hr⟩ := r.list_inv
          refine ⟨.ref p, ev, .inl ⟨rfl, _, SqL.of hl⟩, ev_e0 st gr e1 fun u H1 x1 gr1 r1 => ?_⟩
          have hu := r1.int_inv
          subst hu
          refine ev_x st x1 gr1 e2 fun y H2 x2 gr2 r2 => ?_
          have x := x1.trans x2
          have hl2 := x.keep p _ (st.oR ho) hl
          refine ⟨p, vs, k, y, rfl, rfl, hl2, line1 c4 (by rw [hr.length]; exact Nat.le_refl _), c2, by omega, ?_⟩
          have ry : Rep (fun _ => False) H2 d y := Rep.lf d y c1 r2
          have al : RepA (fun b => O i b ∧ b ≠ p) H2 ds vs := (hr.aloof hl).ext x fun z => st.oR z.1 rfl
          have al2 : RepA (O i) (upd H2 p (.lst (vs.take k.toNat ++ [y] ++ vs.drop k.toNat))) ds vs := (repA_upd hl2 al fun z => z.2 rfl).sub fun b z => z.1
          have ry2 : Rep (O i) (upd H2 p (.lst (vs.take k.toNat ++ [y] ++ vs.drop k.toNat))) d y := (rep_upd hl2 ry id).sub fun b z => z.elim
          obtain ⟨st3, ev3⟩ := st.mut x gr2.ne (ws := vs.take k.toNat ++ [y] ++ vs.drop k.toNat) (s := .own (.list (ds.take k.toNat ++ [d] ++ ds.drop k.toNat))) (P := O i) ho hl2 (fun b z => .inl z) ⟨.ref p, ev, Rep.list ho upd_same
            (((al2.take k.toNat).append (.cons ry2 .nil)).append (al2.drop k.toNat))⟩
          exact q _ _ _ st3 ev3 (gr2.upd hl2 (st.oR ho))
        · cases e
      · cases e
  · cases e
def stoF (i : Nat) (F F' : Den) : DenS := fun ρ g => match F' ρ.x g with
    | none => none
    | some (d, _, g1) => match F ρ.x g1 with
      | some (.int k, _, g2) => match ρ[i]? with
        | some (.own (.list ds)) => if lf d && decide (0 ≤ k) && decide (k.toNat < ds.length) then some (.nx (ρ.set i (.own (.list (ds.set k.toNat d)))) g2) else none
        | _ => none
      | _ => none
/-- a store to an item, as it is done -/
def AsgIx (o i : Expr) (p : Pos) (env : Env) : Prop := ∀ v, assign (.Subscript o i p) env v = (do
      let ov ← holding [v] (eval o env)
      let iv ← holding [v, ov] (eval i env)
      standAt p
      holding [v, ov, iv] (setItem ov iv v)
      release [v, ov, iv] [])
theorem asgIx_of {o i : Expr} {p : Pos} {env : Env} (h : plainX i = true) : AsgIx o i p env := by
  intro v
  cases i <;> first
    | rfl
    | cases h
theorem ms_sto (h : PE X a (tVar i)) (h' : PE X b (TEx X.K F)) (h'' : PE X c (TEx X.K F')) (hpl : AsgIx a b p X.env) (hs : swapsWithSole [.Subscript a b p] c pos.line X.env = pure false) (hw : swappedStores [.Subscript a b p] c X.env = pure none) :
    PS X (.Assign [.Subscript a b p] c pos) (TSx X.K W (stoF i F F')) := (ps_asg h'' (pg_sub h h' set_list hpl) hs hw rfl).weak fun D σ H ⟨R, sc, H0, Z0, O, ρ, g, out, st, gr, e, q⟩ => by
  unfold stoF at e
  split at e
  · cases e
  · rename_i d t g1 e1
    split at e
    · rename_i k t2 g2 e2
      split at e
      · rename_i ds hi
        split at e
        · rename_i hc
          cases e
          simp only [Bool.and_eq_true, decide_eq_true_eq] at hc
          obtain ⟨⟨c1, c2⟩, c3⟩ := hc
          obtain ⟨v, ev, r⟩ := st.sl i _ hi
          obtain ⟨p, vs, rfl, ho, hl, hr⟩ := r.list_inv
          refine ev_e0 st gr e1 fun y H1 x1 gr1 r1 => ⟨.ref p, ev, ev_x st x1 gr1 e2 fun u H2 x2 gr2 r2 => ?_⟩
          have hu := r2.int_inv
          subst hu
          have x := x1.trans x2
          have hl2 := x.keep p _ (st.oR ho) hl
          refine ⟨p, vs, k, k.toNat, rfl, rfl, hl2, ?_, ?_⟩
          · unfold ixN
            rw [if_pos c2, if_pos (by rw [hr.length]; omega)]
          have ry : Rep (fun _ => False) H2 d y := (Rep.lf d y c1 r1 : Rep (fun _ => False) H1 d y).ext x2 id
          have al : RepA (fun b => O i b ∧ b ≠ p) H2 ds vs := (hr.aloof hl).ext x fun z => st.oR z.1 rfl
          have al2 : RepA (O i) (upd H2 p (.lst (vs.set k.toNat y))) ds vs := (repA_upd hl2 al fun z => z.2 rfl).sub fun b z => z.1
          have ry2 : Rep (O i) (upd H2 p (.lst (vs.set k.toNat y))) d y := (rep_upd hl2 ry id).sub fun b z => z.elim
          obtain ⟨st3, ev3⟩ := st.mut x gr2.ne (ws := vs.set k.toNat y) (s := .own (.list (ds.set k.toNat d))) (P := O i) ho hl2 (fun b z => .inl z) ⟨.ref p, ev, Rep.list ho upd_same (repA_set k.toNat al2 ry2)⟩
          exact q _ _ _ st3 ev3 (gr2.upd hl2 (st.oR ho))
        · cases e
      · cases e
    · cases e
def expF (F : Den) : DenS := fun ρ g => match F ρ.x g with
    | none => none
    | some (_, _, g1) => some (.nx ρ g1)
theorem ms_exp (h : PE X a (TEx X.K F)) (hs : swapsWith a none pos.line X.env = pure false) : PS X (.Expr a pos) (TSx X.K W (expF F)) := (ps_expr h hs).weak fun D σ H ⟨R, sc, H0, Z0, O, ρ, g, out, st, gr, e, q⟩ => by
  unfold expF at e
  split at e
  · cases e
  · rename_i d t g1 e1
    cases e
    exact ev_e0 st gr e1 fun v H2 x gr2 r => q _ _ _ (st.ext x gr2.ne) (Ev.ext x gr2.ne) gr2
/-! ### the row's cells -/
def rowSF (i k : Nat) (F : Den) : DenS := fun ρ g => match F ρ.x g with
    | some (.int v, _, g1) => match ρ[i]? with
      | some .row => match k with
        | 1 => some (.nx ρ { g1 with p := v })
        | 2 => some (.nx ρ { g1 with m := v })
        | 3 => some (.nx ρ { g1 with r := v })
        | _ => none
      | _ => none
    | _ => none
theorem row_upd {K : PySem.W.Frag} {R sc : Addr} {H0 H : Hp} {Z0 : Addr → Prop} {O : Nat → Addr → Prop} {ρ : SEnv} {σ : L2.St} {g g' : G} {vs : List V} (st : StOk R H0 Z0 O ρ σ H) (gr : GR K R sc H g) (hn : g'.ns = g.ns) (hv : vs = [.ref sc, .int g'.p, .int g'.m, .int g'.r]) :
    StOk R H0 Z0 O ρ σ (upd H R (.lst vs)) ∧ Ev R O H O (upd H R (.lst vs)) ∧ GR K R sc (upd H R (.lst vs)) g' := by
  have x : Ext R H (upd H R (.lst vs)) := ⟨fun a o n h => by rw [upd_ne n]; exact h, fun a o m h => by rw [upd_ne (ne_of h gr.1 (dl_lst m _))]; exact h, fun a xs h => by rw [upd_ne (ne_of h gr.1 fun z => nomatch z)]; exact h, fun a n h => by rw [upd_ne n]; exact h⟩
  have hR : upd H R (.lst vs) R ≠ none := by rw [upd_same]; exact fun z => nomatch z
  exact ⟨st.ext x hR, Ev.ext x hR, by rw [upd_same, hv], by rw [hn]; exact gr.2.1.upd gr.1, tabs_upd gr.1 gr.2.2⟩
theorem ms_row {k : Nat} {j : Nat} {p2 : Pos} (h : PE X a (tVar i)) (h' : PE X b (TEx X.K F)) (hs : swapsWithSole [.Subscript a (.Constant (.int (k : Int)) j p2) p] b pos.line X.env = pure false) (hw : swappedStores [.Subscript a (.Constant (.int (k : Int)) j p2) p] b X.env = pure none)
    : PS X (.Assign [.Subscript a (.Constant (.int (k : Int)) j p2) p] b pos) (TSx X.K W (rowSF i k F)) := (ps_asg h' (pg_sub h pe_int set_list (fun _ => rfl)) hs hw rfl).weak fun D σ H ⟨R, sc, H0, Z0, O, ρ, g, out, st, gr, e, q⟩ => by
  unfold rowSF at e
  split at e
  · rename_i v t g1 e1
    split at e
    · rename_i hi
      refine ev_e0 st gr e1 fun u H2 x gr2 r2 => ?_
      have hu := r2.int_inv
      subst hu
      have er : σ[i]? = some (some (.ref R)) := st.sl i _ hi
      have st2 := st.ext x gr2.ne
      have fin : ∀ g2 : G, g2.ns = g1.ns → ∀ vs, vs = [.ref sc, .int g2.p, .int g2.m, .int g2.r] → out = .nx ρ g2 → D.nx σ (upd H2 R (.lst vs)) := fun g2 hn vs hv ho => by
        subst ho
        obtain ⟨a1, a2, a3⟩ := row_upd st2 gr2 hn hv
        exact q _ _ _ a1 ((Ev.ext x gr2.ne).trans a2) a3
      split at e
      · cases e
        exact ⟨.ref R, er, R, _, 1, 1, rfl, rfl, gr2.1, rfl, fin { g1 with p := v } rfl _ rfl rfl⟩
      · cases e
        exact ⟨.ref R, er, R, _, 2, 2, rfl, rfl, gr2.1, rfl, fin { g1 with m := v } rfl _ rfl rfl⟩
      · cases e
        exact ⟨.ref R, er, R, _, 3, 3, rfl, rfl, gr2.1, rfl, fin { g1 with r := v } rfl _ rfl rfl⟩
      · cases e
    · cases e
  · cases e
end
end Mi
end
section
set_option maxRecDepth 100000
set_option maxHeartbeats 1000000
/-! x[k].append(..); pairs stored at once. -/
namespace Mi
open PySem PySem.Spec PyProof.Rows L2
theorem lists_get : ∀ {ds : List D} {n : Nat} {p : Nat × Nat}, p ∈ lists n ds → ∃ l, n ≤ p.1 ∧ ds[p.1 - n]? = some (.list l) ∧ l.length = p.2
  | [], n, p, h => by cases h
  | d :: ds, n, p, h => by
    have tail : p ∈ lists (n + 1) ds → ∃ l, n ≤ p.1 ∧ (d :: ds)[p.1 - n]? = some (.list l) ∧ l.length = p.2 := fun h => by
      obtain ⟨l, h1, h2, h3⟩ := lists_get h
      refine ⟨l, by omega, ?_, h3⟩
      rw [show p.1 - n = (p.1 - (n + 1)) + 1 by omega, List.getElem?_cons_succ]
      exact h2
    cases d with
    | list l =>
      rcases List.mem_cons.mp (show p ∈ (n, l.length) :: lists (n + 1) ds from h) with e | h
      · subst e
        exact ⟨l, Nat.le_refl _, by simp, rfl⟩
      · exact tail h
    | none => exact tail h
    | bool _ => exact tail h
    | int _ => exact tail h
    | str _ => exact tail h
    | tuple _ => exact tail h
    | dict _ => exact tail h
theorem any_get {ks : List (Nat × Nat)} {k : Nat} (h : (ks.any fun p => p.1 == k) = true) : ∃ p ∈ ks, p.1 = k := by
  obtain ⟨p, h1, h2⟩ := List.any_eq_true.mp h
  exact ⟨p, h1, eq_of_beq h2⟩
theorem spoil_jk {R : Addr} {Fs Oi : Addr → Prop} {H : Hp} {x : Option (Option V)} {s s' : Sl} {k : Nat} (h : SlOk R Fs Oi H x s) (e : spoil s k = some s') : ∃ ks, s' = .jk (ks.map fun p => (p.1, p.2 + 1)) ∧ (∃ p ∈ ks, p.1 = k) ∧ (∀ p ∈ ks, p.2 < 1000000) ∧ SlOk R Fs Oi H x (.jk ks) := by
  unfold spoil at e
  split at e
  · rename_i ds
    split at e
    · rename_i hc
      cases e
      rw [Bool.and_eq_true, List.all_eq_true] at hc
      obtain ⟨v, ex, r⟩ := h
      obtain ⟨a, vs, rfl, hl, hr⟩ := r.tuple_inv
      refine ⟨_, rfl, any_get hc.1, fun p hp => by simpa using hc.2 p hp, a, vs, ex, .inl hl, fun p hp => ?_⟩
      obtain ⟨l, h1, h2, h3⟩ := lists_get hp
      obtain ⟨v, h4, h5⟩ := hr.get h2
      obtain ⟨b, ws, rfl, ho, hb, hw⟩ := h5.list_inv
      exact ⟨b, ws, h4, ho, fun z => by (rw [z, hl] at hb; cases hb), hb, by rw [hw.length]; exact Nat.le_of_eq h3⟩
    · cases e
  · rename_i ds
    split at e
    · rename_i hc
      cases e
      rw [Bool.and_eq_true, List.all_eq_true] at hc
      obtain ⟨v, ex, r⟩ := h
      obtain ⟨a, vs, rfl, ha, hl, hr⟩ := r.list_inv
      refine ⟨_, rfl, any_get hc.1, fun p hp => by simpa using hc.2 p hp, a, vs, ex, .inr ⟨hl, ha⟩, fun p hp => ?_⟩
      obtain ⟨l, h1, h2, h3⟩ := lists_get hp
      obtain ⟨v, h4, h5⟩ := (hr.aloof hl).get h2
      obtain ⟨b, ws, rfl, ho, hb, hw⟩ := h5.list_inv
      exact ⟨b, ws, h4, ho.1, ho.2, hb, by rw [hw.length]; exact Nat.le_of_eq h3⟩
    · cases e
  · rename_i ks
    split at e
    · rename_i hc
      cases e
      rw [Bool.and_eq_true, List.all_eq_true] at hc
      exact ⟨ks, rfl, any_get hc.1, fun p hp => by simpa using hc.2 p hp, h⟩
    · cases e
  · cases e
theorem atI_nat {α : Type} {xs : List α} {k : Nat} {x : α} (h : xs[k]? = some x) : atI xs (k : Int) = some x := by
  have hlt : k < xs.length := (List.getElem?_eq_some_iff.mp h).1
  unfold atI ixN
  rw [if_pos (by omega), if_pos (by omega)]
  simpa using h
section
variable {X : Cx} {F F' F'' : Den} {e a b c : Expr} {pos apos cpos p p3 : Pos} {i j l : Nat}
def spoF (i k : Nat) (F : Den) : DenS := fun ρ g => match F ρ.x g with
    | none => none
    | some (d, _, g1) => match ρ[i]? with
      | some s => match spoil s k with
        | some s' => if lf d then some (.nx (ρ.set i s') g1) else none
        | none => none
      | none => none
theorem ms_spo {k : Nat} {jj : Nat} {p2 : Pos} (h : PE X a (tVar i)) (h' : PE X b (TEx X.K F)) (hbase : attributeBase (.Subscript a (.Constant (.int (k : Int)) jj p2) p3) "append" X.env (eval (.Subscript a (.Constant (.int (k : Int)) jj p2) p3) X.env) = eval (.Subscript a (.Constant (.int (k : Int)) jj p2) p3) X.env) (hline : (apos.endLine == cpos.line) = true) (hs : starEach [b] X.env = [(false, eval b X.env)]) :
    PS X (.Expr (.Call (.Attribute (.Subscript a (.Constant (.int (k : Int)) jj p2) p3) "append" apos) [b] [] cpos) pos) (TSx X.K W (spoF i k F)) := by
  have hs1 : starEach [b] X.env = (false, eval b X.env) :: starEach [] X.env := hs
  refine (ps_expr (pe_bm PySem.F.plainAttrs_list PySem.F.slot_list_append PySem.F.type_list_append mt_append (pe_ix (ix_list.or ix_tup) h pe_int (fun _ _ => rfl)) (pa_cons h' pa_nil hs1) hbase (by rw [hs]; rfl) hline hs1 rfl)).weak fun D σ H ⟨R, sc, H0, Z0, O, ρ, g, out, st, gr, e, q⟩ => ?_
  unfold spoF at e
  split at e
  · cases e
  · rename_i d t g1 e1
    split at e
    · rename_i s hi
      split at e
      · rename_i s' hsp
        split at e
        · rename_i hlf
          cases e
          obtain ⟨ks, rfl, ⟨pk, hpk, rfl⟩, hsm, a0, vs, ev, hroot, hks⟩ := spoil_jk (st.sl i _ hi) hsp
          obtain ⟨b0, ws, k1, k2, k3, k4, k5⟩ := hks pk hpk
          have fin : tyV X.K "list" (.ref b0) H ∧ (tCons (TEx X.K F) tNil) σ H fun xs H2 => rAppend (.ref b0) xs H2 fun _ H3 => D.nx σ H3 := by
            refine ⟨.inl ⟨rfl, _, SqL.of k4⟩, ev_e0 st gr e1 fun u H2 x gr2 r2 => ?_⟩
            have hl2 := x.keep b0 _ (st.oR k2) k4
            refine ⟨b0, ws, u, rfl, rfl, hl2, line1 (hsm pk hpk) k5, ?_⟩
            have key : SlOk R (Fz Z0 H0 (setO O i (O i))) (O i) (upd H2 b0 (.lst (ws ++ [u]))) σ[i]? (.jk (ks.map fun p => (p.1, p.2 + 1))) := by
              refine ⟨a0, vs, ev, ?_, fun p' hp' => ?_⟩
              · rcases hroot with z | ⟨z, y⟩
                · have := x.tups _ _ z
                  exact .inl (by rw [upd_ne (ne_of this hl2 fun z => nomatch z)]; exact this)
                · exact .inr ⟨by rw [upd_ne (Ne.symm k3)]; exact x.keep a0 _ (st.oR y) z, y⟩
              · obtain ⟨p0, hp0, rfl⟩ := List.mem_map.mp hp'
                obtain ⟨b', ws', m1, m2, m3, m4, m5⟩ := hks p0 hp0
                by_cases hb : b' = b0
                · subst hb
                  rw [k4] at m4
                  cases m4
                  exact ⟨b', _, m1, m2, m3, upd_same, by rw [List.length_append, List.length_singleton]; exact Nat.succ_le_succ m5⟩
                · exact ⟨b', ws', m1, m2, m3, by rw [upd_ne hb]; exact x.keep b' _ (st.oR m2) m4, Nat.le_succ_of_le m5⟩
            obtain ⟨st3, ev3⟩ := st.mut x gr2.ne (ws := ws ++ [u]) (s := .jk (ks.map fun p => (p.1, p.2 + 1))) (P := O i) k2 hl2 (fun b z => .inl z) key
            exact q _ _ _ st3 ev3 (gr2.upd hl2 (st.oR k2))
          refine ⟨.ref a0, ev, ?_⟩
          rcases hroot with z | ⟨z, y⟩
          · exact .inr ⟨a0, vs, _, .ref b0, rfl, rfl, SqT.of z, atI_nat k1, fin⟩
          · exact .inl ⟨a0, vs, _, .ref b0, rfl, rfl, SqL.of z, atI_nat k1, fin⟩
        · cases e
      · cases e
    · cases e
/-! ### a, b = x, y -/
def par2F (i j : Nat) (F F' : Den) : DenS := fun ρ g => match F ρ.x g with
    | none => none
    | some (d, t, g1) => match F' ρ.x g1 with
      | none => none
      | some (d', t', g2) => match put ρ i d t with
        | none => none
        | some ρ1 => match put ρ1 j d' t' with
          | none => none
          | some ρ2 => some (.nx ρ2 g2)
theorem par2_gen {D : Ends} {σ : L2.St} {H : Hp} : TSx X.K W (par2F i j F F') D σ H → (TEx X.K F) σ H fun x H1 => (TEx X.K F') σ H1 fun y H2 => ∀ H3, Same H2 H3 → D.nx ((σ.set i (some x)).set j (some y)) H3 := fun ⟨R, sc, H0, Z0, O, ρ, g, out, st, gr, e, q⟩ => by
  unfold par2F at e
  split at e
  · cases e
  · rename_i d t g1 e1
    split at e
    · cases e
    · rename_i d' t' g2 e2
      split at e
      · cases e
      · rename_i ρ1 p1
        split at e
        · cases e
        · rename_i ρ2 p2
          cases e
          refine ev_e0 st gr e1 fun x H1 x1 gr1 r1 => ev_x st x1 gr1 e2 fun y H2 x2 gr2 r2 => fun H3 sm => ?_
          obtain ⟨P, hP, st1, ev1⟩ := st.put x1 gr1.ne (T := TT R Z0 H0 O H H) (fun a z => z) (fun a z => z.1) r1 p1
          have gr3 := gr2.same sm
          obtain ⟨P2, hP2, st2, ev2⟩ := st1.put (x2.trans (Ext.same sm)) gr3.ne (T := TT R Z0 H0 O H H1) (fun a z => z) (fun a z => ⟨z.1.1, fun k y => (setO_own y).elim (fun w => z.2.elim (fun u => u (hP a w).1) (fun u => (hP a w).2 u)) fun w => z.1.2 k w.2⟩) (r2.same sm) p2
          exact q _ _ _ st2 (ev1.trans ev2) gr3
def par3F (i j l : Nat) (F F' F'' : Den) : DenS := fun ρ g => match F ρ.x g with
    | none => none
    | some (d, t, g1) => match F' ρ.x g1 with
      | none => none
      | some (d', t', g2) => match F'' ρ.x g2 with
        | none => none
        | some (d2, t2, g3) => match put ρ i d t with
          | none => none
          | some ρ1 => match put ρ1 j d' t' with
            | none => none
            | some ρ2 => match put ρ2 l d2 t2 with
              | none => none
              | some ρ3 => some (.nx ρ3 g3)
theorem par3_gen {D : Ends} {σ : L2.St} {H : Hp} : TSx X.K W (par3F i j l F F' F'') D σ H → (TEx X.K F) σ H fun x H1 => (TEx X.K F') σ H1 fun y H2 => (TEx X.K F'') σ H2 fun z H3 => ∀ H4, Same H3 H4 → D.nx (((σ.set i (some x)).set j (some y)).set l (some z)) H4 := fun ⟨R, sc, H0, Z0, O, ρ, g, out, st, gr, e, q⟩ => by
  unfold par3F at e
  split at e
  · cases e
  · rename_i d t g1 e1
    split at e
    · cases e
    · rename_i d' t' g2 e2
      split at e
      · cases e
      · rename_i d2 t2 g3 e3
        split at e
        · cases e
        · rename_i ρ1 p1
          split at e
          · cases e
          · rename_i ρ2 p2
            split at e
            · cases e
            · rename_i ρ3 p3
              cases e
              refine ev_e0 st gr e1 fun x H1 x1 gr1 r1 => ev_x st x1 gr1 e2 fun y H2 x2 gr2 r2 => ev_x st (x1.trans x2) gr2 e3 fun z H3 x3 gr3 r3 => fun H4 sm => ?_
              obtain ⟨P, hP, st1, ev1⟩ := st.put x1 gr1.ne (T := TT R Z0 H0 O H H) (fun a z => z) (fun a z => z.1) r1 p1
              obtain ⟨P2, hP2, st2, ev2⟩ := st1.put x2 gr2.ne (T := TT R Z0 H0 O H H1) (fun a z => z) (fun a z => ⟨z.1.1, fun k y => (setO_own y).elim (fun w => z.2.elim (fun u => u (hP a w).1) (fun u => (hP a w).2 u)) fun w => z.1.2 k w.2⟩) r2 p2
              have gr4 := gr3.same sm
              obtain ⟨P3, hP3, st3, ev3⟩ := st2.put (x3.trans (Ext.same sm)) gr4.ne (T := TT R Z0 H0 O H H2) (fun a z => z) (fun a z => ⟨z.1.1, fun k y => (setO_own y).elim (fun w => z.2.elim (fun u => ext_there x1 gr1.ne a u (hP2 a w).1) (fun u => (hP2 a w).2 u)) fun w => (setO_own w.2).elim (fun w => z.2.elim (fun u => u (hP a w).1) fun u => ext_there x2 gr2.ne a (hP a w).2 u) fun w => z.1.2 k w.2⟩) (r3.same sm) p3
              exact q _ _ _ st3 ((ev1.trans ev2).trans ev3) gr4
/-- stored from the right -/
theorem ms_par2 {x y : Str} {px py pt : Pos} {kt k2 pt2} (hc : X.calm = true) (hN : X.N.Nodup) (hi : X.N[i]? = some x) (hj : X.N[j]? = some y) (hij : i ≠ j)
    (hx : X.env.scope.names.lookup x = some .local) (hy : X.env.scope.names.lookup y = some .local) (ha : PA X [a, b] (tCons (TEx X.K F) (tCons (TEx X.K F') tNil)))
    (hw : swappedStores [.Tuple [.Name x px, .Name y py] kt pt] (.Tuple [a, b] k2 pt2) X.env = pure (some [x, y]))
    (hs : swapsWithSole [.Tuple [.Name x px, .Name y py] kt pt] (.Tuple [a, b] k2 pt2) pos.line X.env = pure false) :
    PS X (.Assign [.Tuple [.Name x px, .Name y py] kt pt] (.Tuple [a, b] k2 pt2) pos) (TSx X.K W (par2F i j F F')) := (ps_par hc hN hi hj hij hx hy ha hw hs).weak fun D σ H h =>
  TEx.mono (fun v H1 h1 => TEx.mono (fun w H2 h2 => ⟨v, w, rfl, h2 H2 (Same.refl _)⟩) h1) (par2_gen h)
theorem ms_par3 {x y z : Str} {px py pz pt : Pos} {kt k2 pt2} (hc : X.calm = true) (hN : X.N.Nodup) (hi : X.N[i]? = some x) (hj : X.N[j]? = some y) (hl : X.N[l]? = some z) (hij : i ≠ j) (hil : i ≠ l) (hjl : j ≠ l)
    (hx : X.env.scope.names.lookup x = some .local) (hy : X.env.scope.names.lookup y = some .local) (hz : X.env.scope.names.lookup z = some .local) (ha : PA X [a, b, c] (tCons (TEx X.K F) (tCons (TEx X.K F') (tCons (TEx X.K F'') tNil))))
    (hw : swappedStores [.Tuple [.Name x px, .Name y py, .Name z pz] kt pt] (.Tuple [a, b, c] k2 pt2) X.env = pure (some [x, y, z]))
    (hs : swapsWithSole [.Tuple [.Name x px, .Name y py, .Name z pz] kt pt] (.Tuple [a, b, c] k2 pt2) pos.line X.env = pure false) :
    PS X (.Assign [.Tuple [.Name x px, .Name y py, .Name z pz] kt pt] (.Tuple [a, b, c] k2 pt2) pos) (TSx X.K W (par3F i j l F F' F'')) := (ps_par3 hc hN hi hj hl hij hil hjl hx hy hz ha hw hs).weak fun D σ H h =>
  TEx.mono (fun v H1 h1 => TEx.mono (fun w H2 h2 => TEx.mono (fun u H3 h3 => ⟨v, w, u, rfl, h3 H3 (Same.refl _)⟩) h2) h1) (par3_gen h)
/-- stored from the left: the tuple is made -/
theorem ms_par2T {tg : Expr} {k2 pt2} (ha : PA X [a, b] (tCons (TEx X.K F) (tCons (TEx X.K F') tNil))) (hg : PG X tg (gT X.K (.many [i, j])))
    (hw : swappedStores [tg] (.Tuple [a, b] k2 pt2) X.env = pure none) (hs : swapsWithSole [tg] (.Tuple [a, b] k2 pt2) pos.line X.env = pure false) (h1 : (assignEach [tg] X.env).map (·.2) = [assign tg X.env]) :
    PS X (.Assign [tg] (.Tuple [a, b] k2 pt2) pos) (TSx X.K W (par2F i j F F')) := (ps_asg (pe_tup ha) hg hs hw h1).weak fun D σ H h =>
  TEx.mono (fun v H1 h1 => TEx.mono (fun w H2 h2 => ⟨by show 2 ≤ sizeLine; decide, fun p np => ⟨p, [v, w], rfl, SqT.of upd_same, rfl, v, [w], rfl, w, [], rfl, rfl, h2 _ (same_upd np)⟩⟩) h1) (par2_gen h)
theorem ms_par3T {tg : Expr} {k2 pt2} (ha : PA X [a, b, c] (tCons (TEx X.K F) (tCons (TEx X.K F') (tCons (TEx X.K F'') tNil)))) (hg : PG X tg (gT X.K (.many [i, j, l])))
    (hw : swappedStores [tg] (.Tuple [a, b, c] k2 pt2) X.env = pure none) (hs : swapsWithSole [tg] (.Tuple [a, b, c] k2 pt2) pos.line X.env = pure false) (h1 : (assignEach [tg] X.env).map (·.2) = [assign tg X.env]) :
    PS X (.Assign [tg] (.Tuple [a, b, c] k2 pt2) pos) (TSx X.K W (par3F i j l F F' F'')) := (ps_asg (pe_tup ha) hg hs hw h1).weak fun D σ H h =>
  TEx.mono (fun v H1 h1 => TEx.mono (fun w H2 h2 => TEx.mono (fun u H3 h3 => ⟨by show 3 ≤ sizeLine; decide, fun p np => ⟨p, [v, w, u], rfl, SqT.of upd_same, rfl, v, [w, u], rfl, w, [u], rfl, u, [], rfl, rfl, h3 _ (same_upd np)⟩⟩) h2) h1) (par3_gen h)
end
end Mi
end
section
set_option maxRecDepth 100000
set_option maxHeartbeats 1000000
/-! dict(pairs) whose keys are tuples. -/
namespace Mi
open PySem PySem.Spec PyProof.Rows L2
theorem storedAllH_nodup {K : Type} [DecidableEq K] : ∀ (ps xs : List (K × Addr × Value)), ((xs ++ ps).map (·.1)).Nodup → storedAllH xs ps = xs ++ ps
  | [], xs, _ => by rw [List.append_nil]; rfl
  | p :: ps, xs, h => by
    have hn : atKey xs p.1 = none := by
      unfold atKey
      rw [Option.map_eq_none_iff, List.find?_eq_none]
      intro x hx e
      have e : x.1 = p.1 := of_decide_eq_true e
      rw [List.map_append, List.nodup_append] at h
      exact h.2.2 x.1 (List.mem_map.mpr ⟨x, hx, rfl⟩) p.1 (List.mem_map.mpr ⟨p, List.mem_cons_self .., rfl⟩) e
    show storedAllH (storedH xs p.1 p.2.1 p.2.2) ps = _
    rw [storedH_new hn, storedAllH_nodup ps _ (by rw [List.append_assoc]; exact h), List.append_assoc]
    rfl
section
variable {X : Cx}
abbrev PrT (K : PySem.W.Frag) (H : Hp) : Addr → List Key × Addr × V → Prop := fun p kv => SqT K H p [.ref kv.2.1, kv.2.2] ∧ H kv.2.1 = some (.tup (kv.1.map kV))
theorem pairsT_of {pins : List (Addr × Obj)} {σ : L2.St} {H : Hp} {s : Shared} (I : Inv X pins σ H s) : ∀ {ps : List Addr} {kvs : List (List Key × Addr × V)}, Paired (PrT X.K H) ps kvs →
    ∃ prs : List (List Key × Addr × Value), Paired (fun (p : List Key × Addr × V) (q : List Key × Addr × Value) => p.1 = q.1 ∧ p.2.1 = q.2.1 ∧ H q.2.1 = some (.tup (p.1.map kV)) ∧ RelV p.2.2 q.2.2) kvs prs ∧ prs.length = ps.length ∧ ∀ (j : Nat) (q : List Key × Addr × Value), prs[j]? = some q → ∃ b : Addr, ps[j]? = some b ∧ IsTup s.heap b #[.ref q.2.1, q.2.2] ∧ (tupleKind (mixKind X.prog X.w)).is s.heap q.1 q.2.1
  | _, _, .nil => ⟨[], .nil, rfl, fun j q e => by simp at e⟩
  | _, _, .cons (a := p) (b := kv) h t => by
    obtain ⟨prs, r, hl, hp⟩ := pairsT_of I t
    obtain ⟨its, rv, ht, _⟩ := I.tuple h.1
    obtain ⟨u, y, ei, ru, ry⟩ := vals2 rv
    subst ei
    cases ru
    refine ⟨(kv.1, kv.2.1, y) :: prs, .cons ⟨rfl, rfl, h.2, ry⟩ r, by rw [List.length_cons, List.length_cons, hl], fun j q e => ?_⟩
    cases j with
    | zero =>
      have e' : (kv.1, kv.2.1, y) = q := Option.some.inj e
      subst e'
      exact ⟨p, rfl, ht, key_of I.hok h.2⟩
    | succ j =>
      obtain ⟨b, e1, e2, e3⟩ := hp j q (by simpa using e)
      exact ⟨b, by simpa using e1, e2, e3⟩
theorem paired_map {α β γ δ : Type} {F : α → β → Prop} {G : γ → δ → Prop} {f : α → γ} {g : β → δ} : ∀ {l : List α} {m : List β}, Paired F l m → (∀ a b, F a b → G (f a) (g b)) → Paired G (l.map f) (m.map g)
  | _, _, .nil, _ => .nil
  | _, _, .cons h t, k => .cons (k _ _ h) (paired_map t k)
theorem paired_len {α β : Type} {F : α → β → Prop} : ∀ {l : List α} {m : List β}, Paired F l m → l.length = m.length
  | _, _, .nil => rfl
  | _, _, .cons h t => by rw [List.length_cons, List.length_cons, paired_len t]
theorem call_dictPT (hcalm : X.calm = true) (hu : X.A.units + 64 < cLine) : CallR X (.type "dict") (fun xs H Q => ∃ (a : Addr) (ps : List Addr) (kvs : List (List Key × Addr × V)), xs = [.ref a] ∧ SqL X.K H a (ps.map V.ref) ∧ Paired (PrT X.K H) ps kvs ∧ (kvs.map (·.1)).Nodup ∧
    ∀ p, H p = none → Q (.ref p) (upd H p (.dT (kvs.map fun x => (x.1, x.2.2))))) := by
  intro pins s σ H xs us Q I r q
  obtain ⟨a, ps, kvs, ex, hq, hp, nd, q⟩ := q
  subst ex
  obtain ⟨u, eu, rx⟩ := vals1 r
  subst eu
  cases rx
  obtain ⟨its, rv, pl, hz⟩ := I.list hq
  have ei := refs_at rv
  subst ei
  rw [List.length_map] at hz
  obtain ⟨prs, rel, hl, hpr⟩ := pairsT_of I hp
  obtain ⟨o, n, ho, hc, hd, hdat⟩ := pl
  have ekeys : prs.map (·.1) = kvs.map (·.1) := by
    clear hpr hl q nd hp
    induction rel with
    | nil => rfl
    | cons h t ih => rw [List.map_cons, List.map_cons, h.1, ih]
  have hps : ∀ j, j < prs.length → ∃ b, ps[j]? = some b := fun j hj => ⟨ps[j]'(by omega), List.getElem?_eq_getElem (by omega)⟩
  have hlen2 : kvs.length = prs.length := paired_len rel
  have PA := PairArg.list (prog := X.prog) (w := X.w) a (ps.map Value.ref).toArray (fun j => (ps[j]?).getD 0) (prs.map fun x => (Value.ref x.2.1, x.2.2))
  refine call_dict_pairsH (ps := prs) (knd := tupleKind (mixKind X.prog X.w)) PA (I.ok.hd hcalm) (show X.A.in1.in1.units < cLine by show X.A.units + 1 + 1 < cLine; omega) ⟨⟨o, n, ho, hc, hd, hdat⟩, by simp [hl], fun j k v e => ?_⟩ ⟨by simp, fun i key v e => ?_⟩ (fun h' hk x hx => ?_) (by simp; omega) fun h' tk hd' hk => ?_
  · rw [List.getElem?_map] at e
    obtain ⟨q', e1, e2⟩ := Option.map_eq_some_iff.mp e
    cases e2
    obtain ⟨b, e3, e4, e5⟩ := hpr j q' e1
    refine ⟨by simp [e3], .inl ?_⟩
    show s.heap.IsTuple ((ps[j]?).getD 0) _
    rw [e3]
    exact e4
  · have e : (prs.map fun x => (Value.ref x.2.1, x.2.2))[i]? = some (key, v) := e
    rw [List.getElem?_map] at e
    obtain ⟨q', e1, e2⟩ := Option.map_eq_some_iff.mp e
    cases e2
    exact ⟨q'.1, q'.2.1, e1, rfl⟩
  · obtain ⟨j, hj⟩ := List.mem_iff_getElem?.mp hx
    obtain ⟨b, e3, e4, e5⟩ := hpr j x hj
    obtain ⟨o1, its1, n1, f1, f2, f3, f4⟩ := e5
    exact ⟨o1, its1, n1, hk _ _ (Nat.ne_of_lt (Heap.lt_size f1)) (fun z => nomatch z) f1, f2, f3, f4⟩
  · have hm : (s.heap.objs.size == sysModules) = false := beq_eq_false_iff_ne.mpr (Nat.ne_of_gt I.big)
    rw [storedAllH_nodup prs [] (by rw [List.nil_append, ekeys]; exact nd), List.nil_append] at hd'
    obtain ⟨o', es, ep, h1, h2, h3, h4, h5, h6⟩ := hd'
    have hn := I.hok.fresh (Nat.le_refl s.heap.objs.size)
    refine ⟨.ref s.heap.objs.size, upd H s.heap.objs.size (.dT (kvs.map fun x => (x.1, x.2.2))), I.laid (t' := tk) (fun b u e => hk b u (fun z => nomatch z) e) (Nat.le_refl _) (show ObjOk X.prog X.w _ _ _ (.dT _) from ⟨by rw [List.length_map]; omega, hm, prs, ?_, o', es, ep, h1, h2, h3, h4, by rw [ekeys]; exact nd⟩), rfl, q _ hn⟩
    have := paired_map (G := fun (p : List Key × V) (q : List Key × Addr × Value) => p.1 = q.1 ∧ upd H s.heap.objs.size (.dT (kvs.map fun x => (x.1, x.2.2))) q.2.1 = some (.tup (p.1.map kV)) ∧ RelV p.2 q.2.2) (f := fun x : List Key × Addr × V => (x.1, x.2.2)) (g := fun x : List Key × Addr × Value => x) rel fun p q ⟨r1, r2, r3, r4⟩ => ⟨r1, by rw [upd_ne (ne_of_none r3 hn)]; exact r3, r4⟩
    rw [List.map_id'] at this
    exact this
end
end Mi
end
section
set_option maxRecDepth 100000
set_option maxHeartbeats 1000000
/-! Statements about dicts. -/
namespace Mi
open PySem PySem.Spec PyProof.Rows L2
section
variable {R : Addr} {H0 H H1 H2 : Hp} {Z0 : Addr → Prop} {O : Nat → Addr → Prop} {ρ : SEnv} {σ : L2.St}
theorem rep_updD {S : Addr → Prop} {p : Addr} {o : HO} {kvs : List (List L2.Key × V)} {d : D} {v : V} (hp : H p = some (.dT kvs)) (h : Rep S H d v) : Rep S (upd H p o) d v :=
  Rep.mono (fun a ys h1 h2 => ⟨h1, by rw [upd_ne (ne_of h2 hp (fun z => by cases z))]; exact h2⟩) (fun a ys h => by rw [upd_ne (ne_of h hp (fun z => by cases z))]; exact h) d v h
theorem frs_updD {K : PySem.W.Frag} {sc p : Addr} {xs : List V} {o : HO} {kvs : List (List L2.Key × V)} (h : FrS K H sc xs) (hd : H p = some (.dT kvs)) : FrS K (upd H p o) sc xs := by
  rcases h with ⟨q, h⟩ | h
  · exact .inl ⟨q, by rw [upd_ne (ne_of h hd (fun z => by cases z))]; exact h⟩
  · exact .inr h
theorem tabs_updD {T : List (Addr × Str)} {p : Addr} {o : HO} {kvs : List (List L2.Key × V)} (hd : H p = some (.dT kvs)) (h : LamX.Tabs T H) : LamX.Tabs T (upd H p o) := fun q hq => by
  obtain ⟨ps, h1, h2, h3⟩ := h q hq
  have ne : ∀ {b : Addr} {u : HO}, H b = some u → (∀ xs, u ≠ .dT xs) → b ≠ p := fun e n z => by
    rw [z, hd] at e
    exact n kvs (Option.some.inj e).symm
  refine ⟨ps, by rw [upd_ne (ne h1 fun xs z => nomatch z)]; exact h1, h2, fun pos cv hc => ?_⟩
  obtain ⟨c, e1, e2⟩ := h3 pos cv hc
  exact ⟨c, e1, by rw [upd_ne (ne e2 fun xs z => by unfold LamX.CodeO at z; cases z)]; exact e2⟩
theorem gr_updD {K : PySem.W.Frag} {sc p : Addr} {g : G} {o : HO} {kvs : List (List L2.Key × V)} (h : GR K R sc H g) (hd : H p = some (.dT kvs)) : GR K R sc (upd H p o) g := by
  obtain ⟨h1, h3, h4⟩ := h
  exact ⟨by rw [upd_ne (ne_of h1 hd (fun z => by cases z))]; exact h1, frs_updD h3 hd, tabs_updD hd h4⟩
/-- a new dict -/
theorem StOk.dnew (st : StOk R H0 Z0 O ρ σ H) (x : Ext R H H1) (hR : H1 R ≠ none) (i : Nat) {p : Addr} (np : H1 p = none) {es : List (List L2.Key × D)} {kvs : List (List L2.Key × V)} (r : RepK (fun a => H a = none) H1 es kvs) :
    StOk R H0 Z0 (setO O i fun a => H a = none ∧ upd H1 p (.dT kvs) a ≠ none) (ρ.set i (.dcm es)) (σ.set i (some (.ref p))) (upd H1 p (.dT kvs)) ∧ Ev R O H (setO O i fun a => H a = none ∧ upd H1 p (.dT kvs) a ≠ none) (upd H1 p (.dT kvs)) := by
  have sm : Same H1 (upd H1 p (.dT kvs)) := same_upd np
  have x2 : Ext R H (upd H1 p (.dT kvs)) := x.trans (Ext.same sm)
  have hR2 : upd H1 p (.dT kvs) R ≠ none := thr_same sm R hR
  have ev : Ev R O H (setO O i fun a => H a = none ∧ upd H1 p (.dT kvs) a ≠ none) (upd H1 p (.dT kvs)) := (Ev.ext x2 hR2).setO fun a z => .inr z.1
  refine ⟨st.step ev i (fun a h => ?_) (fun j a n h z => ?_) (fun j n => setO_ne n) (fun j a o n h e => x2.keep a o (st.oR h) e) (fun j a o m n h e => x2.dk a o m e) (List.length_set) (fun j n => List.getElem?_set_ne (Ne.symm n)) (fun hi => ?_), ev⟩
  · rw [setO_self] at h; exact h.2
  · rw [setO_self] at h; exact (st.o0 j a z).2 h.1
  · rw [lset_self hi, setO_self]
    exact ⟨p, kvs, rfl, ⟨x.none hR np, by rw [upd_same]; exact fun z => nomatch z⟩, upd_same, r.imp fun _ _ r => (r.same sm).alloc⟩
/-- an own dict is changed, or locked -/
theorem StOk.mutD (st : StOk R H0 Z0 O ρ σ H) (x : Ext R H H2) (hR : H2 R ≠ none) {i : Nat} {a : Addr} {kvs : List (List L2.Key × V)} {o : HO} {s : Sl} {P : Addr → Prop} (ha : O i a) (h2 : H2 a = some (.dT kvs)) (hP : ∀ b, P b → O i b ∨ (H b = none ∧ H2 b ≠ none))
    (hs : SlOk R (Fz Z0 H0 (setO O i P)) P (upd H2 a o) σ[i]? s) : StOk R H0 Z0 (setO O i P) (ρ.set i s) σ (upd H2 a o) ∧ Ev R O H (setO O i P) (upd H2 a o) := by
  have th : ∀ b, H2 b ≠ none → upd H2 a o b ≠ none := fun b h => by
    by_cases e : b = a
    · subst e; rw [upd_same]; exact fun z => nomatch z
    · rw [upd_ne e]; exact h
  have ev : Ev R O H (setO O i P) (upd H2 a o) := by
    refine ⟨fun j b h => ?_, fun b xs n h ho => ?_, fun b u m h ho => ?_, fun b xs h => ?_, fun b h => th b (ext_there x hR b h)⟩
    · rcases setO_own h with z | z
      · exact (hP b z).elim (fun w => .inl ⟨i, w⟩) fun w => .inr w.1
      · exact .inl ⟨j, z.2⟩
    · rw [upd_ne (fun (z : b = a) => ho i (z ▸ ha))]
      exact x.keep b xs n h
    · rw [upd_ne (fun (z : b = a) => ho i (z ▸ ha))]
      exact x.dk b u m h
    · have h' := x.tups b xs h
      rw [upd_ne (ne_of h' h2 fun z => nomatch z)]
      exact h'
  refine ⟨st.step ev i (fun b h => ?_) (fun j b n h z => ?_) (fun j n => setO_ne n) (fun j b xs n h e => ?_) (fun j b u m n h e => ?_) rfl (fun j n => rfl) (fun hi => by rw [setO_self]; exact hs), ev⟩
  · rw [setO_self] at h
    exact th b ((hP b h).elim (fun w => ext_there x hR b (st.o0 i b w).2) fun w => w.2)
  · rw [setO_self] at h
    exact (hP b h).elim (fun w => n (st.dj j i b z w)) fun w => (st.o0 j b z).2 w.1
  · rw [upd_ne (fun (z : b = a) => n (st.dj j i b h (z ▸ ha)))]
    exact x.keep b xs (st.oR h) e
  · rw [upd_ne (fun (z : b = a) => n (st.dj j i b h (z ▸ ha)))]
    exact x.dk b u m e
end
section
variable {X : Cx} {W : WX} {F F' : Den} {a b c e : Expr} {pos p p2 p3 : Pos} {i : Nat} {y : Str}
def dnewF (i : Nat) : DenS := fun ρ g => some (.nx (ρ.set i (.dcm [])) g)
theorem ms_dnew (hN : X.N.Nodup) (hi : X.N[i]? = some y) (hx : L2.Loc X.env.scope y) (hw : swapsWith (.Dict [] [] p2) (some (.Name y p)) pos.line X.env = pure false) (hf : X.fn y = true ∨ X.env.scope.names.lookup y = some .local) :
    PS X (.Assign [.Name y p] (.Dict [] [] p2) pos) (TSx X.K W (dnewF i)) := (ps_set hN hi hx pe_dnewT hw hf).weak fun D σ H ⟨R, sc, H0, Z0, O, ρ, g, out, st, gr, e, q⟩ => by
  cases e
  intro q0 np
  obtain ⟨st1, ev1⟩ := st.dnew (Ext.refl R H) gr.ne i np (es := []) (kvs := []) .nil
  exact q _ _ _ st1 ev1 (gr.same (same_upd np))
theorem pairsE_rep {K : PySem.W.Frag} {S : Addr → Prop} {H : Hp} : ∀ {ds : List D} {es : List (List L2.Key × D)} {vs : List V}, pairsE ds = some es → RepA S H ds vs →
    ∃ (ps : List Addr) (kvs : List (List L2.Key × Addr × V)), vs = ps.map V.ref ∧ Paired (PrT K H) ps kvs ∧ RepK S H es (kvs.map fun x => (x.1, x.2.2)) ∧ kvs.map (·.1) = es.map (·.1)
  | [], es, vs, e, r => by
    cases e
    rw [r.nil_inv]
    exact ⟨[], [], rfl, .nil, .nil, rfl⟩
  | .tuple [k, v] :: ds, es, vs, e, r => by
    unfold pairsE at e
    split at e
    · cases e
    · rename_i kk ek
      split at e
      · cases e
      · rename_i es' e'
        cases e
        obtain ⟨u, rs, rfl, r1, r2⟩ := r.inv
        obtain ⟨ps, kvs, rfl, h1, h2, h3⟩ := pairsE_rep (K := K) e' r2
        obtain ⟨t, ws, rfl, ht, rA⟩ := r1.tuple_inv
        obtain ⟨kv, ws', rfl, rk, rB⟩ := rA.inv
        obtain ⟨vv, ws'', rfl, rv, rC⟩ := rB.inv
        rw [rC.nil_inv] at ht
        obtain ⟨b, rfl, hb⟩ := dkeyD_rep ek rk
        exact ⟨t :: ps, (kk, b, vv) :: kvs, rfl, .cons ⟨SqT.of ht, hb⟩ h1, .cons ⟨rfl, rv⟩ h2, by rw [List.map_cons, List.map_cons, h3]⟩
  | .none :: _, _, _, e, _ => by cases e
  | .bool _ :: _, _, _, e, _ => by cases e
  | .int _ :: _, _, _, e, _ => by cases e
  | .str _ :: _, _, _, e, _ => by cases e
  | .list _ :: _, _, _, e, _ => by cases e
  | .dict _ :: _, _, _, e, _ => by cases e
  | .tuple [] :: _, _, _, e, _ => by cases e
  | .tuple [_] :: _, _, _, e, _ => by cases e
  | .tuple (_ :: _ :: _ :: _) :: _, _, _, e, _ => by cases e
def dofF (i : Nat) (F : Den) : DenS := fun ρ g => match F ρ.x g with
    | some (.list ds, .fr, g1) => (match pairsE ds with
      | none => none
      | some es => if (es.map (·.1)).Nodup then some (.nx (ρ.set i (.dcm es)) g1) else none)
    | _ => none
theorem ms_dof (hN : X.N.Nodup) (hi : X.N[i]? = some y) (hx : L2.Loc X.env.scope y) (hc : X.calm = true) (hu : X.A.units + 64 < cLine) (hg : Gl X "dict") (hm : X.mg "dict" = none) (h : PE X a (TEx X.K F)) (hs : starEach [a] X.env = (false, eval a X.env) :: starEach [] X.env) (hpl : (backTo p3 (starEach [] X.env)).any (·.1) = false)
    (hw : swapsWith (.Call (.Name "dict" p2) [a] [] p3) (some (.Name y p)) pos.line X.env = pure false) (hf : X.fn y = true ∨ X.env.scope.names.lookup y = some .local) :
    PS X (.Assign [.Name y p] (.Call (.Name "dict" p2) [a] [] p3) pos) (TSx X.K W (dofF i F)) := (ps_set hN hi hx (pe_callTy (call_dictPT hc hu) hg hm PyProof.Rows.boot_dict (pa_cons h pa_nil hs) (by decide) (by decide) hs hpl) hw hf).weak fun D σ H ⟨R, sc, H0, Z0, O, ρ, g, out, st, gr, e, q⟩ => by
  unfold dofF at e
  split at e
  · rename_i ds g1 e1
    split at e
    · cases e
    · rename_i es ep
      split at e
      · rename_i nd
        cases e
        refine ev_e0 st gr e1 fun v H2 x gr2 r => ?_
        obtain ⟨a0, vs, rfl, ha, hl, rA⟩ := r.list_inv
        obtain ⟨ps, kvs, rfl, h1, h2, h3⟩ := pairsE_rep (K := X.K) ep rA
        refine ⟨a0, ps, kvs, rfl, SqL.of hl, h1, by rw [h3]; exact nd, fun q0 np => ?_⟩
        obtain ⟨st1, ev1⟩ := st.dnew x gr2.ne i np h2
        exact q _ _ _ st1 ev1 (gr2.same (same_upd np))
      · cases e
  · cases e
theorem putE_rep {S : Addr → Prop} {H : Hp} {k : List L2.Key} {d : D} {v : V} (rv : Rep S H d v) {es : List (List L2.Key × D)} {kvs : List (List L2.Key × V)} (h : RepK S H es kvs) : RepK S H (putE es k d) (putK kvs k v) := by
  have any : (es.any fun p => decide (p.1 = k)) = kvs.any fun p => decide (p.1 = k) := by
    induction h with
    | nil => rfl
    | cons h t ih => rw [List.any_cons, List.any_cons, ih, h.1]
  unfold putE putK
  rw [any]
  split
  · clear any
    rename_i hh
    clear hh
    induction h with
    | nil => exact .nil
    | cons h t ih =>
      rw [List.map_cons, List.map_cons]
      refine .cons ?_ ih
      rw [h.1]
      split
      · exact ⟨rfl, rv⟩
      · exact h
  · clear any
    rename_i hh
    clear hh
    induction h with
    | nil => exact .cons ⟨rfl, rv⟩ .nil
    | cons h t ih => exact .cons h ih
def dputF (i : Nat) (F F' : Den) : DenS := fun ρ g => match F' ρ.x g with
    | none => none
    | some (d, t, g1) => match F ρ.x g1 with
      | none => none
      | some (x, _, g2) => match ρ[i]? with
        | some (.dcm es) => (match dkeyD x with
          | none => none
          | some k => if fresh d t && decide (es.length < 1000000) then some (.nx (ρ.set i (.dcm (putE es k d))) g2) else none)
        | _ => none
theorem repK_len {S : Addr → Prop} {H : Hp} : ∀ {es : List (List L2.Key × D)} {kvs : List (List L2.Key × V)}, RepK S H es kvs → kvs.length = es.length
  | _, _, .nil => rfl
  | _, _, .cons h t => by rw [List.length_cons, List.length_cons, repK_len t]
theorem ms_dput (hu : X.A.units + 64 < cLine) (h : PE X a (tVar i)) (h' : PE X b (TEx X.K F)) (h'' : PE X c (TEx X.K F')) (hs : swapsWith c (some (.Subscript a b p)) pos.line X.env = pure false) :
    PS X (.Assign [.Subscript a b p] c pos) (TSx X.K W (dputF i F F')) := (ps_dput (by omega) h h' h'' hs).weak fun D σ H ⟨R, sc, H0, Z0, O, ρ, g, out, st, gr, e, q⟩ => by
  unfold dputF at e
  split at e
  · cases e
  · rename_i d t g1 e1
    split at e
    · cases e
    · rename_i xx t2 g2 e2
      split at e
      · rename_i es hi
        split at e
        · cases e
        · rename_i k ek
          split at e
          · rename_i hc
            cases e
            rw [Bool.and_eq_true, decide_eq_true_eq] at hc
            obtain ⟨a0, kvs, ev, ho, hd, hr⟩ := st.sl i _ hi
            refine ev_e0 st gr e1 fun v H1 x1 gr1 r1 => ?_
            refine ⟨.ref a0, ev, ev_x st x1 gr1 e2 fun yv H3 x3 gr3 r3 => ?_⟩
            have rn := fresh_rep r1 hc.1
            have x13 := x1.trans x3
            obtain ⟨b0, rfl, hb⟩ := dkeyD_rep ek r3
            have hd3 : H3 a0 = some (.dT kvs) := x13.dk _ _ rfl hd
            refine ⟨a0, _, rfl, DPut.t hd3 hb (line1 hc.2 (by rw [repK_len hr]; exact Nat.le_refl _)), ?_⟩
            have rn3 : Rep (fun b => H b = none ∧ H3 b ≠ none) H3 d v := (rn.ext x3 fun z => (gr.ne) z.1).sub fun b z => ⟨z.1, by
              by_cases eR : b = R
              · rw [eR]; exact gr3.ne
              · exact x3.thr b eR z.2⟩
            have hr3 : RepK (O i) H3 es kvs := hr.imp fun _ _ r => r.ext x13 fun z => st.oR z rfl
            obtain ⟨st3, ev3⟩ := st.mutD x13 gr3.ne (o := .dT (putK kvs k v)) (s := .dcm (putE es k d)) (P := fun b => O i b ∨ (H b = none ∧ H3 b ≠ none)) ho hd3 (fun b z => z) ⟨a0, _, ev, .inl ho, upd_same,
              (putE_rep (rn3.sub fun b z => .inr z) (hr3.imp fun _ _ r => r.sub fun b z => .inl z)).imp fun _ _ r => rep_updD hd3 r⟩
            exact q _ _ _ st3 ev3 (gr_updD gr3 hd3)
          · cases e
      · cases e
/-- a dict may be locked ahead of a statement -/
theorem _root_.L2.PS.lockD {X : Cx} {st : Stmt} {t : TS} (h : PS X st t) : PS X st (fun D σ H => t D σ H ∨ ∃ (a : Addr) (kvs : List (List L2.Key × V)), H a = some (.dT kvs) ∧ ∀ od, t D σ (upd H a (.frz od (.dT kvs)))) := ⟨fun pins s σ H D I q => by
  rcases q with q | ⟨a, xs, e, q⟩
  · exact h.run pins s σ H D I q
  · obtain ⟨od, I1⟩ := I.lock e trivial
    exact h.run pins s σ _ D I1 (q od)⟩
def forDF (tg : Tg) (i : Nat) (FB : DenS) : DenS := fun ρ g => match ρ[i]? with
    | some (.dcm es) => forL tg .fz FB (es.map fun p => keyE p.1) (ρ.set i (.dcl es)) g
    | some (.dcl es) => forL tg .fz FB (es.map fun p => keyE p.1) ρ g
    | _ => none
theorem keyE_rep {S : Addr → Prop} {H : Hp} {k : List L2.Key} {q : Addr} (h : H q = some (.tup (k.map kV))) : Rep S H (keyE k) (.ref q) := by
  refine Rep.tuple h ?_
  clear h
  induction k with
  | nil => exact .nil
  | cons x k ih =>
    refine .cons ?_ ih
    cases x with
    | inl i => exact .int _
    | inr i => exact .str _
theorem repK_at {S : Addr → Prop} {H : Hp} : ∀ {es : List (List L2.Key × D)} {kvs : List (List L2.Key × V)} {i : Nat} {p : List L2.Key × V}, RepK S H es kvs → kvs[i]? = some p → (es.map fun p => keyE p.1)[i]? = some (keyE p.1)
  | _, _, _, _, .nil, e => by simp at e
  | _, _, 0, _, .cons h t, e => by
    cases e
    rw [List.map_cons, h.1]
    rfl
  | _, _, i + 1, _, .cons h t, e => by
    rw [List.getElem?_cons_succ] at e
    rw [List.map_cons, List.getElem?_cons_succ]
    exact repK_at t e
theorem ms_forD {tgx : Expr} {tg : Tg} {B : List Stmt} {FB : DenS} (hp : PassesOwn (model X.prog X.w) X.A X.env X.xe) (hc : X.calm = true) (hi : PE X a (tVar i)) (hg : PG X tgx (gT X.K tg)) (hb : PSs X B (TSx X.K W FB))
    (hs : ∀ x, foldedSetIterable a X.env x = pure x) : PS X (.For tgx a B [] pos) (TSx X.K W (forDF tg i FB)) := (PS.lockD (ps_for hp hc (pi_keys hi) hg hb hs)).weak fun D σ H ⟨R, sc, H0, Z0, O, ρ, g, out, st, gr, e, q⟩ => by
  -- the walk over a locked dict
  have core : ∀ {O1 : Nat → Addr → Prop} {S : Addr → Prop} {ρ1 : SEnv} {H1 : Hp} {es : List (List L2.Key × Mi.D)} {a0 : Addr} {kvs : List (List L2.Key × V)} {od : Obj}, StOk R H0 Z0 O1 ρ1 σ H1 → Ev R O H O1 H1 → GR X.K R sc H1 g → σ[i]? = some (some (.ref a0)) → H1 a0 = some (.frz od (.dT kvs)) → (∀ j, ¬ O1 j a0) → RepK S H1 es kvs → forL tg .fz FB (es.map fun p => keyE p.1) ρ1 g = some out →
      tFor (iKeys (tVar i)) (gT X.K tg) (TSx X.K W FB) D σ H1 := fun {O1 S ρ1 H1 es a0 kvs od} st1 ev1 gr1 hσ hd ho hr e' => by
    have q1 := q.after ev1
    have hlen := repK_len hr
    refine ⟨.ref a0, hσ, a0, od, rfl, .inr ⟨kvs, hd, ?_⟩⟩
    refine ⟨fun j m σ2 H2 => ∃ O2 ρ2 g2, m + j = kvs.length ∧ StOk R H0 Z0 O2 ρ2 σ2 H2 ∧ Ev R O1 H1 O2 H2 ∧ GR X.K R sc H2 g2 ∧ forL tg .fz FB ((es.map fun p => keyE p.1).drop j) ρ2 g2 = some out, ⟨kvs.length, O1, ρ1, g, rfl, st1, Ev.refl, gr1, by rw [List.drop_zero]; exact e'⟩, ?_⟩
    rintro j m σ2 H2 ⟨O2, ρ2, g2, hm, st2, ev2, gr2, e2⟩
    have hd2 : H2 a0 = some (.frz od (.dT kvs)) := ev2.dk _ _ rfl hd ho
    cases hdr : (es.map fun p => keyE p.1).drop j with
    | nil =>
      rw [hdr] at e2
      cases e2
      have hj : kvs.length ≤ j := by
        have := congrArg List.length hdr
        rw [List.length_drop, List.length_map] at this
        simp at this
        omega
      exact .inl ⟨⟨hd2, hj⟩, q1 σ2 H2 O2 st2 ev2 gr2⟩
    | cons d r =>
      rw [hdr] at e2
      obtain ⟨hx, hr2⟩ := drop_of hdr
      have hlt : j < kvs.length := by
        have := congrArg List.length hdr
        rw [List.length_drop, List.length_cons, List.length_map] at this
        omega
      refine .inr ⟨⟨hd2, hlt⟩, fun σ' H' => ∃ O' ρ' g', (m - 1) + (j + 1) = kvs.length ∧ StOk R H0 Z0 O' ρ' σ' H' ∧ Ev R O1 H1 O' H' ∧ GR X.K R sc H' g' ∧ forL tg .fz FB ((es.map fun p => keyE p.1).drop (j + 1)) ρ' g' = some out, fun σ' H' z => ⟨m - 1, by omega, z⟩, fun v H3 y => ?_⟩
      obtain ⟨rfl, k, vv, qa, hk, rfl, hq⟩ := y
      have ed : d = keyE k := by
        have := repK_at hr hk
        rw [this] at hx
        exact (Option.some.inj hx).symm
      subst ed
      unfold forL at e2
      split at e2
      · cases e2
      · rename_i ρ3 e3
        refine putT_ok st2 (keyE_rep hq) e3 fun σ4 O4 st4 ev4 => ?_
        split at e2
        · cases e2
        · rename_i ρ5 g5 e5
          exact ⟨R, sc, H0, Z0, O4, ρ3, g2, _, st4, gr2, e5, fun σ' H' O' a b c => ⟨O', ρ5, g5, by omega, a, (ev2.trans ev4).trans b, c, by rw [hr2]; exact e2⟩⟩
        · rename_i d5 u5 g5 e5
          cases e2
          exact ⟨R, sc, H0, Z0, O4, ρ3, g2, _, st4, gr2, e5, q⟩
        · rename_i c5 ρ5 g5 e5
          cases e2
          obtain ⟨C, hC, q1⟩ := q1
          exact ⟨R, sc, H0, Z0, O4, ρ3, g2, _, st4, gr2, e5, C, hC, fun σ' H' O' a b c => q1 σ' H' O' a ((ev2.trans ev4).trans b) c⟩
  unfold forDF at e
  split at e
  · rename_i es hi
    obtain ⟨a0, kvs, ev, ho, hd, hr⟩ := st.sl i _ hi
    refine .inr ⟨a0, kvs, hd, fun od => ?_⟩
    have fzn : ∀ b, O i b → Fz Z0 H0 (setO O i fun _ => False) b := fun b z => ⟨.inr (st.o0 i b z).1, fun j w => (setO_own w).elim id fun w => w.1 (st.dj j i b w.2 z)⟩
    have hr' : RepK (Fz Z0 H0 (setO O i fun _ => False)) (upd H a0 (.frz od (.dT kvs))) es kvs := hr.imp fun _ _ r => (rep_updD hd r).sub fzn
    obtain ⟨st1, ev1⟩ := st.mutD (Ext.refl R H) gr.ne (o := .frz od (.dT kvs)) (s := .dcl es) (P := fun _ => False) ho hd (fun b z => z.elim) ⟨a0, kvs, od, ev, fzn a0 ho, upd_same, hr'⟩
    exact core st1 ev1 (gr_updD gr hd) ev upd_same (fzn a0 ho).2 hr' e
  · rename_i es hi
    obtain ⟨a0, kvs, od, ev, ho, hd, hr⟩ := st.sl i _ hi
    exact .inl (core st Ev.refl gr ev hd ho.2 hr e)
  · cases e
end
end Mi
end
section
set_option maxRecDepth 100000
set_option maxHeartbeats 1000000
/-! A statement of the text against one of the small language; that its meaning is what the machine does. -/
namespace Mi
open PySem PySem.Spec PyProof.Rows L2
theorem _root_.L2.PS.weakI {X : Cx} {e : Stmt} {t t' : TS} (h : PS X e t) (w : ∀ D σ H, σ.length = X.N.length → t' D σ H → t D σ H) : PS X e t' := ⟨fun pins s σ H D I q => h.run pins s σ H D I (w _ _ _ I.len q)⟩
/-- no comprehension -/
def noComp : Expr → Bool
  | .ListComp .. => false
  | .SetComp .. => false
  | .DictComp .. => false
  | _ => true
theorem swW_no {e : Expr} {t : Option Expr} {l : Nat} {env : Env} (h : noComp e = true) : swapsWith e t l env = pure false := by
  cases e <;> first
    | rfl
    | cases h
theorem swS_no {e t : Expr} {l : Nat} {env : Env} (h : noComp e = true) : swapsWithSole [t] e l env = pure false := swW_no h
/-- stored as the comprehension goes -/
def swL (sc : Scope) (y : Str) (py : Pos) (value : Expr) : Bool := match value with
  | .ListComp _ _ s _ => sc.kind == .function && sc.names.lookup y == some .local && py.line == value.pos.line && !(s.names.any fun (n, k) => n == y && (k == .local || k == .cell))
  | _ => false
theorem kind_fn {env : Env} (h : env.scope.kind = .function) : env.blockKind = .function := by
  unfold Env.blockKind
  rw [h]
  rfl
theorem swL_eq {sc : Scope} {y : Str} {py : Pos} {elt : Expr} {gs : List Comprehension} {s : Scope} {p : Pos} {l : Nat} {env : Env} (hsc : env.scope = sc) (hk : sc.kind = .function) : swapsWith (.ListComp elt gs s p) (some (.Name y py)) l env = pure (swL sc y py (.ListComp elt gs s p)) := by
  subst hsc
  unfold swapsWith swL
  simp only [kind_fn hk, hk, Env.kindOf]
def swNames (sc : Scope) (ts : List Expr) : List Str := ts.filterMap fun
    | .Name id pos => if sc.names.lookup id == some .local && pos.line == (ts.head?.map (·.pos.line)).getD 0 then some id else none
    | _ => none
def notTuple : Expr → Bool
  | .Tuple .. => false
  | _ => true
theorem sws_plain {ts : List Expr} {k : Nat} {p : Pos} {e : Expr} {env : Env} (h : notTuple e = true) : swappedStores [.Tuple ts k p] e env = pure none := by
  cases e <;> first
    | rfl
    | cases h
theorem sws_none {sc : Scope} {ts vs : List Expr} {k k' : Nat} {p p' : Pos} {env : Env} (hsc : env.scope = sc) (h : ((swNames sc ts).length != ts.length || vs.all (foldedForSure 8)) = true) : swappedStores [.Tuple ts k p] (.Tuple vs k' p') env = pure none := by
  subst hsc
  unfold swappedStores
  dsimp only
  split
  · rfl
  · split
    · rfl
    · split
      · rfl
      · rename_i h3
        rw [Bool.or_eq_true] at h
        rcases h with h | h
        · exfalso
          apply h3
          rw [Bool.or_eq_true]
          exact .inl h
        · rw [if_pos h]
theorem sws_some {sc : Scope} {ts vs : List Expr} {k k' : Nat} {p p' : Pos} {env : Env} {ns : List Str} (hsc : env.scope = sc) (hk : sc.kind = .function) (hn : swNames sc ts = ns) (h2 : (ts.length == 2 || ts.length == 3) = true) (h3 : vs.length = ts.length) (h4 : vs.all plainX = true) (h5 : ns.length = ts.length) (h6 : ns.eraseDups.length = ns.length)
    (h7 : vs.all (foldedForSure 8) = false) (h8 : vs.all (constantsAlone 8) = false) : swappedStores [.Tuple ts k p] (.Tuple vs k' p') env = pure (some ns) := by
  subst hsc
  have e4 : (vs.any fun | .Starred .. => true | _ => false) = false := by
    rw [List.any_eq_false]
    intro x hx
    have := List.all_eq_true.mp h4 x hx
    cases x <;> first
      | exact Bool.false_ne_true
      | cases this
  have hn' : (ts.filterMap fun
    | .Name id pos => if env.kindOf id == some .local && pos.line == (ts.head?.map (·.pos.line)).getD 0 then some id else none
    | _ => none) = ns := hn
  have hb := kind_fn (env := env) hk
  unfold swappedStores
  dsimp only
  refine (if_neg (by rw [h2, hb, h3]; simp)).trans ((if_neg ?_).trans ?_)
  · intro z
    exact Bool.false_ne_true (e4.symm.trans z)
  · have hn2 : (List.filterMap _ ts) = ns := hn'
    refine (if_neg ?_).trans ?_
    · intro z
      have z' : (ns.length != ts.length || ns.eraseDups.length != ns.length) = true := by rw [← hn']; exact z
      rw [h5, h6, h5] at z'
      simp at z'
    · rw [h7, h8]
      show pure (some _) = _
      exact congrArg (fun z => pure (some z)) hn'
section
variable (M : MTab) (tbl : TblS) (N : List Str)
mutual
def okS (sc : Scope) : S → Stmt → Bool
  | .asg i fz e, st => match st with
    | .Assign [.Name y p] x _ => tgtN N sc i (.Name y p) && (if noComp x then okE M tbl N sc e x else (match x with
      | .ListComp _ _ _ _ => (!(swL sc y p x) || (sc.names.lookup y == some .local)) && okE M tbl N sc e x
      | _ => false))
    | _ => false
  | .tup is fz e, st => match st with
    | .Assign [.Tuple ts k p] x _ => okT N sc (.many is) (.Tuple ts k p) && noComp x && (match x with
      | .Tuple vs _ _ => (swNames sc ts).length != ts.length || vs.all (foldedForSure 8)
      | _ => true) && okE M tbl N sc e x
    | _ => false
  | .par2 i j a b, st => match st with
    | .Assign [.Tuple [.Name x px, .Name y py] k p] (.Tuple [a', b'] _ _) _ => okT N sc (.many [i, j]) (.Tuple [.Name x px, .Name y py] k p) && plainX a' && plainX b' && okE M tbl N sc a a' && okE M tbl N sc b b' &&
        (((swNames sc [.Name x px, .Name y py]).length != 2 || [a', b'].all (foldedForSure 8)) || (decide (swNames sc [.Name x px, .Name y py] = [x, y]) && decide (sc.names.lookup x = some .local) && decide (sc.names.lookup y = some .local) && decide (i ≠ j) && decide ([x, y].eraseDups.length = 2) && !([a', b'].all (constantsAlone 8)) && !([a', b'].all (foldedForSure 8))))
    | _ => false
  | .par3 i j l a b c, st => match st with
    | .Assign [.Tuple [.Name x px, .Name y py, .Name z pz] k p] (.Tuple [a', b', c'] _ _) _ => okT N sc (.many [i, j, l]) (.Tuple [.Name x px, .Name y py, .Name z pz] k p) && plainX a' && plainX b' && plainX c' && okE M tbl N sc a a' && okE M tbl N sc b b' && okE M tbl N sc c c' &&
        (((swNames sc [.Name x px, .Name y py, .Name z pz]).length != 3 || [a', b', c'].all (foldedForSure 8)) || (decide (swNames sc [.Name x px, .Name y py, .Name z pz] = [x, y, z]) && decide (sc.names.lookup x = some .local) && decide (sc.names.lookup y = some .local) && decide (sc.names.lookup z = some .local) && decide (i ≠ j) && decide (i ≠ l) && decide (j ≠ l) && decide ([x, y, z].eraseDups.length = 3) && !([a', b', c'].all (constantsAlone 8)) && !([a', b', c'].all (foldedForSure 8))))
    | _ => false
  | .app i e, st => match st with
    | .Expr (.Call (.Attribute (.Name y _) m apos) [x] [] cpos) _ => decide (m = "append") && okV N sc i y && plainX x && decide ((apos.endLine == cpos.line) = true) && okE M tbl N sc e x
    | _ => false
  | .ext i e, st => match st with
    | .Expr (.Call (.Attribute (.Name y _) m apos) [x] [] cpos) _ => decide (m = "extend") && okV N sc i y && plainX x && decide ((apos.endLine == cpos.line) = true) && okE M tbl N sc e x
    | _ => false
  | .rem i e, st => match st with
    | .Expr (.Call (.Attribute (.Name y _) m apos) [x] [] cpos) _ => decide (m = "remove") && okV N sc i y && plainX x && decide ((apos.endLine == cpos.line) = true) && okE M tbl N sc e x
    | _ => false
  | .apo i j e, st => match st with
    | .Expr (.Call (.Attribute (.Name y _) m apos) [.Call (.Attribute (.Name z _) m2 apos2) [x] [] cpos2] [] cpos) _ => decide (m = "append") && okV N sc i y && decide (m2 = "pop") && okV N sc j z && plainX x && decide ((apos.endLine == cpos.line) = true) && decide ((apos2.endLine == cpos2.line) = true) && okE M tbl N sc e x
    | _ => false
  | .ins i a b, st => match st with
    | .Expr (.Call (.Attribute (.Name y _) m apos) [x, z] [] cpos) _ => decide (m = "insert") && okV N sc i y && plainX x && plainX z && decide ((apos.endLine == cpos.line) = true) && okE M tbl N sc a x && okE M tbl N sc b z
    | _ => false
  | .sto i a b, st => match st with
    | .Assign [.Subscript (.Name y _) z _] x _ => okV N sc i y && plainX z && noComp x && okE M tbl N sc a z && okE M tbl N sc b x
    | _ => false
  | .spo i k e, st => match st with
    | .Expr (.Call (.Attribute (.Subscript (.Name y _) (.Constant (.int j) _ _) _) m apos) [x] [] cpos) _ => decide (m = "append") && okV N sc i y && decide (j = (k : Int)) && plainX x && decide ((apos.endLine == cpos.line) = true) && okE M tbl N sc e x
    | _ => false
  | .rowSet i k e, st => match st with
    | .Assign [.Subscript (.Name y _) (.Constant (.int j) _ _) _] x _ => okV N sc i y && decide (j = (k : Int)) && noComp x && okE M tbl N sc e x
    | _ => false
  | .exp e, st => match st with
    | .Expr x _ => noComp x && okE M tbl N sc e x
    | _ => false
  | .ite c a b, st => match st with
    | .If x p q _ => okW M tbl N sc c x && okSs sc a p && okSs sc b q
    | _ => false
  | .whl n c b, st => match st with
    | .While x p [] _ => okW M tbl N sc c x && okSs sc b p
    | _ => false
  | .for1 tg fz it b, st => match st with
    | .For t i p [] _ => okT N sc tg t && okI M tbl N sc it i && plainX i && okSs sc b p
    | _ => false
  | .forK tg fz e b, st => match st with
    | .For t (.Call (.Name f _) [x] [⟨some kw, .Lambda params body scope _, _⟩] _) p [] _ => M.lam && decide (f = "sorted") && decide (kw = "key") && glo sc "sorted" && M.free.contains "sorted" && M.free.contains "len" && plainX x && okLam params body scope && okT N sc tg t && okE M tbl N sc e x && okSs sc b p
    | _ => false
  | .ret e, st => match st with
    | .Return (some x) _ => okE M tbl N sc e x
    | _ => false
  | .rai, _ => true
  | .raiC c, st => match st with
    | .Raise (some (.Call (.Name x _) [.Constant (.str _) _ _] [] _)) none _ => decide (x = c) && M.exc.contains c && glo sc c
    | _ => false
  | .retX f es, st => match st with
    | .Return (some (.Call (.Name x _) (y :: ys) [] _)) _ => decide (x = f) && glo sc f && M.fns.contains (f, false) && okEs M tbl N sc es (y :: ys)
    | _ => false
  | .tryR b c d, st => match st with
    | .Try body [.ExceptHandler (some (.Name x _)) none [.Return (some (.Constant z _ _)) _] _] [] [] _ => decide (x = c) && M.exc.contains c && glo sc c && okC d z && okSs sc b body
    | _ => false
  | .dnew i, st => match st with
    | .Assign [.Name y p] (.Dict [] [] _) _ => tgtN N sc i (.Name y p)
    | _ => false
  | .dof i e, st => match st with
    | .Assign [.Name y p] (.Call (.Name f _) [x] [] _) _ => tgtN N sc i (.Name y p) && decide (f = "dict") && glo sc "dict" && M.free.contains "dict" && plainX x && okE M tbl N sc e x
    | _ => false
  | .dput i a b, st => match st with
    | .Assign [.Subscript (.Name y _) z _] x _ => okV N sc i y && noComp x && okE M tbl N sc a z && okE M tbl N sc b x
    | _ => false
  | .forD tg i b, st => match st with
    | .For t (.Name y _) p [] _ => okV N sc i y && okT N sc tg t && okSs sc b p
    | _ => false
  | .pas, st => match st with
    | .Pass _ => true
    | _ => false
def okSs (sc : Scope) : Ss → List Stmt → Bool
  | .nil, sts => sts.isEmpty
  | .cons s ss, sts => match sts with
    | st :: sts => okS sc s st && okSs sc ss sts
    | [] => false
end
end
section
variable (call : Call) (tbl : TblS)
theorem w_asg (i : Nat) (fz : List Nat) (e : E) : exec call tbl (.asg i fz e) = asgF i fz (fun ρ => evE call tbl ρ e) := by funext ρ g; rw [exec]; rfl
theorem w_tup (i fz : List Nat) (e : E) : exec call tbl (.tup i fz e) = tupSF i fz (fun ρ => evE call tbl ρ e) := by funext ρ g; rw [exec]; rfl
theorem w_par2 (i j : Nat) (a b : E) : exec call tbl (.par2 i j a b) = par2F i j (fun ρ => evE call tbl ρ a) (fun ρ => evE call tbl ρ b) := by funext ρ g; rw [exec]; rfl
theorem w_par3 (i j l : Nat) (a b c : E) : exec call tbl (.par3 i j l a b c) = par3F i j l (fun ρ => evE call tbl ρ a) (fun ρ => evE call tbl ρ b) (fun ρ => evE call tbl ρ c) := by funext ρ g; rw [exec]; rfl
theorem w_app (i : Nat) (e : E) : exec call tbl (.app i e) = appF i (fun ρ => evE call tbl ρ e) := by funext ρ g; rw [exec]; rfl
theorem w_ext (i : Nat) (e : E) : exec call tbl (.ext i e) = extF i (fun ρ => evE call tbl ρ e) := by funext ρ g; rw [exec]; rfl
theorem w_rem (i : Nat) (e : E) : exec call tbl (.rem i e) = remF i (fun ρ => evE call tbl ρ e) := by funext ρ g; rw [exec]; rfl
theorem w_apo (i j : Nat) (e : E) : exec call tbl (.apo i j e) = apoF i j (fun ρ => evE call tbl ρ e) := by funext ρ g; unfold exec; rfl
theorem w_ins (i : Nat) (a b : E) : exec call tbl (.ins i a b) = insF i (fun ρ => evE call tbl ρ a) (fun ρ => evE call tbl ρ b) := by funext ρ g; unfold exec; rfl
theorem w_sto (i : Nat) (a b : E) : exec call tbl (.sto i a b) = stoF i (fun ρ => evE call tbl ρ a) (fun ρ => evE call tbl ρ b) := by funext ρ g; unfold exec; rfl
theorem w_spo (i k : Nat) (e : E) : exec call tbl (.spo i k e) = spoF i k (fun ρ => evE call tbl ρ e) := by funext ρ g; rw [exec]; rfl
theorem w_row (i k : Nat) (e : E) : exec call tbl (.rowSet i k e) = rowSF i k (fun ρ => evE call tbl ρ e) := by funext ρ g; unfold exec; rfl
theorem w_exp (e : E) : exec call tbl (.exp e) = expF (fun ρ => evE call tbl ρ e) := by funext ρ g; rw [exec]; rfl
theorem w_ite (c : E) (a b : Ss) : exec call tbl (.ite c a b) = ifF (bF fun ρ => evE call tbl ρ c) (execs call tbl a) (execs call tbl b) := by funext ρ g; rw [exec]; rfl
theorem w_whl (n : Nat) (c : E) (b : Ss) : exec call tbl (.whl n c b) = whileN (bF fun ρ => evE call tbl ρ c) (execs call tbl b) n := by funext ρ g; rw [exec]; rfl
theorem w_for (tg : Tg) (fz : List Nat) (it : It) (b : Ss) : exec call tbl (.for1 tg fz it b) = forF tg fz (fun ρ => evI call tbl ρ it) (execs call tbl b) := by funext ρ g; rw [exec]; rfl
theorem w_forK (tg : Tg) (fz : List Nat) (e : E) (b : Ss) : exec call tbl (.forK tg fz e b) = forF tg fz (itF (sortkF fun ρ => evE call tbl ρ e)) (execs call tbl b) := by
  funext ρ g
  unfold exec forF itF sortkF
  dsimp only
  generalize evE call tbl (frz ρ fz).x e g = o
  rcases o with _ | ⟨d, t, g1⟩
  · rfl
  · cases d with
    | list ds =>
      dsimp only
      cases sortK ds <;> rfl
    | _ => rfl
theorem w_ret (e : E) : exec call tbl (.ret e) = retF (fun ρ => evE call tbl ρ e) := by funext ρ g; rw [exec]; rfl
theorem w_rai : exec call tbl .rai = fun _ _ => none := by funext ρ g; rw [exec]
theorem w_dnew (i : Nat) : exec call tbl (.dnew i) = dnewF i := by funext ρ g; rw [exec]; rfl
theorem w_dof (i : Nat) (e : E) : exec call tbl (.dof i e) = dofF i (fun ρ => evE call tbl ρ e) := by funext ρ g; rw [exec]; rfl
theorem w_dput (i : Nat) (a b : E) : exec call tbl (.dput i a b) = dputF i (fun ρ => evE call tbl ρ a) (fun ρ => evE call tbl ρ b) := by funext ρ g; rw [exec]; rfl
theorem w_forD (tg : Tg) (i : Nat) (b : Ss) : exec call tbl (.forD tg i b) = forDF tg i (execs call tbl b) := by funext ρ g; rw [exec]; rfl
theorem w_raiC (c : Str) : exec call tbl (.raiC c) = raiF c := by funext ρ g; rw [exec]; rfl
theorem w_retX (f : Str) (es : Es) : exec call tbl (.retX f es) = retXF call f (fun ρ => evEs call tbl ρ es) := by funext ρ g; rw [exec]; rfl
theorem w_tryR (b : Ss) (c : Str) (d : D) : exec call tbl (.tryR b c d) = tryF (execs call tbl b) c d := by funext ρ g; rw [exec]; rfl
theorem w_pas : exec call tbl .pas = nilF := by funext ρ g; rw [exec]; rfl
theorem w_nil : execs call tbl .nil = nilF := by funext ρ g; rw [execs]; rfl
theorem w_cons (s : S) (ss : Ss) : execs call tbl (.cons s ss) = seqF (exec call tbl s) (execs call tbl ss) := by funext ρ g; rw [execs]; rfl
end
section
variable {X : Cx} {K : PySem.W.Frag}
theorem ps_to {W : WX} {s : Stmt} {F F' : DenS} (h : PS X s (TSx K W F)) (q : F' = F) : PS X s (TSx K W F') := q ▸ h
theorem pss_to {W : WX} {s : List Stmt} {F F' : DenS} (h : PSs X s (TSx K W F)) (q : F' = F) : PSs X s (TSx K W F') := q ▸ h
end
section
variable {M : MTab} {call : Call} {tbl : TblS} {k : Nat} {N : List Str} {X : Cx} {sc : Scope}
structure SOk (M : MTab) (call : Call) (tbl : TblS) (k : Nat) (N : List Str) (X : Cx) (sc : Scope) (W : WX) : Prop extends XOk M call tbl k N X sc where
  tk : Takes X W
  stk : X.stack = X.env :: X.outer
  frm : X.env.frame = some X.env.locals
  own : PassesOwn (model X.prog X.w) X.A X.env X.xe
  fnc : ∀ y, L2.Loc sc y → X.fn y = true ∨ X.env.scope.names.lookup y = some .local
  kind : sc.kind = .function
  lam : M.lam = true → LamOk X (tabT X.K)
theorem SOk.pg {W : WX} (x : SOk M call tbl k N X sc W) {tg : Tg} {e : Expr} (h : okT N sc tg e = true) : PG X e (gT X.K tg) := pg_of x.hN x.nd x.calm (fun sc' y es hy => by rw [x.hsc, ← es]; exact hy) x.fnc h
theorem few_of {a : Expr} {env : Env} (h : plainX a = true) : starEach [a] env = [(false, eval a env)] := star_of (es := []) h
theorem par_a {a b : Expr} {F F' : Den} (h1 : PE X a (TEx X.K F)) (h2 : PE X b (TEx X.K F')) (p1 : plainX a = true) (p2 : plainX b = true) : PA X [a, b] (tCons (TEx X.K F) (tCons (TEx X.K F') tNil)) := pa_cons h1 (pa_cons h2 pa_nil (star_of p2)) (star_of p1)
theorem asgE_tup {ts : List Expr} {kk : Nat} {p : Pos} {env : Env} : (assignEach [.Tuple ts kk p] env).map (·.2) = [assign (.Tuple ts kk p) env] := rfl
theorem hsome {y : Str} (h : (sc.names.lookup y == some NameKind.local) = true) : sc.names.lookup y = some .local := by
  have : ∀ o : Option NameKind, (o == some NameKind.local) = true → o = some .local := by
    intro o h
    cases o with
    | none => cases h
    | some k => cases k <;> first
        | rfl
        | cases h
  exact this _ h
end
end Mi
end
section
set_option maxRecDepth 100000
set_option maxHeartbeats 1000000
/-! The meaning of a statement is what the machine does. -/
namespace Mi
open PySem PySem.Spec PyProof.Rows L2
section
variable {M : MTab} {call : Call} {tbl : TblS} {k : Nat} {N : List Str} {X : Cx} {sc : Scope}
theorem asg_lc {W : WX} (x : SOk M call tbl k N X sc W) {i : Nat} {fz : List Nat} {e : E} {y : Str} {p spos : Pos} {elt : Expr} {gs : List Comprehension} {scp : Scope} {q : Pos} (ht : tgtN N sc i (.Name y p) = true) (hl : sc.names.lookup y = some .local)
    (hw : swapsWith (.ListComp elt gs scp q) (some (.Name y p)) spos.line X.env = pure true) (h : okE M tbl N sc e (.ListComp elt gs scp q) = true) : PS X (.Assign [.Name y p] (.ListComp elt gs scp q) spos) (TSx X.K W (asgF i fz fun ρ => evE call tbl ρ e)) := by
  obtain ⟨y', p', e1, hi, hx⟩ := tgtN_inv ht
  cases e1
  have hi' : X.N[i]? = some y := by rw [x.hN]; exact hi
  cases e with
  | comp elt' tg it cs =>
    simp only [okE] at h
    split at h
    · rename_i y t ii ifs scope p heq
      cases heq
      simp only [Bool.and_eq_true, List.all_eq_true, decide_eq_true_eq] at h
      obtain ⟨⟨⟨⟨⟨⟨h1, h2⟩, h3⟩, h4⟩, h5⟩, h6⟩, h7⟩ := h
      have hN : X.N.Nodup := by rw [x.hN]; exact x.nd
      have R := ps_setLc (X := X) (i := i) (spos := spos) (wi := TIx X.K fun ρ => evI call tbl ρ it) (g := gT X.K tg) (tt := TCx X.K fun ρ => evC call tbl ρ cs) (te := TEx X.K fun ρ => evE call tbl ρ elt') x.calm hN hi' (by rw [x.hsc]; exact hl) hw (sndI it x.toXOk h5) (own := ownOf N tg.list) (by rw [x.hN, x.hsc]; exact blkOk_by h1) (fun s H C cl fp => blk_pg x.toXOk h3 s H C cl fp) (fun s H C cl fp => sndCs cs (x.toXOk.blk scp s H C cl fp) h6) (fun s H C cl fp => sndE elt' (x.toXOk.blk scp s H C cl fp) h7) (set_of h4)
      refine R.weakI fun D σ H hlen h => ?_
      rw [q_comp] at h
      obtain ⟨R, sc', T, ρ, g, d, t, g', ok, sr, gr, e, q⟩ := asg_gen D σ H h
      show tLc _ _ _ _ _ σ H _
      rw [own_eq]
      exact comp_gen (fun i h => by rw [hlen, x.hN]; exact h2 i h) ok sr gr e q
    · cases h
  | _ => simp only [okE] at h; cases h
theorem const_pe' {d : D} {c : Const} {j : Nat} {p : Pos} (h : okC d c = true) : ∃ v, (∀ X : Cx, PE X (.Constant c j p) (tC v)) ∧ ∀ S H, Rep S H d v := by
  unfold okC at h
  split at h
  · exact ⟨_, fun _ => pe_non, fun _ _ => .none⟩
  · rw [eq_of_beq h]; exact ⟨_, fun _ => pe_bl, fun _ _ => .bool _⟩
  · have e := of_decide_eq_true h
    subst e
    exact ⟨_, fun _ => pe_int, fun _ _ => .int _⟩
  · have e := of_decide_eq_true h
    subst e
    exact ⟨_, fun _ => pe_str, fun _ _ => .str _⟩
  · cases h
mutual
theorem sndS : ∀ (s : S) {X : Cx} {W : WX} (x : SOk M call tbl k N X sc W) {st : Stmt}, okS M tbl N sc s st = true → PS X st (TSx X.K W (exec call tbl s))
  | .asg i fz e, X, W, x, st, h => by
    simp only [okS] at h
    split at h
    · rename_i y p v pos
      rw [Bool.and_eq_true] at h
      obtain ⟨ht, h⟩ := h
      obtain ⟨y', p', e1, hi, hx⟩ := tgtN_inv ht
      cases e1
      have hx' : L2.Loc X.env.scope y := by rw [x.hsc]; exact hx
      have hi' : X.N[i]? = some y := by rw [x.hN]; exact hi
      have hN : X.N.Nodup := by rw [x.hN]; exact x.nd
      split at h
      · rename_i hn
        exact ps_to ((ps_set hN hi' hx' (sndE e x.toXOk h) (swW_no hn) (x.fnc y hx)).weak asg_gen) (w_asg call tbl _ _ _)
      · split at h
        · rename_i elt gs s q hn
          rw [Bool.and_eq_true] at h
          have hw := swL_eq (l := pos.line) (py := p) (y := y) (elt := elt) (gs := gs) (s := s) (p := q) x.hsc x.kind
          cases hb : swL sc y p (.ListComp elt gs s q) with
          | false =>
            rw [hb] at hw
            exact ps_to ((ps_set hN hi' hx' (sndE e x.toXOk h.2) hw (x.fnc y hx)).weak asg_gen) (w_asg call tbl _ _ _)
          | true =>
            rw [hb] at hw
            have hl := h.1
            rw [hb] at hl
            exact ps_to (asg_lc x ht (hsome (by simpa using hl)) hw h.2) (w_asg call tbl _ _ _)
        · cases h
    · cases h
  | .tup is fz e, X, W, x, st, h => by
    simp only [okS] at h
    split at h
    · rename_i ts kk p v pos
      simp only [Bool.and_eq_true] at h
      obtain ⟨⟨⟨h1, h2⟩, h3⟩, h4⟩ := h
      refine ps_to (ms_tup (sndE e x.toXOk h4) (x.pg h1) (swS_no h2) ?_ asgE_tup) (w_tup call tbl _ _ _)
      split at h3
      · exact sws_none x.hsc h3
      · rename_i hn
        refine sws_plain ?_
        cases v <;> first
          | rfl
          | exact absurd rfl (hn _ _ _)
    · cases h
  | .par2 i j a b, X, W, x, st, h => by
    simp only [okS] at h
    split at h
    · rename_i y1 p1 y2 p2 kk p a' b' k2 pt2 pos
      simp only [Bool.and_eq_true] at h
      obtain ⟨⟨⟨⟨⟨h1, h2⟩, h3⟩, h4⟩, h5⟩, h6⟩ := h
      have ha := par_a (sndE a x.toXOk h4) (sndE b x.toXOk h5) h2 h3
      have hs : swapsWithSole [.Tuple [.Name y1 p1, .Name y2 p2] kk p] (.Tuple [a', b'] k2 pt2) pos.line X.env = pure false := swS_no rfl
      rw [Bool.or_eq_true] at h6
      refine ps_to ?_ (w_par2 call tbl _ _ _ _)
      rcases h6 with h6 | h6
      · exact ms_par2T ha (x.pg h1) (sws_none x.hsc h6) hs asgE_tup
      · simp only [Bool.and_eq_true, decide_eq_true_eq, Bool.not_eq_true'] at h6
        obtain ⟨⟨⟨⟨⟨⟨g1, g2⟩, g3⟩, g4⟩, g5⟩, g6⟩, g7⟩ := h6
        have tg : tgts N sc [i, j] [.Name y1 p1, .Name y2 p2] = true := h1
        simp only [tgts, Bool.and_eq_true] at tg
        obtain ⟨_, _, e1, i1, _⟩ := tgtN_inv tg.1
        obtain ⟨_, _, e2, i2, _⟩ := tgtN_inv tg.2.1
        cases e1
        cases e2
        exact ms_par2 x.calm (by rw [x.hN]; exact x.nd) (by rw [x.hN]; exact i1) (by rw [x.hN]; exact i2) g4 (by rw [x.hsc]; exact g2) (by rw [x.hsc]; exact g3) ha (sws_some x.hsc x.kind g1 rfl rfl (by simp [h2, h3]) rfl g5 g7 g6) hs
    · cases h
  | .par3 i j l a b c, X, W, x, st, h => by
    simp only [okS] at h
    split at h
    · rename_i y1 p1 y2 p2 y3 p3 kk p a' b' c' k2 pt2 pos
      simp only [Bool.and_eq_true] at h
      obtain ⟨⟨⟨⟨⟨⟨⟨h1, h2⟩, h3⟩, h3'⟩, h4⟩, h5⟩, h5'⟩, h6⟩ := h
      have ha : PA X [a', b', c'] (tCons _ (tCons _ (tCons _ tNil))) := pa_cons (sndE a x.toXOk h4) (par_a (sndE b x.toXOk h5) (sndE c x.toXOk h5') h3 h3') (star_of h2)
      have hs : swapsWithSole [.Tuple [.Name y1 p1, .Name y2 p2, .Name y3 p3] kk p] (.Tuple [a', b', c'] k2 pt2) pos.line X.env = pure false := swS_no rfl
      rw [Bool.or_eq_true] at h6
      refine ps_to ?_ (w_par3 call tbl _ _ _ _ _ _)
      rcases h6 with h6 | h6
      · exact ms_par3T ha (x.pg h1) (sws_none x.hsc h6) hs asgE_tup
      · simp only [Bool.and_eq_true, decide_eq_true_eq, Bool.not_eq_true'] at h6
        obtain ⟨⟨⟨⟨⟨⟨⟨⟨⟨g1, g2⟩, g3⟩, g3'⟩, g4⟩, g4'⟩, g4''⟩, g5⟩, g6⟩, g7⟩ := h6
        have tg : tgts N sc [i, j, l] [.Name y1 p1, .Name y2 p2, .Name y3 p3] = true := h1
        simp only [tgts, Bool.and_eq_true] at tg
        obtain ⟨_, _, e1, i1, _⟩ := tgtN_inv tg.1
        obtain ⟨_, _, e2, i2, _⟩ := tgtN_inv tg.2.1
        obtain ⟨_, _, e3, i3, _⟩ := tgtN_inv tg.2.2.1
        cases e1
        cases e2
        cases e3
        exact ms_par3 x.calm (by rw [x.hN]; exact x.nd) (by rw [x.hN]; exact i1) (by rw [x.hN]; exact i2) (by rw [x.hN]; exact i3) g4 g4' g4'' (by rw [x.hsc]; exact g2) (by rw [x.hsc]; exact g3) (by rw [x.hsc]; exact g3') ha (sws_some x.hsc x.kind g1 rfl rfl (by simp [h2, h3, h3']) rfl g5 g7 g6) hs
    · cases h
  | .app i e, X, W, x, st, h => by
    simp only [okS] at h
    split at h
    · simp only [Bool.and_eq_true, decide_eq_true_eq] at h
      obtain ⟨⟨⟨⟨rfl, h1⟩, h2⟩, h3⟩, h4⟩ := h
      exact ps_to (ms_app (x.var h1) (sndE e x.toXOk h4) (base_of rfl) h3 (few_of h2)) (w_app call tbl _ _)
    · cases h
  | .ext i e, X, W, x, st, h => by
    simp only [okS] at h
    split at h
    · simp only [Bool.and_eq_true, decide_eq_true_eq] at h
      obtain ⟨⟨⟨⟨rfl, h1⟩, h2⟩, h3⟩, h4⟩ := h
      exact ps_to (ms_ext (x.var h1) (sndE e x.toXOk h4) (base_of rfl) h3 (few_of h2)) (w_ext call tbl _ _)
    · cases h
  | .apo i j e, X, W, x, st, h => by
    simp only [okS] at h
    split at h
    · simp only [Bool.and_eq_true, decide_eq_true_eq] at h
      obtain ⟨⟨⟨⟨⟨⟨⟨rfl, h1⟩, rfl⟩, h2⟩, h3⟩, h4⟩, h5⟩, h6⟩ := h
      exact ps_to (ms_apo (x.var h1) (x.var h2) (sndE e x.toXOk h6) (base_of rfl) h4 (base_of rfl) h5 (few_of h3)) (w_apo call tbl _ _ _)
    · cases h
  | .ins i a b, X, W, x, st, h => by
    simp only [okS] at h
    split at h
    · simp only [Bool.and_eq_true, decide_eq_true_eq] at h
      obtain ⟨⟨⟨⟨⟨⟨rfl, h1⟩, h2⟩, h3⟩, h4⟩, h5⟩, h6⟩ := h
      exact ps_to (ms_ins (x.var h1) (sndE a x.toXOk h5) (sndE b x.toXOk h6) (base_of rfl) h4 (star_of h2) (star_of h3)) (w_ins call tbl _ _ _)
    · cases h
  | .sto i a b, X, W, x, st, h => by
    simp only [okS] at h
    split at h
    · simp only [Bool.and_eq_true] at h
      obtain ⟨⟨⟨⟨h1, h2⟩, h3⟩, h4⟩, h5⟩ := h
      exact ps_to (ms_sto (x.var h1) (sndE a x.toXOk h4) (sndE b x.toXOk h5) (asgIx_of h2) (swS_no h3) rfl) (w_sto call tbl _ _ _)
    · cases h
  | .rem i e, X, W, x, st, h => by
    simp only [okS] at h
    split at h
    · simp only [Bool.and_eq_true, decide_eq_true_eq] at h
      obtain ⟨⟨⟨⟨rfl, h1⟩, h2⟩, h3⟩, h4⟩ := h
      exact ps_to (ms_rem x.hu (x.var h1) (sndE e x.toXOk h4) (base_of rfl) h3 (few_of h2)) (w_rem call tbl _ _)
    · cases h
  | .spo i k' e, X, W, x, st, h => by
    simp only [okS] at h
    split at h
    · simp only [Bool.and_eq_true, decide_eq_true_eq] at h
      obtain ⟨⟨⟨⟨⟨rfl, h1⟩, rfl⟩, h2⟩, h3⟩, h4⟩ := h
      exact ps_to (ms_spo (x.var h1) (sndE e x.toXOk h4) (base_of rfl) h3 (few_of h2)) (w_spo call tbl _ _ _)
    · cases h
  | .rowSet i k' e, X, W, x, st, h => by
    simp only [okS] at h
    split at h
    · simp only [Bool.and_eq_true, decide_eq_true_eq] at h
      obtain ⟨⟨⟨h1, rfl⟩, h2⟩, h3⟩ := h
      exact ps_to (ms_row (x.var h1) (sndE e x.toXOk h3) (swS_no h2) rfl) (w_row call tbl _ _ _)
    · cases h
  | .exp e, X, W, x, st, h => by
    simp only [okS] at h
    split at h
    · rw [Bool.and_eq_true] at h
      exact ps_to (ms_exp (sndE e x.toXOk h.2) (swW_no h.1)) (w_exp call tbl _)
    · cases h
  | .ite c a b, X, W, x, st, h => by
    simp only [okS] at h
    split at h
    · simp only [Bool.and_eq_true] at h
      exact ps_to (ms_if (sndW c x.toXOk h.1.1) (sndSs a x h.1.2) (sndSs b x h.2)) (w_ite call tbl _ _ _)
    · cases h
  | .whl n c b, X, W, x, st, h => by
    simp only [okS] at h
    split at h
    · simp only [Bool.and_eq_true] at h
      exact ps_to (ms_while x.own (sndW c x.toXOk h.1) (sndSs b x h.2)) (w_whl call tbl _ _ _)
    · cases h
  | .for1 tg fz it b, X, W, x, st, h => by
    simp only [okS] at h
    split at h
    · simp only [Bool.and_eq_true] at h
      obtain ⟨⟨⟨h1, h2⟩, h3⟩, h4⟩ := h
      exact ps_to (ms_for x.own x.calm (sndI it x.toXOk h2) (x.pg h1) (sndSs b x h4) (set_of h3)) (w_for call tbl _ _ _ _)
    · cases h
  | .forK tg fz e b, X, W, x, st, h => by
    simp only [okS] at h
    split at h
    · simp only [Bool.and_eq_true, decide_eq_true_eq] at h
      obtain ⟨⟨⟨⟨⟨⟨⟨⟨⟨⟨h0, rfl⟩, rfl⟩, h1⟩, h2⟩, h3⟩, h4⟩, h5⟩, h6⟩, h7⟩, h8⟩ := h
      obtain ⟨row, L⟩ := okLam_of h5
      have hu : X.A.units + 70 < cLine := by have := x.room.un; omega
      have hd : X.A.depth + 2 < recursionLimit := by have := x.room.dp; omega
      exact ps_to (ms_for x.own x.calm (mi_val (me_sortK L (x.lam h0) x.calm hu hd (sndE e x.toXOk h7) (x.gl h1) (x.fr h2) (x.fr h3) (star_of (es := []) h4))) (x.pg h6) (sndSs b x h8) (set_of rfl)) (w_forK call tbl _ _ _ _)
    · cases h
  | .ret e, X, W, x, st, h => by
    simp only [okS] at h
    split at h
    · exact ps_to (ms_ret (sndE e x.toXOk h)) (w_ret call tbl _)
    · cases h
  | .rai, X, W, x, st, h => ps_to ms_never (w_rai call tbl)
  | .dnew i, X, W, x, st, h => by
    simp only [okS] at h
    split at h
    · obtain ⟨y', p', e1, hi, hx⟩ := tgtN_inv h
      cases e1
      exact ps_to (ms_dnew (by rw [x.hN]; exact x.nd) (by rw [x.hN]; exact hi) (by rw [x.hsc]; exact hx) rfl (x.fnc _ hx)) (w_dnew call tbl _)
    · cases h
  | .dof i e, X, W, x, st, h => by
    simp only [okS] at h
    split at h
    · simp only [Bool.and_eq_true, decide_eq_true_eq] at h
      obtain ⟨⟨⟨⟨⟨h1, rfl⟩, h2⟩, h3⟩, h4⟩, h5⟩ := h
      obtain ⟨y', p', e1, hi, hx⟩ := tgtN_inv h1
      cases e1
      exact ps_to (ms_dof (by rw [x.hN]; exact x.nd) (by rw [x.hN]; exact hi) (by rw [x.hsc]; exact hx) x.calm x.hu (x.gl h2) (x.fr h3) (sndE e x.toXOk h5) (star_of (es := []) h4) (any_of (es := []) (by rfl)) rfl (x.fnc _ hx)) (w_dof call tbl _ _)
    · cases h
  | .dput i a b, X, W, x, st, h => by
    simp only [okS] at h
    split at h
    · simp only [Bool.and_eq_true] at h
      obtain ⟨⟨⟨h1, h2⟩, h3⟩, h4⟩ := h
      exact ps_to (ms_dput x.hu (x.var h1) (sndE a x.toXOk h3) (sndE b x.toXOk h4) (swW_no h2)) (w_dput call tbl _ _ _)
    · cases h
  | .forD tg i b, X, W, x, st, h => by
    simp only [okS] at h
    split at h
    · simp only [Bool.and_eq_true] at h
      obtain ⟨⟨h1, h2⟩, h3⟩ := h
      exact ps_to (ms_forD x.own x.calm (x.var h1) (x.pg h2) (sndSs b x h3) (set_of (by rfl))) (w_forD call tbl _ _ _)
    · cases h
  | .raiC c, X, W, x, st, h => by
    simp only [okS] at h
    split at h
    · simp only [Bool.and_eq_true, decide_eq_true_eq] at h
      obtain ⟨⟨rfl, h1⟩, h2⟩ := h
      obtain ⟨C, e1, e2, e3, e4, e5, e6, e7⟩ := x.exc _ (List.contains_iff_mem.mp h1)
      exact ps_to (ms_raise x.calm x.tk (pmk_own PySem.F.excBase_ValueError e3 e2 e4 (raises_own e5 e6) (x.gl h2) (glo_of h2).2) e1) (w_raiC call tbl _)
    · cases h
  | .retX f es, X, W, x, st, h => by
    simp only [okS] at h
    split at h
    · simp only [Bool.and_eq_true, decide_eq_true_eq] at h
      obtain ⟨⟨⟨rfl, h1⟩, h2⟩, h3⟩ := h
      have hp := okEs_plain h3
      simp only [List.all_cons, Bool.and_eq_true] at hp
      exact ps_to (ms_retX x.tk (x.fns _ _ (List.contains_iff_mem.mp h2)) x.room (x.gl h1) (sndEs es x.toXOk h3) (glo_of h1).2 (star_of hp.1) (any_of hp.2)) (w_retX call tbl _ _)
    · cases h
  | .tryR b c d, X, W, x, st, h => by
    simp only [okS] at h
    split at h
    · simp only [Bool.and_eq_true, decide_eq_true_eq] at h
      obtain ⟨⟨⟨⟨rfl, h1⟩, h2⟩, h3⟩, h4⟩ := h
      obtain ⟨C, e1, e2, e3, e4, e5, e6, e7⟩ := x.exc _ (List.contains_iff_mem.mp h1)
      obtain ⟨v, hv1, hv2⟩ := const_pe' h3
      refine ps_to (ms_try (v := v) x.stk x.frm ⟨x.gl h2, (glo_of h2).2, .inl e2⟩ e1 e7 (fun W' pn xe tk' own' => ?_) x.tk (fun a pn => hv1 _) hv2) (w_tryR call tbl _ _ _)
      have x' : SOk M call tbl k N (X.tr pn xe) sc W' := ⟨⟨x.hN, x.nd, x.hsc, x.calm, x.room, x.fns, x.free, x.cst, x.tab, x.exc⟩, tk', x.stk, x.frm, own', x.fnc, x.kind, fun z => ⟨(x.lam z).ex⟩⟩
      exact sndSs b x' h4
    · cases h
  | .pas, X, W, x, st, h => by
    simp only [okS] at h
    split at h
    · exact ps_to ms_pass (w_pas call tbl)
    · cases h
theorem sndSs : ∀ (ss : Ss) {X : Cx} {W : WX} (x : SOk M call tbl k N X sc W) {sts : List Stmt}, okSs M tbl N sc ss sts = true → PSs X sts (TSx X.K W (execs call tbl ss))
  | .nil, X, W, x, sts, h => by
    cases sts with
    | nil => exact pss_to ms_nil (w_nil call tbl)
    | cons y ys => simp [okSs] at h
  | .cons s ss, X, W, x, sts, h => by
    cases sts with
    | nil => simp [okSs] at h
    | cons y ys =>
      simp only [okSs, Bool.and_eq_true] at h
      exact pss_to (ms_cons (sndS s x h.1) (sndSs ss x h.2)) (w_cons call tbl _ _)
end
end
end Mi
end
section
set_option maxRecDepth 100000
set_option maxHeartbeats 1000000
/-! Defs: each keeps its promise, as deep as one likes. -/
namespace Mi
open PySem PySem.Spec PyProof.Rows L2
abbrev FnP (K : PySem.W.Frag) (x : Str) (st : Stmt) (f : Addr) (fd : FuncData) : Prop := FunD K x x (defArgs st) (defBody st) (defScope st) [] [] f fd
/-- the names of a def's scope, looked at -/
def okSc (N P : List Str) (sc : Scope) : Bool := (match sc.kind with | .function => true | _ => false) && !sc.isCoroutine && !sc.isGenerator && decide N.Nodup && decide (N.take P.length = P) && (P.all fun x => match sc.names.lookup x with | some .local => true | some .cell => true | _ => false) && sc.names.all fun y => match y.2 with | .free => false | _ => true
theorem okSc_of {N P : List Str} {sc : Scope} (h : okSc N P sc = true) : FnScope N P sc := by
  unfold okSc at h
  simp only [Bool.and_eq_true, Bool.not_eq_true', decide_eq_true_eq, List.all_eq_true] at h
  obtain ⟨⟨⟨⟨⟨⟨h1, h2⟩, h3⟩, h4⟩, h5⟩, h6⟩, h7⟩ := h
  refine ⟨?_, h2, h3, h4, h5, fun x hx => ?_, fun y hy e => ?_⟩
  · split at h1
    · assumption
    · cases h1
  · have := h6 x hx
    split at this
    · exact .inl (by assumption)
    · exact .inr (by assumption)
    · cases this
  · have := h7 y hy
    rw [e] at this
    cases this
/-- a def of the text and its term -/
structure Dat where
  f : Fd
  st : Stmt
  N : List Str
  ps : List Str
def okDat (M : MTab) (tbl : TblS) (d : Dat) : Bool := okSc d.N d.ps (defScope d.st) && okSs { M with lam := decide (d.f.name = ("clash" : Str)) } tbl d.N (defScope d.st) d.f.body (defBody d.st) && decide (d.ps.length = d.f.ar + (if d.f.row then 1 else 0)) && decide (d.N.length = d.f.nn)
def finds (fs : List Fd) (f : Fd) : Option Fd := fs.find? fun h => h.name == f.name && h.row == f.row
section
variable {M : MTab} {tbl : TblS} {fs : List Fd} {P : Program} {w : World} {K : PySem.W.Frag} {mg : Str → Option Value} {base : Heap}
theorem run_len {f : Fd} {k : Nat} {ds : List D} {g : G} {z} (hf : finds fs f = some f) (e : run tbl fs (k + 1) f.name f.row ds g = some z) : ds.length = f.ar ∧ runF tbl (run tbl fs k) f ds g = some z := by
  unfold run at e
  have hf' : (fs.find? fun h => h.name == f.name && h.row == f.row) = some f := hf
  rw [hf'] at e
  dsimp only at e
  refine ⟨?_, e⟩
  unfold runF at e
  split at e
  · assumption
  · cases e
/-- no name of a def begins so -/
def nx (f : Str) : Bool := match f.cps.toList with
  | 33 :: _ => false
  | _ => true
theorem nx_ne {f h : Str} (n : nx h = true) : (h == xn f) = false := by
  refine beq_eq_false_iff_ne.mpr fun e => ?_
  subst e
  have : nx (xn f) = false := by
    unfold nx xn
    rw [Str.cps_append]
    rw [Array.toList_append]
    rfl
  rw [this] at n
  cases n
theorem xn_inj {f h : Str} : (xn f == xn h) = (f == h) := by
  rw [Bool.eq_iff_iff, beq_iff_eq, beq_iff_eq]
  constructor
  · intro e
    have e1 := congrArg (fun z : Str => z.cps.toList) e
    unfold xn at e1
    simp only [Str.cps_append, Array.toList_append, List.append_cancel_left_eq] at e1
    cases f
    cases h
    congr 1
    exact Array.toList_inj.mp e1
  · rintro rfl
    rfl
theorem run_lenX {f : Fd} {k : Nat} {ds : List D} {g : G} {z} (hf : finds fs f = some f) (hnx : ∀ f ∈ fs, nx f.name = true) (e : run tbl fs (k + 1) (xn f.name) f.row ds g = some z) : ds.length = f.ar ∧ runE tbl (run tbl fs k) f ds g = some z := by
  unfold run at e
  have h1 : (fs.find? fun h => h.name == xn f.name && h.row == f.row) = none := List.find?_eq_none.mpr fun h hh => by
    rw [nx_ne (hnx h hh)]
    simp
  have h2 : (fs.find? fun h => xn h.name == xn f.name && h.row == f.row) = some f := by
    simp only [xn_inj]
    exact hf
  rw [h1] at e
  dsimp only at e
  rw [h2] at e
  dsimp only at e
  refine ⟨?_, e⟩
  unfold runE at e
  split at e
  · assumption
  · cases e
theorem repA_get_imm {S : Addr → Prop} {H : Hp} : ∀ {ds : List D} {vs : List V} {i : Nat} {s : Sl}, RepA S H ds vs → (ds.map Sl.imm)[i]? = some s → ∃ d v, s = .imm d ∧ vs[i]? = some v ∧ Rep S H d v := fun {ds vs i s} h e => by
  rw [List.getElem?_map] at e
  obtain ⟨d, e1, rfl⟩ := Option.map_eq_some_iff.mp e
  obtain ⟨v, e2, e3⟩ := h.get e1
  exact ⟨d, v, rfl, e2, e3⟩
theorem get_app {α : Type} {l r : List α} {i : Nat} {x : α} (h : (l ++ r)[i]? = some x) : l[i]? = some x ∨ (l.length ≤ i ∧ r[i - l.length]? = some x) := by
  rcases Nat.lt_or_ge i l.length with z | z
  · rw [List.getElem?_append_left z] at h; exact .inl h
  · rw [List.getElem?_append_right z] at h; exact .inr ⟨z, h⟩
theorem get_rep {α : Type} {n i : Nat} {x y : α} (h : (List.replicate n y)[i]? = some x) : x = y := by
  rw [List.getElem?_replicate] at h
  split at h
  · cases h; rfl
  · cases h
/-- a def's names at its entry -/
theorem entry_ok {R sc : Addr} {H : Hp} {Z : Addr → Prop} {f : Fd} {N : List Str} {ds : List D} {vs : List V} {g : G} (hZ : ¬ Z R) (gr : GR K R sc H g) (hv : match f.row with | true => ∃ r, vs = .ref R :: r ∧ RepA Z H ds r | false => RepA Z H ds vs) (hN : N.length = f.nn) (hle : vs.length ≤ N.length) :
    StOk R H Z (fun _ _ => False) (entry f ds) (L2.start N vs) H := by
  have hF : ∀ a, Z a → Fz Z H (fun _ _ => False) a := fun a z => ⟨.inl z, fun _ y => y⟩
  cases hr : f.row with
  | false =>
    rw [hr] at hv
    refine ⟨?_, Ext.refl _ _, hZ, gr.ne, gr.ne, fun i a h => h.elim, fun i j a h => h.elim, fun i s h => ?_⟩
    · unfold entry L2.start
      rw [hr]
      simp only [List.length_append, List.length_map, List.length_replicate, List.length_nil, Bool.false_eq_true, if_false]
      have := hv.length
      omega
    · unfold entry at h
      rw [hr] at h
      simp only [Bool.false_eq_true, if_false, List.nil_append] at h
      rcases get_app h with z | ⟨z1, z2⟩
      · obtain ⟨d, v, rfl, e1, e2⟩ := repA_get_imm hv z
        refine ⟨v, ?_, e2.sub hF⟩
        unfold L2.start
        rw [List.getElem?_append_left (by rw [List.length_map]; exact (List.getElem?_eq_some_iff.mp e1).1), List.getElem?_map, e1]
        rfl
      · rw [get_rep z2]
        trivial
  | true =>
    rw [hr] at hv
    obtain ⟨r, rfl, hv⟩ := hv
    refine ⟨?_, Ext.refl _ _, hZ, gr.ne, gr.ne, fun i a h => h.elim, fun i j a h => h.elim, fun i s h => ?_⟩
    · unfold entry L2.start
      rw [hr]
      simp only [List.length_append, List.length_map, List.length_replicate, List.length_cons, List.length_nil, if_true] at hle ⊢
      have := hv.length
      omega
    · unfold entry at h
      rw [hr] at h
      simp only [if_true] at h
      cases i with
      | zero =>
        cases h
        rfl
      | succ i =>
        have h' : (ds.map Sl.imm ++ List.replicate (f.nn - ds.length - 1) Sl.no)[i]? = some s := h
        rcases get_app h' with z | ⟨z1, z2⟩
        · obtain ⟨d, v, rfl, e1, e2⟩ := repA_get_imm hv z
          refine ⟨v, ?_, e2.sub hF⟩
          unfold L2.start
          show ((some (V.ref R)) :: (r.map some ++ _))[i + 1]? = _
          rw [List.getElem?_cons_succ, List.getElem?_append_left (by rw [List.length_map]; exact (List.getElem?_eq_some_iff.mp e1).1), List.getElem?_map, e1]
          rfl
        · rw [get_rep z2]
          trivial
/-- what a body finds around it -/
structure Around0 (M : MTab) (tbl : TblS) (call : Call) (k : Nat) (P : Program) (w : World) (K : PySem.W.Frag) (mg : Str → Option Value) (base : Heap) : Prop where
  fns : ∀ f row, (f, row) ∈ M.fns → ∃ a fd ps, mg f = some (.ref a) ∧ PySem.W.keepIn K (.ref a) = true ∧ Binds K fd ps [] ∧ FnOk P w K mg base (L2.CX P w) k a fd ps (spX K call f row)
  exc : ∀ c ∈ M.exc, ExcF K mg c
  free : ∀ x ∈ M.free, mg x = none
  cst : ∀ x d, M.cst.lookup x = some d → ∃ u v, mg x = some u ∧ RelV v u ∧ ∀ S H, Rep S H d v
  tab : ∀ x l, tbl x = some l → ∃ d es n, mg x = some (.ref d) ∧ KDict K w d es n ∧ ∀ z, match l.lookup z with
    | some v => ∃ u, PySem.W.nsIn K d z = some (some u) ∧ RelV (.str v) u
    | none => PySem.W.nsIn K d z = some none
  lam : ∀ row, (("clash" : Str), row) ∈ M.fns → csT K = [He.cT K ("clash", none)] ∧ LamX.TabB base mg (He.cT K ("clash", none)).1 (He.cT K ("clash", none)).2
theorem sok0_of {l : Bool} {call : Call} {k : Nat} {N ps : List Str} {qual : Str} {scope : Scope} {f : Addr} {cdv : Value} {A : Around} {outer : List Env} {s : Shared} {H : Hp} {E : XK} (S : FnScope N ps scope) (hr : Room k (A.deeper (envOfC qual scope s.heap.objs.size f cdv))) (c : Around0 M tbl call k P w K mg base) (hl : l = true → LamOk (cxOf CX0 P w K mg base N qual scope f cdv A outer s H E).nox (tabT K)) :
    SOk { M with lam := l } call tbl k N (cxOf CX0 P w K mg base N qual scope f cdv A outer s H E).nox scope (fun _ _ _ _ => False) where
  hN := rfl
  nd := S.nd
  hsc := rfl
  calm := rfl
  room := hr
  fns := c.fns
  free := c.free
  cst := c.cst
  tab := c.tab
  exc := c.exc
  tk := takes0
  stk := rfl
  frm := rfl
  own := PassesOwn.never
  fnc := fun _ _ => .inl rfl
  kind := S.kind
  lam := hl
theorem sok_of {l : Bool} {call : Call} {k : Nat} {N ps : List Str} {qual : Str} {scope : Scope} {f : Addr} {cdv : Value} {A : Around} {outer : List Env} {s : Shared} {H : Hp} {E : XK} (S : FnScope N ps scope) (hr : Room k (A.deeper (envOfC qual scope s.heap.objs.size f cdv))) (c : Around0 M tbl call k P w K mg base) (hl : l = true → LamOk (cxOf (L2.CX P w) P w K mg base N qual scope f cdv A outer s H E) (tabT K)) :
    SOk { M with lam := l } call tbl k N (cxOf (L2.CX P w) P w K mg base N qual scope f cdv A outer s H E) scope (fun cls d _ H => E cls d H) where
  hN := rfl
  nd := S.nd
  hsc := rfl
  calm := rfl
  room := hr
  fns := c.fns
  free := c.free
  cst := c.cst
  tab := c.tab
  exc := c.exc
  tk := takes_of rfl rfl rfl rfl
  stk := rfl
  frm := rfl
  own := passes_of rfl
  fnc := fun _ _ => .inl rfl
  kind := S.kind
  lam := hl
theorem fn_ok {d : Dat} {k : Nat} {a : Addr} {fd : FuncData} (ha : a = He.ga K d.f.name) (hd : (d.f.name, d.f.row) ∈ M.fns) (F : FnP K d.f.name d.st a fd) (ok : okDat M tbl d = true) (hf : finds fs d.f = some d.f) (hnx : ∀ f ∈ fs, nx f.name = true) (c : Around0 M tbl (run tbl fs k) k P w K mg base) :
    FnOk P w K mg base (L2.CX P w) (k + 1) a fd d.ps (spX K (run tbl fs (k + 1)) d.f.name d.f.row) := by
  unfold okDat at ok
  simp only [Bool.and_eq_true, decide_eq_true_eq] at ok
  obtain ⟨⟨⟨h1, h2⟩, h3⟩, h4⟩ := ok
  have S := okSc_of h1
  have hpl : d.ps.length ≤ d.N.length := by have := congrArg List.length S.pre; rw [List.length_take] at this; omega
  have len1 : ∀ {vs : List V} {R : Addr} {Z : Addr → Prop} {H : Hp} {ds : List D}, ds.length = d.f.ar → (match d.f.row with | true => ∃ r, vs = .ref R :: r ∧ RepA Z H ds r | false => RepA Z H ds vs) → vs.length = d.ps.length := fun hl hv => by
    rw [h3]
    cases hr : d.f.row with
    | false => rw [hr] at hv; have := hv.length; simp; omega
    | true => rw [hr] at hv; obtain ⟨r, rfl, hv⟩ := hv; have := hv.length; simp; omega
  have lens : ∀ vs H Q E, spX K (run tbl fs (k + 1)) d.f.name d.f.row vs H Q E → vs.length = d.ps.length := fun vs H Q E h => by
    rcases h with ⟨R, sc, Z, ds, g, dd, t, g', hZ, gr, hv, e, q⟩ | ⟨R, sc, Z, ds, g, c, t, g', C, hZ, gr, hv, e, hC, q⟩
    · exact len1 (run_len hf e).1 hv
    · exact len1 (run_lenX hf hnx e).1 hv
  obtain ⟨oc, od, dV, kV, doc, pm, an, cdv, ct, osl, rfl, lk, hcd, _, _⟩ := F.ex
  refine fn_of lk hcd S lens (fun A outer s H vs Q E hr h => ⟨TSx K (fun cls d _ H => E cls d H) (execs (run tbl fs k) tbl d.f.body), sndSs d.f.body (sok_of S hr c fun hl => ?_) h2, ?_⟩)
  · have hn : d.f.name = ("clash" : Str) := of_decide_eq_true hl
    rw [hn] at hd ha
    obtain ⟨k1, k2⟩ := c.lam _ hd
    obtain ⟨c0, rfl⟩ := He.codeIn_ref hcd
    have lk2 : K.lookup (He.fAd K ("clash", none)) = some ⟨oc, od, .func (PySem.W.fnOf d.f.name d.f.name (defArgs d.st) (defBody d.st) (defScope d.st) dV kV doc pm an (.ref c0) ct), osl⟩ := by
      show K.lookup (He.ga K "clash") = _
      rw [← ha]; exact lk
    have ec : He.codeOf K ("clash", none) = c0 := He.codeOf_eq lk2 rfl
    have e1 : (He.cT K ("clash", none)).1 = c0 := ec
    have eq1 : (envOfC d.f.name (defScope d.st) s.heap.objs.size a (.ref c0)).qual ++ "<lambda>" = ("clash.<locals>.<lambda>" : Str) := by
      show d.f.name ++ ".<locals>." ++ "<lambda>" = _
      rw [hn]
      decide +kernel
    refine ⟨c0, (He.cT K ("clash", none)).2, rfl, by rw [← e1]; exact k2, ?_, fun p hp _ => ?_⟩
    · show (_, (envOfC d.f.name (defScope d.st) s.heap.objs.size a (.ref c0)).qual ++ "<lambda>") ∈ _
      rw [eq1]
      unfold tabT
      rw [k1]
      exact List.mem_singleton.mpr rfl
    · show p.2 = (envOfC d.f.name (defScope d.st) s.heap.objs.size a (.ref c0)).qual ++ "<lambda>"
      rw [eq1]
      unfold tabT at hp
      rw [k1] at hp
      rw [List.mem_singleton.mp hp]
  have hl := lens vs H Q E h
  rcases h with ⟨R, sc, Z, ds, g, dd, t, g', hZ, gr, hv, e, q⟩ | ⟨R, sc, Z, ds, g, c', t, g', C, hZ, gr, hv, e, hC, q⟩
  · have e2 := (run_len hf e).2
    unfold runF at e2
    split at e2
    · split at e2
      · rename_i d' t' g'' ee
        cases e2
        exact ⟨R, sc, H, Z, _, entry d.f ds, g, _, entry_ok hZ gr hv h4 (by omega), gr, ee, fun v H' x gr' r => q v H' x gr' r⟩
      · rename_i ρ' g'' ee
        cases e2
        exact ⟨R, sc, H, Z, _, entry d.f ds, g, _, entry_ok hZ gr hv h4 (by omega), gr, ee, fun σ' H' O' st' ev gr' => q .non H' st'.x0 gr' Rep.none⟩
      · cases e2
      · cases e2
    · cases e2
  · have e2 := (run_lenX hf hnx e).2
    unfold runE at e2
    split at e2
    · split at e2
      · rename_i c2 ρ2 g'' ee
        cases e2
        exact ⟨R, sc, H, Z, _, entry d.f ds, g, _, entry_ok hZ gr hv h4 (by omega), gr, ee, C, hC, fun σ' H' O' st' ev gr' => q H' st'.x0 gr'⟩
      · cases e2
    · cases e2
/-- all the text's defs -/
structure Text (ds : List Dat) (free : List Str) (cst : List (Str × D)) (xc : List Str) (tbl : TblS) : Prop where
  ok : ∀ d ∈ ds, okDat ⟨ds.map fun d => (d.f.name, d.f.row), free, cst, false, xc⟩ tbl d = true
  fnd : ∀ d ∈ ds, finds (ds.map (·.f)) d.f = some d.f
  nox : ∀ d ∈ ds, nx d.f.name = true
theorem all_ok {ds : List Dat} {free : List Str} {cst : List (Str × D)} {xc : List Str} (T : Text ds free cst xc tbl)
    (hd : ∀ d ∈ ds, ∃ a fd, mg d.f.name = some (.ref a) ∧ FnP K d.f.name d.st a fd ∧ Binds K fd d.ps [] ∧ a = He.ga K d.f.name)
    (hlam : ∀ d ∈ ds, d.f.name = ("clash" : Str) → csT K = [He.cT K ("clash", none)] ∧ LamX.TabB base mg (He.cT K ("clash", none)).1 (He.cT K ("clash", none)).2)
    (hexc : ∀ c ∈ xc, ExcF K mg c) (hfree : ∀ x ∈ free, mg x = none) (hcst : ∀ x d, cst.lookup x = some d → ∃ u v, mg x = some u ∧ RelV v u ∧ ∀ S H, Rep S H d v)
    (htab : ∀ x l, tbl x = some l → ∃ d es n, mg x = some (.ref d) ∧ KDict K w d es n ∧ ∀ z, match l.lookup z with
      | some v => ∃ u, PySem.W.nsIn K d z = some (some u) ∧ RelV (.str v) u
      | none => PySem.W.nsIn K d z = some none) : ∀ k, Around0 ⟨ds.map fun d => (d.f.name, d.f.row), free, cst, false, xc⟩ tbl (run tbl (ds.map (·.f)) k) k P w K mg base
  | 0 => by
    refine ⟨fun f row h => ?_, hexc, hfree, hcst, htab, fun row h => ?_⟩
    rotate_left
    · obtain ⟨d, hm, e⟩ := List.mem_map.mp h
      exact hlam d hm (congrArg Prod.fst e)
    obtain ⟨d, hm, e⟩ := List.mem_map.mp h
    cases e
    obtain ⟨a, fd, h1, h2, h3, h4⟩ := hd d hm
    refine ⟨a, fd, d.ps, h1, h2.kp, h3, fun vs H Q E h => ?_, fun A outer s H args us vs Q E _ _ _ _ h => ?_⟩
    all_goals
      rcases h with ⟨R, sc, Z, ds, g, dd, t, g', hZ, gr, hv, e, q⟩ | ⟨R, sc, Z, ds, g, c', t, g', C, hZ, gr, hv, e, hC, q⟩
      all_goals (unfold run at e; cases e)
  | k + 1 => by
    have ih := all_ok T hd hlam hexc hfree hcst htab k
    refine ⟨fun f row h => ?_, hexc, hfree, hcst, htab, fun row h => ?_⟩
    rotate_left
    · obtain ⟨d, hm, e⟩ := List.mem_map.mp h
      exact hlam d hm (congrArg Prod.fst e)
    obtain ⟨d, hm, e⟩ := List.mem_map.mp h
    cases e
    obtain ⟨a, fd, h1, h2, h3, h4⟩ := hd d hm
    exact ⟨a, fd, d.ps, h1, h2.kp, h3, fn_ok h4 h h2 (T.ok d hm) (T.fnd d hm) (fun f hf => by
      obtain ⟨d', hd', rfl⟩ := List.mem_map.mp hf
      exact T.nox d' hd') ih⟩
end
end Mi
end
section
set_option maxRecDepth 100000
set_option maxHeartbeats 1000000
/-! The top: what the head is to look at; tables with their values. -/
namespace Mi
open PySem PySem.Spec PyProof.Rows L2
/-! ### a table's entries -/
def keyVal (e : DictEntry) : Option (Str × Int × Str) := match e.key, e.val with
  | .str x _, .str v _ => some (x, e.hash, v)
  | _, _ => none
abbrev Tb := List (Str × Str)
def kvIn (P : Params) (l : Tb) : List (Option (Str × Int × Str)) := l.map fun q => some (q.1, PyData.keyHash P q.1, q.2)
def tabW (K : PySem.W.Frag) (a : Addr) : Option (List (Option (Str × Int × Str))) := match K.lookup a with
  | some ⟨.type c, none, .dict es _, sl⟩ => (match decide (c = "dict") && (sl.isEmpty && !(a == sysModules)) with
    | true => some (es.toList.map keyVal)
    | false => none)
  | _ => none
theorem tabW_ok {K : PySem.W.Frag} {P : Params} {a : Addr} {l : Tb} (h : tabW K a = some (kvIn P l)) : ∃ es n, K.lookup a = some ⟨.type "dict", none, .dict es n, #[]⟩ ∧ (a == sysModules) = false ∧ es.toList.map keyVal = kvIn P l := by
  unfold tabW at h
  split at h
  · rename_i c es n sl q
    cases z : decide (c = "dict") && (sl.isEmpty && !(a == sysModules)) with
    | false => rw [z] at h; cases h
    | true =>
      rw [z] at h
      simp only [Bool.and_eq_true, decide_eq_true_eq, Bool.not_eq_true'] at z
      obtain ⟨rfl, z2, z3⟩ := z
      have e2 : sl = #[] := Array.isEmpty_iff.mp z2
      subst e2
      exact ⟨es, n, q, z3, Option.some.inj h⟩
  · cases h
theorem kv_key {e : DictEntry} {x v : Str} {i : Int} (h : keyVal e = some (x, i, v)) : ∃ t t', e.key = .str x t ∧ e.val = .str v t' ∧ e.hash = i := by
  unfold keyVal at h
  split at h
  · rename_i k1 t1 v1 t2 h1 h2
    have := Option.some.inj h
    obtain ⟨e1, e2⟩ := Prod.mk.inj this
    obtain ⟨e3, e4⟩ := Prod.mk.inj e2
    subst e1 e4
    exact ⟨_, _, h1, h2, e3⟩
  · cases h
theorem kv_keys {P : Params} : ∀ {es : List DictEntry} {l : Tb}, es.map keyVal = kvIn P l → es.map He.keyOf = He.keysIn P (l.map (·.1))
  | [], [], _ => rfl
  | [], _ :: _, h => by cases h
  | _ :: _, [], h => by cases h
  | e :: es, q :: l, h => by
    have h' : keyVal e :: es.map keyVal = some (q.1, PyData.keyHash P q.1, q.2) :: kvIn P l := h
    injection h' with h1 h2
    obtain ⟨t, t', k1, k2, k3⟩ := kv_key h1
    show He.keyOf e :: es.map He.keyOf = some (q.1, PyData.keyHash P q.1) :: He.keysIn P (l.map (·.1))
    rw [kv_keys h2]
    unfold He.keyOf
    rw [k1, k3]
theorem tab_dic {K : PySem.W.Frag} {P : Params} {a : Addr} {l : Tb} (h : tabW K a = some (kvIn P l)) : He.dicW K a = some (He.keysIn P (l.map (·.1))) := by
  obtain ⟨es, n, q, z3, e⟩ := tabW_ok h
  unfold He.dicW
  rw [q]
  show (match decide (("dict" : String) = "dict") && ((#[] : Array (Option Value)).isEmpty && !(a == sysModules)) with
    | true => some (es.toList.map He.keyOf)
    | false => none) = _
  rw [z3, kv_keys e]
  rfl
theorem kv_find {P : Params} (z : Str) : ∀ {es : List DictEntry} {l : Tb}, es.map keyVal = kvIn P l → es.any (·.refKey) = false ∧ (match l.lookup z with
    | some v => ∃ e t, es.find? (·.key.isStr z) = some e ∧ e.val = .str v t
    | none => es.find? (·.key.isStr z) = none)
  | [], [], _ => ⟨rfl, rfl⟩
  | [], _ :: _, h => by cases h
  | _ :: _, [], h => by cases h
  | e :: es, q :: l, h => by
    have h' : keyVal e :: es.map keyVal = some (q.1, PyData.keyHash P q.1, q.2) :: kvIn P l := h
    injection h' with h1 h2
    obtain ⟨t, t', k1, k2, k3⟩ := kv_key h1
    obtain ⟨i1, i2⟩ := kv_find z h2
    refine ⟨?_, ?_⟩
    · rw [List.any_cons, i1, Bool.or_false]
      unfold DictEntry.refKey
      rw [k1]
    · rw [List.find?_cons]
      have hk : e.key.isStr z = (q.1 == z) := by rw [k1]; rfl
      rw [hk]
      show match (match z == q.1 with | true => some q.2 | false => l.lookup z) with
        | some v => _
        | none => _
      by_cases hz : q.1 = z
      · have e1 : (z == q.1) = true := by rw [hz]; exact beq_self_eq_true z
        have e2 : (q.1 == z) = true := by rw [hz]; exact beq_self_eq_true z
        rw [e1, e2]
        exact ⟨e, t', rfl, k2⟩
      · have e1 : (z == q.1) = false := beq_eq_false_iff_ne.mpr (Ne.symm hz)
        have e2 : (q.1 == z) = false := beq_eq_false_iff_ne.mpr hz
        rw [e1, e2]
        exact i2
theorem tab_ns {K : PySem.W.Frag} {P : Params} {a : Addr} {l : Tb} (h : tabW K a = some (kvIn P l)) (z : Str) : match l.lookup z with
    | some v => ∃ u, PySem.W.nsIn K a z = some (some u) ∧ RelV (.str v) u
    | none => PySem.W.nsIn K a z = some none := by
  obtain ⟨es, n, q, z3, e⟩ := tabW_ok h
  obtain ⟨i1, i2⟩ := kv_find z e
  unfold PySem.W.nsIn
  rw [q]
  cases hl : l.lookup z with
  | some v =>
    rw [hl] at i2
    obtain ⟨en, t, f1, f2⟩ := i2
    refine ⟨en.val, ?_, ⟨t, f2⟩⟩
    show (match es.toList.find? (·.key.isStr z) with
      | some e => some (some e.val)
      | none => if es.toList.any (·.refKey) then none else some none) = _
    rw [f1]
  | none =>
    rw [hl] at i2
    show (match es.toList.find? (·.key.isStr z) with
      | some e => some (some e.val)
      | none => if es.toList.any (·.refKey) then none else some none) = _
    rw [i2, i1]
    rfl
/-! ### the Hook -/
abbrev Tabs := List (Str × Tb)
abbrev AlV : Type := He.AlD × List (Option (List (Option (Str × Int × Str))))
def obsV (fa : List He.Fa) (fn : List He.DefD) (ts : Tabs) (K : PySem.W.Frag) : AlV := (He.obsD fa fn K, ts.map fun t => tabW K (He.ga K t.1))
def valV (fn : List He.DefD) (ts : Tabs) (w : World) : AlV := (He.valD fn, ts.map fun t => some (kvIn w.params t.2))
def SaysV (fa : List He.Fa) (fn : List He.DefD) (ts : Tabs) (w : World) (K : PySem.W.Frag) : Prop := obsV fa fn ts K = valV fn ts w
/-- .. with the tables of some defs, which are empty yet -/
abbrev AlW : Type := AlV × Bool
def obsWG (n : Nat) (fa : List He.Fa) (fn : List He.DefD) (ts : Tabs) (tf : List He.Defn) (g : Addr → Option Obj) : AlW := (obsV fa fn ts (He.frT g (He.asD g n)), He.tabsB g tf (He.frT g (He.asD g n)))
def valW (fn : List He.DefD) (ts : Tabs) (w : World) : AlW := (valV fn ts w, true)
structure SaysW (fa : List He.Fa) (fn : List He.DefD) (ts : Tabs) (tf : List He.Defn) (w : World) (h : Heap) (K : PySem.W.Frag) : Prop where
  v : SaysV fa fn ts w K
  hd : ∀ p ∈ tf, PySem.W.codeHdIn K (He.cT K p).1 (He.cT K p).2 = true
  out : ∀ p ∈ tf, K.lookup (He.cT K p).2 = none
  empty : ∀ p ∈ tf, h.get? (He.cT K p).2 = some { cls := .none, data := .fields #[] }
theorem saysW_of {n : Nat} {fa : List He.Fa} {fn : List He.DefD} {ts : Tabs} {tf : List He.Defn} {w : World} {h : Heap} (e : obsWG n fa fn ts tf h.get? = valW fn ts w) : SaysW fa fn ts tf w h (He.frT h.get? (He.asD h.get? n)) := by
  have e1 : obsV fa fn ts (He.frT h.get? (He.asD h.get? n)) = valV fn ts w := congrArg (fun z : AlW => z.1) e
  have e2 : He.tabsB h.get? tf (He.frT h.get? (He.asD h.get? n)) = true := congrArg (fun z : AlW => z.2) e
  generalize hK : He.frT h.get? (He.asD h.get? n) = K at e1 e2
  have look : ∀ p ∈ tf, PySem.W.codeHdIn K (He.cT K p).1 (He.cT K p).2 = true ∧ ∃ o, h.get? (He.cT K p).2 = some o ∧ He.emptyTab o = true := fun p hp => by
    have := List.all_eq_true.mp e2 p hp
    rw [Bool.and_eq_true] at this
    refine ⟨this.1, ?_⟩
    have h2 := this.2
    split at h2
    · rename_i o ho
      exact ⟨o, ho, h2⟩
    · cases h2
  refine ⟨e1, fun p hp => (look p hp).1, fun p hp => ?_, fun p hp => ?_⟩
  · obtain ⟨_, o, a, b⟩ := look p hp
    have := He.frT_none (as := He.asD h.get? n) a b
    rw [hK] at this
    exact this
  · obtain ⟨_, o, a, b⟩ := look p hp
    rw [a, He.emptyTab_eq b]
def hookW (n : Nat) (fa : List He.Fa) (fn : List He.DefD) (ts : Tabs) (tf : List He.Defn) : PySem.W.Hook where
  α := AlW
  obs := fun s => obsWG n fa fn ts tf s.heap.get?
  val := fun w => valW fn ts w
  says := fun w h => ∃ K : PySem.W.Frag, K.In h ∧ SaysW fa fn ts tf w h K
  of := fun _ _ e => ⟨_, He.frT_in, saysW_of e⟩
  keeps := fun _ _ _ ⟨K, hK, c⟩ k => ⟨K, PySem.W.Frag.In.keeps hK k, ⟨c.v, c.hd, c.out, fun p hp => k _ _ (c.empty p hp)⟩⟩
theorem obsWG_eq {n : Nat} {fa : List He.Fa} {fn : List He.DefD} {ts : Tabs} {tf : List He.Defn} {g : Addr → Option Obj} {s : Shared} (h : ∀ a, g a = s.heap.get? a) : obsWG n fa fn ts tf g = (hookW n fa fn ts tf).obs s := by
  have e : g = s.heap.get? := funext h
  rw [e] <;> rfl
section
variable {fa : List He.Fa} {fn : List He.DefD} {ts : Tabs} {w : World} {K : PySem.W.Frag}
theorem SaysV.d (c : SaysV fa fn ts w K) : He.SaysD fa fn K := congrArg (fun z : AlV => z.1) c
theorem SaysV.tab (c : SaysV fa fn ts w K) {x : Str} {l : Tb} (h : (x, l) ∈ ts) : tabW K (He.ga K x) = some (kvIn w.params l) := by
  have e : ts.map (fun t => tabW K (He.ga K t.1)) = ts.map fun t => some (kvIn w.params t.2) := congrArg (fun z : AlV => z.2) c
  obtain ⟨i, hi⟩ := List.mem_iff_getElem?.mp h
  have e2 : (ts.map fun t => tabW K (He.ga K t.1))[i]? = (ts.map fun t => some (kvIn w.params t.2))[i]? := by rw [e]
  rw [List.getElem?_map, List.getElem?_map, hi] at e2
  exact Option.some.inj e2
theorem SaysV.fact (c : SaysV fa fn ts w K) {f : He.Fa} (h : f ∈ fa) : f.ok K = true := by
  obtain ⟨i, hi⟩ := List.mem_iff_getElem?.mp h
  exact c.d.fact i hi
end
/-! ### the text's top -/
def faD (x : Str) (d : D) : He.Fa := match d with
  | .int i => .int x i
  | .str z => .str x z
  | _ => .glo x
def isIS : D → Bool
  | .int _ => true
  | .str _ => true
  | _ => false
def excFa (c : Str) : List He.Fa := [.glo c, .exc c, .exm c c true]
def faOf (ds : List Dat) (free : List Str) (cst : List (Str × D)) (ts : Tabs) (xc : List Str) : List He.Fa := (.glo "law" :: ds.map fun d => .glo d.f.name) ++ (free.map .free ++ (cst.map (fun q => faD q.1 q.2) ++ ((ts.map fun t => .glo t.1) ++ xc.flatMap excFa)))
def dfd (x : Str) (st : Stmt) : He.DefD := ⟨(x, none), x, x, defArgs st, defBody st, defScope st, [], []⟩
def fnOf (st : Stmt) (ds : List Dat) : List He.DefD := dfd "law" st :: ds.map fun d => dfd d.f.name d.st
/-- how a def's arguments bind -/
def BnOk (x : Str) (st : Stmt) (ps : List Str) : Prop := ∀ (kV doc pm : Value) (an : Option Addr) (cdv ct : Value) (us : List Value), us.length = ps.length → bindArgs (PySem.W.fnOf x x (defArgs st) (defBody st) (defScope st) .none kV doc pm an cdv ct) ⟨us, []⟩ = pure (ps.zip us)
theorem lookup_mem {β : Type} : ∀ {l : List (Str × β)} {x : Str} {v : β}, l.lookup x = some v → (x, v) ∈ l
  | [], _, _, h => by cases h
  | (k, b) :: l, x, v, h => by
    rw [List.lookup_cons] at h
    split at h
    · rename_i e
      cases h
      rw [eq_of_beq e]
      exact List.mem_cons_self ..
    · exact List.mem_cons_of_mem _ (lookup_mem h)
section
variable {P : Program} {w : World} {K : PySem.W.Frag} {h : Heap} {mg : Str → Option Value} {stL : Stmt} {ds : List Dat} {free : List Str} {cst : List (Str × D)} {ts : Tabs} {xc : List Str}
theorem around (X : K.In h) (G : h.Ns mainGlobals mg) (c : SaysV (faOf ds free cst ts xc) (fnOf stL ds) ts w K) (T : Text ds free cst xc fun x => ts.lookup x) (hb : ∀ d ∈ ds, BnOk d.f.name d.st d.ps) (hi : cst.all (fun q => isIS q.2) = true) (base : Heap) (hlam : ∀ d ∈ ds, d.f.name = ("clash" : Str) → csT K = [He.cT K ("clash", none)] ∧ LamX.TabB base mg (He.cT K ("clash", none)).1 (He.cT K ("clash", none)).2) (k : Nat) :
    Around0 ⟨ds.map fun d => (d.f.name, d.f.row), free, cst, false, xc⟩ (fun x => ts.lookup x) (run (fun x => ts.lookup x) (ds.map (·.f)) k) k P w K mg base := by
  refine all_ok T (fun d hd => ?_) hlam (fun x hx => ?_) (fun x hx => ?_) (fun x d hx => ?_) (fun x l hx => ?_) k
  · have hm : dfd d.f.name d.st ∈ fnOf stL ds := List.mem_cons_of_mem _ (List.mem_map.mpr ⟨d, hd, rfl⟩)
    obtain ⟨i, hi⟩ := List.mem_iff_getElem?.mp hm
    obtain ⟨fd, F⟩ := c.d.def_ i hi
    have F' : FnP K d.f.name d.st (He.ga K d.f.name) fd := F
    exact ⟨_, fd, He.glo_ok X G (c.fact (List.mem_append_left _ (List.mem_cons_of_mem _ (List.mem_map.mpr ⟨d, hd, rfl⟩)))), F', F'.bindsN (hb d hd), rfl⟩
  · have inF : ∀ f ∈ excFa x, f ∈ faOf ds free cst ts xc := fun f hf => List.mem_append_right _ (List.mem_append_right _ (List.mem_append_right _ (List.mem_append_right _ (List.mem_flatMap.mpr ⟨x, hx, hf⟩))))
    have f1 := c.fact (inF (.glo x) (by simp [excFa]))
    have f2 := c.fact (inF (.exc x) (by simp [excFa]))
    have f3 := c.fact (inF (.exm x x true) (by simp [excFa]))
    obtain ⟨e1, e2, e3, e4⟩ := He.exc_ok f2
    have z := He.eqO_ok (show He.eqO (PySem.W.nsIn K mainGlobals x) (some (some (.ref (He.ga K x)))) = true from f1)
    exact ⟨He.ga K x, by unfold clsOf; rw [z], He.glo_ok X G f1, e1, e2, e3, e4, He.exm_ok f3⟩
  · exact He.free_ok X G (c.fact (List.mem_append_right _ (List.mem_append_left _ (List.mem_map.mpr ⟨x, hx, rfl⟩))))
  · have hm := lookup_mem hx
    have hf : faD x d ∈ faOf ds free cst ts xc := List.mem_append_right _ (List.mem_append_right _ (List.mem_append_left _ (List.mem_map.mpr ⟨(x, d), hm, rfl⟩)))
    have := List.all_eq_true.mp hi _ hm
    cases d with
    | int i =>
      obtain ⟨t, e⟩ := He.int_ok X G (c.fact hf)
      exact ⟨_, .int i, e, ⟨t, rfl⟩, fun _ _ => .int _⟩
    | str z =>
      obtain ⟨t, e⟩ := He.str_ok X G (c.fact hf)
      exact ⟨_, .str z, e, ⟨t, rfl⟩, fun _ _ => .str _⟩
    | _ => cases this
  · have hm := lookup_mem hx
    have hf : He.Fa.glo x ∈ faOf ds free cst ts xc := List.mem_append_right _ (List.mem_append_right _ (List.mem_append_right _ (List.mem_append_left _ (List.mem_map.mpr ⟨(x, l), hm, rfl⟩))))
    have ht := c.tab hm
    obtain ⟨es, n, D⟩ := He.dicW_ok (tab_dic ht)
    exact ⟨_, es, n, He.glo_ok X G (c.fact hf), D, tab_ns ht⟩
end
end Mi
end
section
set_option maxRecDepth 100000
set_option maxHeartbeats 1000000
/-! The law's own def: the row is laid, the rest is a term. -/
namespace Mi
open PySem PySem.Spec PyProof.Rows L2
def spLaw (K : PySem.W.Frag) : Sp := fun vs H Q _ => ∃ (a : Addr) (ns : List Int), vs = [.ref a] ∧ ns.length ≤ 63 ∧ SqL K H a (ns.map V.int) ∧ (∀ p ∈ csT K, H p.2 = some (.tbl #[])) ∧ ∀ H', Q (.bl true) H'
/-- a list may be locked ahead of a block -/
theorem _root_.L2.PSs.lockS {X : Cx} {st : List Stmt} {t : TS} (h : PSs X st t) : PSs X st (fun D σ H => t D σ H ∨ ∃ a xs, H a = some (.lst xs) ∧ ∀ od, t D σ (upd H a (.frz od (.lst xs)))) := ⟨fun pins s σ H D I q => by
  rcases q with q | ⟨a, xs, e, q⟩
  · exact h.run pins s σ H D I q
  · obtain ⟨od, I1⟩ := I.lock e trivial
    exact h.run pins s σ _ D I1 (q od)⟩
def isZ : Expr → Bool
  | .Constant (.int 0) _ _ => true
  | _ => false
def isSc (N : List Str) (sc : Scope) (x : Expr) : Bool := match x with
  | .Name x _ => okV N sc 0 x
  | _ => false
/-- _law_row = [_law_script, 0, 0, 0], then the rest -/
def lawHead (N : List Str) (sc : Scope) (sts : List Stmt) : Option (List Stmt) := match sts with
  | .Assign [.Name y p] (.List [x, z1, z2, z3] _) _ :: rest => if tgtN N sc 1 (.Name y p) && isSc N sc x && isZ z1 && isZ z2 && isZ z3 then some rest else none
  | _ => none
theorem isZ_pe {X : Cx} {e : Expr} (h : isZ e = true) : PE X e (tC (.int 0)) := by
  unfold isZ at h
  split at h
  · exact pe_int
  · cases h
theorem isZ_pl {e : Expr} (h : isZ e = true) : plainX e = true := by
  unfold isZ at h
  split at h
  · rfl
  · cases h
def okLaw (M : MTab) (tbl : TblS) (N : List Str) (st : Stmt) (body : Ss) : Bool := okSc N (N.take 1) (defScope st) && decide (1 < N.length) && (match lawHead N (defScope st) (defBody st) with
  | some rest => okSs M tbl N (defScope st) body rest
  | none => false)
def lawEnv (N : List Str) : SEnv := .no :: .row :: List.replicate (N.length - 2) .no
theorem law_ok {M : MTab} {tbl : TblS} {fs : List Fd} {P : Program} {w : World} {K : PySem.W.Frag} {mg : Str → Option Value} {base : Heap} {st : Stmt} {a : Addr} {fd : FuncData} {N : List Str} {body : Ss} {k : Nat} (hM : M.lam = false) (F : FnP K "law" st a fd) (ok : okLaw M tbl N st body = true) (c : Around0 M tbl (run tbl fs k) k P w K mg base)
    (pure : ∀ ns : List Int, ns.length ≤ 63 → ∃ t g', execs (run tbl fs k) tbl body (lawEnv N) ⟨ns, 0, 0, 0⟩ = some (.rt (.bool true) t g')) : FnOk P w K mg base CX0 (k + 1) a fd (N.take 1) (spLaw K) := by
  unfold okLaw at ok
  simp only [Bool.and_eq_true, decide_eq_true_eq] at ok
  obtain ⟨⟨h1, hN⟩, h2⟩ := ok
  have S := okSc_of h1
  have hps : (N.take 1).length = 1 := by rw [List.length_take]; omega
  have lens : ∀ vs H Q E, spLaw K vs H Q E → vs.length = (N.take 1).length := fun vs H Q E ⟨a, ns, e, _⟩ => by rw [e, hps]; rfl
  split at h2
  · rename_i rest hr
    unfold lawHead at hr
    split at hr
    · rename_i y p x z1 z2 z3 p6 p7 rest' hb
      split at hr
      · rename_i hc
        cases hr
        simp only [Bool.and_eq_true] at hc
        obtain ⟨⟨⟨⟨c1, c2⟩, c3⟩, c4⟩, c5⟩ := hc
        obtain ⟨y', p', e1, hi, hx⟩ := tgtN_inv c1
        cases e1
        unfold isSc at c2
        split at c2
        · rename_i x xp
          refine F.ok S lens (fun cdv A outer s H vs Q E hroom h => ⟨fun D σ H => (tSeq (tAsg (tLst (tCons (tVar 0) (tCons (tC (.int 0)) (tCons (tC (.int 0)) (tCons (tC (.int 0)) tNil))))) (gName 1)) (TSx K (fun _ _ _ _ => False) (execs (run tbl fs k) tbl body))) D σ H ∨ ∃ a xs, H a = some (.lst xs) ∧ ∀ od, (tSeq (tAsg (tLst (tCons (tVar 0) (tCons (tC (.int 0)) (tCons (tC (.int 0)) (tCons (tC (.int 0)) tNil))))) (gName 1)) (TSx K (fun _ _ _ _ => False) (execs (run tbl fs k) tbl body))) D σ (upd H a (.frz od (.lst xs))), PSs.nox (PSs.lockS ?_), ?_⟩)
          · have so := sok0_of (f := a) (cdv := cdv) (A := A) (outer := outer) (s := s) (H := H) (E := E) (qual := ("law" : Str)) (l := M.lam) S hroom c (fun z => by rw [hM] at z; cases z)
            rw [hb]
            refine pss_cons ?_ (sndSs body so h2)
            exact ps_set S.nd hi (by exact hx) (pe_lst (pa_cons (so.var c2) (pa_cons (isZ_pe c3) (pa_cons (isZ_pe c4) (pa_cons (isZ_pe c5) pa_nil (star_of (isZ_pl c5))) (star_of (isZ_pl c4))) (star_of (isZ_pl c3))) (star_of rfl))) rfl (.inl rfl)
          · obtain ⟨ad, ns, rfl, hl, hS, hT, q⟩ := h
            obtain ⟨t, g', hp⟩ := pure ns hl
            have hT0 : LamX.Tabs (tabT K) H := fun p hp => by
              obtain ⟨p', hp', rfl⟩ := List.mem_map.mp hp
              exact LamX.TabS.nil (hT p' hp')
            have core : ∀ H : Hp, FrS K H ad (ns.map V.int) → LamX.Tabs (tabT K) H → (tSeq (tAsg (tLst (tCons (tVar 0) (tCons (tC (.int 0)) (tCons (tC (.int 0)) (tCons (tC (.int 0)) tNil))))) (gName 1)) (TSx K (fun _ _ _ _ => False) (execs (run tbl fs k) tbl body))) { nx := fun _ H' => Q .non H', rt := Q } (L2.start N [V.ref ad]) H := fun H hF hT1 => by
              refine ⟨.ref ad, rfl, by show 4 ≤ sizeLine; rw [sizeLine_eq]; omega, fun R hR => ?_⟩
              have fr : FrS K (upd H R (.lst [.ref ad, .int 0, .int 0, .int 0])) ad (ns.map V.int) := hF.same (same_upd hR)
              have gr : GR K R ad (upd H R (.lst [.ref ad, .int 0, .int 0, .int 0])) ⟨ns, 0, 0, 0⟩ := ⟨upd_same, fr, hT1.ext (same_upd hR)⟩
              have hlenσ : (L2.start N [V.ref ad]).length = N.length := by
                unfold L2.start
                simp only [List.length_append, List.length_map, List.length_replicate, List.length_cons, List.length_nil]
                omega
              refine ⟨R, ad, _, fun _ => False, fun _ _ => False, lawEnv N, ⟨ns, 0, 0, 0⟩, _, ⟨?_, Ext.refl _ _, id, gr.ne, gr.ne, fun i a h => h.elim, fun i j a h => h.elim, fun i s h => ?_⟩, gr, hp, fun v H' x gr' r => ?_⟩
              · unfold lawEnv
                rw [List.length_set, hlenσ]
                simp only [List.length_cons, List.length_replicate]
                omega
              · unfold lawEnv at h
                match i, h with
                | 0, h => cases h; trivial
                | 1, h =>
                  cases h
                  show ((L2.start N [V.ref ad]).set 1 (some (V.ref R)))[1]? = _
                  exact List.getElem?_set_self (by rw [hlenσ]; exact hN)
                | i + 2, h =>
                  have h' : (List.replicate (N.length - 2) Sl.no)[i]? = some s := h
                  rw [get_rep h']
                  trivial
              · rw [r.bool_inv]
                exact q H'
            rcases hS with (z | ⟨o, z⟩) | z
            · exact .inr ⟨ad, _, z, fun od => core _ (.inl ⟨od, upd_same⟩) (tabs_upd z hT0)⟩
            · exact .inl (core H (.inl ⟨o, z⟩) hT0)
            · exact .inl (core H (.inr (.inr z)) hT0)
        · cases c2
      · cases hr
    · cases hr
  · cases h2
end Mi
end
section
set_option maxRecDepth 100000
set_option maxHeartbeats 1000000
/-! For the head. -/
namespace Mi
open PySem PySem.Spec PyProof.Rows L2
theorem finds_of : ∀ {ds : List Dat}, (ds.map (·.f.name)).Nodup → ∀ d ∈ ds, finds (ds.map (·.f)) d.f = some d.f
  | [], _, d, h => nomatch h
  | e :: r, hn, d, h => by
    rw [List.map_cons, List.nodup_cons] at hn
    unfold finds
    rw [List.map_cons, List.find?_cons]
    rcases List.mem_cons.mp h with z | z
    · subst z
      simp
    · have ne : (e.f.name == d.f.name) = false := beq_eq_false_iff_ne.mpr fun q => hn.1 (q ▸ List.mem_map.mpr ⟨d, z, rfl⟩)
      rw [ne, Bool.false_and]
      exact finds_of hn.2 d z
/-- the law's def keeps its promise, if its term answers True -/
theorem facts {l : PySem.W.OpenLaw} {w : World} {K : PySem.W.Frag} {h : Heap} {mg : Str → Option Value} {f : Addr} {stL : Stmt} {ds : List Dat} {free : List Str} {cst : List (Str × D)} {xc : List Str} {ts : Tabs} {tf : List He.Defn} {N : List Str} {body : Ss} {k : Nat} {x0 : Str} (X : K.In h) (G : h.Ns mainGlobals mg) (hfa : mg ("law" : Str) = some (.ref f))
    (c : SaysW (faOf ds free cst ts xc) (fnOf stL ds) ts tf w h K) (hc : (tf = [(("clash" : Str), none)] ∧ ∃ d ∈ ds, d.f.name = ("clash" : Str)) ∨ (("clash" : Str) ∈ free ∧ ∀ d ∈ ds, d.f.name ≠ ("clash" : Str))) (T : Text ds free cst xc fun x => ts.lookup x) (hb : ∀ d ∈ ds, BnOk d.f.name d.st d.ps) (hi : cst.all (fun q => isIS q.2) = true)
    (ok : okLaw ⟨ds.map fun d => (d.f.name, d.f.row), free, cst, false, xc⟩ (fun x => ts.lookup x) N stL body = true) (hN : N.take 1 = [x0]) (hbL : BnOk "law" stL (N.take 1))
    (pure : ∀ ns : List Int, ns.length ≤ 63 → ∃ t g', execs (run (fun x => ts.lookup x) (ds.map (·.f)) k) (fun x => ts.lookup x) body (lawEnv N) ⟨ns, 0, 0, 0⟩ = some (.rt (.bool true) t g')) :
    LamX.LawAtS l w K CX0 (k + 1) 63 x0 mg f h := by
  obtain ⟨fd, F⟩ := c.v.d.def_ 0 (d := dfd "law" stL) rfl
  have F' : FnP K "law" stL (He.ga K "law") fd := F
  have e := hfa.symm.trans (He.glo_ok X G (c.v.fact (f := .glo "law") (List.mem_append_left _ (List.mem_cons_self ..))))
  cases e
  have b := FunD.bindsA (ps := N.take 1) F' hbL
  have hcs : (csT K = [He.cT K ("clash", none)] ∧ tf = [(("clash" : Str), none)]) ∨ (csT K = [] ∧ ∀ d ∈ ds, d.f.name ≠ ("clash" : Str)) := by
    rcases hc with ⟨h1, d, hd, hn⟩ | ⟨h1, h2⟩
    · refine .inl ⟨?_, h1⟩
      have z := He.eqO_ok (show He.eqO (PySem.W.nsIn K mainGlobals "clash") (some (some (.ref (He.ga K "clash")))) = true from c.v.fact (f := .glo "clash") (List.mem_append_left _ (List.mem_cons_of_mem _ (List.mem_map.mpr ⟨d, hd, by rw [hn]⟩))))
      unfold csT
      rw [z]
    · refine .inr ⟨?_, h2⟩
      have z := He.eqO_ok (show He.eqO (PySem.W.nsIn K mainGlobals "clash") (some none) = true from c.v.fact (f := .free "clash") (List.mem_append_right _ (List.mem_append_left _ (List.mem_map.mpr ⟨_, h1, rfl⟩))))
      unfold csT
      rw [z]
  have inTf : ∀ p ∈ csT K, p = He.cT K ("clash", none) ∧ ((("clash" : Str), none) : He.Defn) ∈ tf := fun p hp => by
    rcases hcs with ⟨h1, h2⟩ | ⟨h1, h2⟩
    · rw [h1] at hp
      rw [h2]
      exact ⟨List.mem_singleton.mp hp, List.mem_singleton.mpr rfl⟩
    · rw [h1] at hp
      cases hp
  refine ⟨fd, csT K, spLaw K, fun p hp => ?_, fun p hp => ?_, fun p hp => ?_, fun s v => ?_, fun H a ns hl hbits hT hS => ⟨a, ns, rfl, hl, hS, hT, fun _ => rfl⟩, fun base hK hG hTB => ?_⟩
  · obtain ⟨rfl, h2⟩ := inTf p hp
    exact c.empty _ h2
  · obtain ⟨rfl, h2⟩ := inTf p hp
    exact c.out _ h2
  · obtain ⟨rfl, h2⟩ := inTf p hp
    exact PySem.W.codeHd_of_K X (c.hd _ h2)
  · have := b s [v] (by rw [hN]; rfl)
    rw [hN] at this
    exact this
  · have := law_ok (P := l.prog) (mg := mg) (base := base) rfl F' ok (around X G c.v T hb hi base (fun d hd hn => ?_) k) pure
    · rw [hN] at this
      exact this
    · rcases hcs with ⟨h1, h2⟩ | ⟨h1, h2⟩
      · exact ⟨h1, hTB _ (by rw [h1]; exact List.mem_singleton.mpr rfl)⟩
      · exact absurd hn (h2 d hd)
end Mi
end
section
set_option maxRecDepth 100000
set_option maxHeartbeats 400000
/-! Tools for the plain side: a term's meaning, step by step. -/
namespace Mi
open PySem PySem.Spec PyProof.Rows L2
theorem run_eq {tbl : TblS} {fs : List Fd} {k : Nat} {x : Str} {row : Bool} {f : Fd} {ds : List D} {g : G} (h : (fs.find? fun h => h.name == x && h.row == row) = some f) (hl : ds.length = f.ar) : run tbl fs (k + 1) x row ds g = (match execs (run tbl fs k) tbl f.body (entry f ds) g with
    | some (.rt d t g') => some (d, t, g')
    | some (.nx _ g') => some (.none, .fr, g')
    | some (.ex _ _ _) => none
    | none => none) := by
  have e : run tbl fs (k + 1) x row ds g = (match fs.find? fun f => f.name == x && f.row == row with
    | none => (match fs.find? fun f => xn f.name == x && f.row == row with
      | none => none
      | some f => runE tbl (run tbl fs k) f ds g)
    | some f => runF tbl (run tbl fs k) f ds g) := rfl
  rw [e, h]
  show runF tbl (run tbl fs k) f ds g = _
  unfold runF
  (rw [if_pos hl]) <;> rfl
theorem fmod_lt {a m : Int} (h : 0 < m) : 0 ≤ a.fmod m ∧ a.fmod m < m := ⟨Int.fmod_nonneg_of_pos a h, Int.fmod_lt_of_pos a h⟩
theorem atI_pos {α : Type} {xs : List α} {i : Int} (h0 : 0 ≤ i) (h : i.toNat < xs.length) : atI xs i = some xs[i.toNat] := by
  unfold atI ixN
  rw [if_pos h0, if_pos (by omega)]
  exact List.getElem?_eq_getElem h
/-! ### comprehensions -/
/-! ### literal texts -/
theorem ofs_inj {a b : String} (h : Str.ofString a = Str.ofString b) : a = b := by
  rw [Str.ofString_eq_toList, Str.ofString_eq_toList] at h
  have h1 : (a.toList.map Char.toNat).toArray = (b.toList.map Char.toNat).toArray := Str.mk.inj h
  have h2 : a.toList.map Char.toNat = b.toList.map Char.toNat := by simpa using h1
  have h3 : a.toList = b.toList := List.map_inj_right (fun x y e => Char.toNat_inj.mp e) |>.mp h2
  exact String.toList_inj.mp h3
theorem ofs_eq {a b : String} : (Str.ofString a = Str.ofString b) = (a = b) := propext ⟨ofs_inj, fun h => by rw [h]⟩
theorem ofs_beq {a b : String} : (Str.ofString a == Str.ofString b) = (a == b) := by
  rw [Bool.eq_iff_iff, beq_iff_eq, beq_iff_eq, ofs_eq]
/-! ### equality of data, by kinds -/
theorem qii (i j : Int) : PyData.eqv (.int i) (.int j) = (i == j) := by rw [PyData.eqv]
theorem qss (i j : Str) : PyData.eqv (.str i) (.str j) = (i == j) := by rw [PyData.eqv]
theorem qbb (i j : Bool) : PyData.eqv (.bool i) (.bool j) = (i == j) := by rw [PyData.eqv]
theorem qll (i j : List D) : PyData.eqv (.list i) (.list j) = PyData.eqvAll i j := by rw [PyData.eqv]
theorem qtt (i j : List D) : PyData.eqv (.tuple i) (.tuple j) = PyData.eqvAll i j := by rw [PyData.eqv]
theorem qnn : PyData.eqvAll [] [] = true := by rw [PyData.eqvAll]
theorem qcc (x y : D) (xs ys : List D) : PyData.eqvAll (x :: xs) (y :: ys) = (PyData.eqv x y && PyData.eqvAll xs ys) := by rw [PyData.eqvAll]
theorem qnc (y : D) (ys : List D) : PyData.eqvAll [] (y :: ys) = false := by rw [PyData.eqvAll]
theorem qcn (y : D) (ys : List D) : PyData.eqvAll (y :: ys) [] = false := by rw [PyData.eqvAll]
theorem qst (i : Str) (j : List D) : PyData.eqv (.str i) (.tuple j) = false := by rw [PyData.eqv]
theorem qts (i : Str) (j : List D) : PyData.eqv (.tuple j) (.str i) = false := by rw [PyData.eqv]
theorem in_list {x : D} {ys : List D} : inD x (.list ys) = if min (PyData.depthAll ys) x.depth ≤ 60 then some (ys.any fun z => PyData.eqv z x) else none := by
  unfold inD
  rfl
theorem in_tup {x : D} {ys : List D} : inD x (.tuple ys) = if min (PyData.depthAll ys) x.depth ≤ 60 then some (ys.any fun z => PyData.eqv z x) else none := by
  unfold inD
  rfl
end Mi
end
section
set_option maxRecDepth 100000
set_option maxHeartbeats 400000
/-! What a term answers, asked from behind. -/
namespace Mi
open PySem PySem.Spec PyProof.Rows L2
structure W (o : Option (D × Tag × G)) (Q : D → Tag → G → Prop) : Prop where
  h : match o with
    | some (d, t, g) => Q d t g
    | none => False
structure WL (o : Option (List D × Tag × G)) (Q : List D → Tag → G → Prop) : Prop where
  h : match o with
    | some (d, t, g) => Q d t g
    | none => False
structure WC (o : Option (Bool × G)) (Q : Bool → G → Prop) : Prop where
  h : match o with
    | some (b, g) => Q b g
    | none => False
structure WO (o : Option (Option Int × G)) (Q : Option Int → G → Prop) : Prop where
  h : match o with
    | some (b, g) => Q b g
    | none => False
structure WX (o : Option Out) (N : SEnv → G → Prop) (R : D → Tag → G → Prop) (Z : Str → G → Prop := fun _ _ => False) : Prop where
  h : match o with
    | some (.nx ρ g) => N ρ g
    | some (.rt d t g) => R d t g
    | some (.ex c _ g) => Z c g
    | none => False
structure Is {α : Type} (o : Option α) (Q : α → Prop) : Prop where
  h : match o with
    | some a => Q a
    | none => False
structure IB (d : D) (Q : Bool → Prop) : Prop where
  h : match d with
    | .bool b => Q b
    | _ => False
structure II (d : D) (Q : Int → Prop) : Prop where
  h : match d with
    | .int b => Q b
    | _ => False
/-- both ways of a test -/
def Two (c : Bool) (A B : Prop) : Prop := (c = true → A) ∧ (c = false → B)
theorem two_t {c : Bool} {A B : Prop} (h : c = true) (a : A) : Two c A B := ⟨fun _ => a, fun e => by rw [h] at e; cases e⟩
theorem two_f {c : Bool} {A B : Prop} (h : c = false) (a : B) : Two c A B := ⟨fun e => by (rw [h] at e; cases e), fun _ => a⟩
theorem two {c : Bool} {A B : Prop} (h : c = true → A) (k : c = false → B) : Two c A B := ⟨h, k⟩
def Ln (ds : List D) (P : Prop) : Prop := ds.length ≤ LINE ∧ P
def Sm (i : Int) (P : Prop) : Prop := SMALL i ∧ P
def Dn (i : Int) (P : Prop) : Prop := i = -1 ∧ P
theorem Dn_ok {i : Int} {P : Prop} (h : i = -1) (p : P) : Dn i P := ⟨h, p⟩
def Nb (t : Tag) (P : Prop) : Prop := t ≠ .bo ∧ P
def Ap (ρ : SEnv) (i : Nat) (d : D) (t : Tag) (N : SEnv → Prop) : Prop := ∃ ds, ρ[i]? = some (.own (.list ds)) ∧ fresh d t = true ∧ ds.length < 1000000 ∧ N (ρ.set i (.own (.list (ds ++ [d]))))
def Sp_ (ρ : SEnv) (i k : Nat) (d : D) (N : SEnv → Prop) : Prop := ∃ s s', ρ[i]? = some s ∧ spoil s k = some s' ∧ lf d = true ∧ N (ρ.set i s')
def Re_ (ρ : SEnv) (i : Nat) (d : D) (N : SEnv → Prop) : Prop := ∃ ds j, ρ[i]? = some (.own (.list ds)) ∧ min (PyData.depthAll ds) d.depth ≤ 60 ∧ SeqAt.dataPlace ds d = some j ∧ N (ρ.set i (.own (.list (ds.eraseIdx j))))
def Et_ (ρ : SEnv) (i : Nat) (d : D) (t : Tag) (N : SEnv → Prop) : Prop := ∃ ds es, ρ[i]? = some (.own (.list ds)) ∧ d = .list es ∧ freshL es t = true ∧ ds.length + es.length < 1000000 ∧ N (ρ.set i (.own (.list (ds ++ es))))
theorem Ln_ok {ds : List D} {P : Prop} (h : ds.length ≤ 1000000) (p : P) : Ln ds P := ⟨by unfold LINE; omega, p⟩
theorem Sm_ok {i : Int} {P : Prop} (h : -1000000 ≤ i ∧ i ≤ 1000000) (p : P) : Sm i P := ⟨h, p⟩
theorem Nb_fr {t : Tag} {P : Prop} (h : t = .fr) (p : P) : Nb t P := ⟨by rw [h]; exact nofun, p⟩
theorem Nb_fz {t : Tag} {P : Prop} (h : t = .fz) (p : P) : Nb t P := ⟨by rw [h]; exact nofun, p⟩
theorem Ap_ok {ρ : SEnv} {i : Nat} {d : D} {t : Tag} {N : SEnv → Prop} {ds : List D} (e : ρ[i]? = some (.own (.list ds))) (f : fresh d t = true) (l : ds.length < 1000000) {ρ' : SEnv} (z : ρ.set i (.own (.list (ds ++ [d]))) = ρ') (h : N ρ') : Ap ρ i d t N := by subst z; exact ⟨ds, e, f, l, h⟩
theorem Re_ok {ρ : SEnv} {i : Nat} {d : D} {N : SEnv → Prop} {ds : List D} {j : Nat} (e : ρ[i]? = some (.own (.list ds))) (f : min (PyData.depthAll ds) d.depth ≤ 60) (l : SeqAt.dataPlace ds d = some j) (h : N (ρ.set i (.own (.list (ds.eraseIdx j))))) : Re_ ρ i d N := ⟨ds, j, e, f, l, h⟩
theorem IB_b {c : Bool} {Q : Bool → Prop} (h : Q c) : IB (.bool c) Q := ⟨h⟩
theorem II_i {c : Int} {Q : Int → Prop} (h : Q c) : II (.int c) Q := ⟨h⟩
theorem Is_s {α : Type} {a : α} {o : Option α} {Q : α → Prop} (e : o = some a) (h : Q a) : Is o Q := by rw [e]; (first | exact h | exact ⟨h⟩)
theorem W_is {o : Option (D × Tag × G)} {d t g} {Q : D → Tag → G → Prop} (e : o = some (d, t, g)) (h : Q d t g) : W o Q := by rw [e]; (first | exact h | exact ⟨h⟩)
theorem W_ex {o : Option (D × Tag × G)} {Q : D → Tag → G → Prop} (h : W o Q) : ∃ d t g, o = some (d, t, g) ∧ Q d t g := by
  replace h := h.h
  split at h
  · exact ⟨_, _, _, rfl, h⟩
  · exact h.elim
/-- what it answers, if it answers just one thing -/
theorem W_eq {o : Option (D × Tag × G)} {d t g} (h : W o fun d' t' g' => d' = d ∧ t' = t ∧ g' = g) : o = some (d, t, g) := by
  obtain ⟨d', t', g', e, rfl, rfl, rfl⟩ := W_ex h
  exact e
theorem WL_ex {o : Option (List D × Tag × G)} {Q : List D → Tag → G → Prop} (h : WL o Q) : ∃ d t g, o = some (d, t, g) ∧ Q d t g := by
  replace h := h.h
  split at h
  · exact ⟨_, _, _, rfl, h⟩
  · exact h.elim
theorem WC_ex {o : Option (Bool × G)} {Q : Bool → G → Prop} (h : WC o Q) : ∃ d g, o = some (d, g) ∧ Q d g := by
  replace h := h.h
  split at h
  · exact ⟨_, _, rfl, h⟩
  · exact h.elim
theorem WO_ex {o : Option (Option Int × G)} {Q : Option Int → G → Prop} (h : WO o Q) : ∃ d g, o = some (d, g) ∧ Q d g := by
  replace h := h.h
  split at h
  · exact ⟨_, _, rfl, h⟩
  · exact h.elim
theorem Is_ex {α : Type} {o : Option α} {Q : α → Prop} (h : Is o Q) : ∃ d, o = some d ∧ Q d := by
  replace h := h.h
  split at h
  · exact ⟨_, rfl, h⟩
  · exact h.elim
theorem IB_ex {d : D} {Q : Bool → Prop} (h : IB d Q) : ∃ b, d = .bool b ∧ Q b := by
  replace h := h.h
  split at h
  · exact ⟨_, rfl, h⟩
  · exact h.elim
theorem II_ex {d : D} {Q : Int → Prop} (h : II d Q) : ∃ b, d = .int b ∧ Q b := by
  replace h := h.h
  split at h
  · exact ⟨_, rfl, h⟩
  · exact h.elim
theorem WX_e3 {o : Option Out} {N R Z} (h : WX o N R Z) : (∃ ρ g, o = some (.nx ρ g) ∧ N ρ g) ∨ (∃ d t g, o = some (.rt d t g) ∧ R d t g) ∨ ∃ c ρ g, o = some (.ex c ρ g) ∧ Z c g := by
  replace h := h.h
  split at h
  · exact .inl ⟨_, _, rfl, h⟩
  · exact .inr (.inl ⟨_, _, _, rfl, h⟩)
  · exact .inr (.inr ⟨_, _, _, rfl, h⟩)
  · exact h.elim
theorem WX_ex {o : Option Out} {N R} (h : WX o N R) : (∃ ρ g, o = some (.nx ρ g) ∧ N ρ g) ∨ ∃ d t g, o = some (.rt d t g) ∧ R d t g := by
  rcases WX_e3 h with h | h | ⟨_, _, _, _, h⟩
  · exact .inl h
  · exact .inr h
  · exact h.elim
theorem WX_mono {o : Option Out} {N N' : SEnv → G → Prop} {R R' : D → Tag → G → Prop} (h : WX o N R) (k : ∀ ρ g, N ρ g → N' ρ g) (l : ∀ d t g, R d t g → R' d t g) : WX o N' R' := by
  rcases WX_ex h with ⟨ρ, g, e, q⟩ | ⟨d, t, g, e, q⟩
  · rw [e]; exact ⟨k _ _ q⟩
  · rw [e]; exact ⟨l _ _ _ q⟩
section
variable {call : Call} {tbl : TblS} {ρ : Ex} {g : G} {Q : D → Tag → G → Prop} {a b c e : E}
theorem W_cst {d : D} (h : Q d .fr g) : W (evE call tbl ρ (.cst d) g) Q := by
  rw [evE]; (first | exact h | exact ⟨h⟩)
theorem W_glo {x : Str} {d : D} (h : Q d .fr g) : W (evE call tbl ρ (.glo x d) g) Q := by
  rw [evE]; (first | exact h | exact ⟨h⟩)
theorem W_var {i : Nat} {d : D} {t u : Tag} (e : ρ[i]? = some (.val d t)) (n : nrm d t = u) (h : Q d u g) : W (evE call tbl ρ (.var i) g) Q := by
  subst n
  rw [evE, e]; (first | exact h | exact ⟨h⟩)
theorem W_bin {o : BOp} (h : W (evE call tbl ρ a g) fun x t g1 => W (evE call tbl ρ b g1) fun y u g2 => Is (binD o x y) fun d => Q d (nrm d (t.mx u)) g2) : W (evE call tbl ρ (.bin o a b) g) Q := by
  obtain ⟨x, t, g1, e1, h⟩ := W_ex h
  obtain ⟨y, u, g2, e2, h⟩ := W_ex h
  obtain ⟨d, e3, h⟩ := Is_ex h
  simp only [evE, e1, e2, e3]
  (first | exact h | exact ⟨h⟩)
theorem W_neg (h : W (evE call tbl ρ a g) fun x _ g1 => II x fun i => Q (.int (-i)) .fr g1) : W (evE call tbl ρ (.neg a) g) Q := by
  obtain ⟨x, t, g1, e1, h⟩ := W_ex h
  obtain ⟨i, rfl, hh⟩ := II_ex h
  simp only [evE, e1]
  first | exact hh | exact ⟨hh⟩
theorem W_not (h : W (evE call tbl ρ a g) fun x _ g1 => IB x fun i => Q (.bool (!i)) .fr g1) : W (evE call tbl ρ (.not a) g) Q := by
  obtain ⟨x, t, g1, e1, h⟩ := W_ex h
  obtain ⟨i, rfl, hh⟩ := IB_ex h
  simp only [evE, e1]
  first | exact hh | exact ⟨hh⟩
theorem W_and (h : W (evE call tbl ρ a g) fun x _ g1 => IB x fun i => Two i (W (evE call tbl ρ b g1) Q) (Q (.bool false) .fr g1)) : W (evE call tbl ρ (.and a b) g) Q := by
  obtain ⟨x, t, g1, e1, h⟩ := W_ex h
  obtain ⟨i, rfl, hh⟩ := IB_ex h
  cases i with
  | true => simp only [evE, e1]; (first | exact hh.1 rfl | exact ⟨hh.1 rfl⟩)
  | false => simp only [evE, e1]; (first | exact hh.2 rfl | exact ⟨hh.2 rfl⟩)
theorem W_or (h : W (evE call tbl ρ a g) fun x _ g1 => IB x fun i => Two i (Q (.bool true) .fr g1) (W (evE call tbl ρ b g1) Q)) : W (evE call tbl ρ (.or a b) g) Q := by
  obtain ⟨x, t, g1, e1, h⟩ := W_ex h
  obtain ⟨i, rfl, hh⟩ := IB_ex h
  cases i with
  | true => simp only [evE, e1]; (first | exact hh.1 rfl | exact ⟨hh.1 rfl⟩)
  | false => simp only [evE, e1]; (first | exact hh.2 rfl | exact ⟨hh.2 rfl⟩)
theorem W_cmp {o : COp} (h : W (evE call tbl ρ a g) fun x _ g1 => W (evE call tbl ρ b g1) fun y _ g2 => Is (cmpD o x y) fun r => Q (.bool r) .fr g2) : W (evE call tbl ρ (.cmp o a b) g) Q := by
  obtain ⟨x, t, g1, e1, h⟩ := W_ex h
  obtain ⟨y, u, g2, e2, h⟩ := W_ex h
  obtain ⟨d, e3, h⟩ := Is_ex h
  simp only [evE, e1, e2, e3]
  (first | exact h | exact ⟨h⟩)
theorem W_chn {o p : COp} (h : W (evE call tbl ρ a g) fun x _ g1 => W (evE call tbl ρ b g1) fun y _ g2 => Is (cmpD o x y) fun r => Two r (W (evE call tbl ρ c g2) fun z _ g3 => Is (cmpD p y z) fun s => Q (.bool s) .fr g3) (Q (.bool false) .fr g2)) : W (evE call tbl ρ (.chn o p a b c) g) Q := by
  obtain ⟨x, t, g1, e1, h⟩ := W_ex h
  obtain ⟨y, u, g2, e2, h⟩ := W_ex h
  obtain ⟨r, e3, h⟩ := Is_ex h
  cases r with
  | false => simp only [evE, e1, e2, e3]; (first | exact h.2 rfl | exact ⟨h.2 rfl⟩)
  | true =>
    obtain ⟨z, v, g3, e4, h⟩ := W_ex (h.1 rfl)
    obtain ⟨s, e5, h⟩ := Is_ex h
    simp only [evE, e1, e2, e3, e4, e5]; (first | exact h | exact ⟨h⟩)
theorem W_isN (h : W (evE call tbl ρ a g) fun x _ g1 => Q (.bool (isNone x)) .fr g1) : W (evE call tbl ρ (.isN a) g) Q := by
  obtain ⟨x, t, g1, e1, h⟩ := W_ex h
  simp only [evE, e1]
  cases hx : isNone x <;> (rw [hx] at h; (first | exact h | exact ⟨h⟩))
theorem W_noN (h : W (evE call tbl ρ a g) fun x _ g1 => Q (.bool (!isNone x)) .fr g1) : W (evE call tbl ρ (.noN a) g) Q := by
  obtain ⟨x, t, g1, e1, h⟩ := W_ex h
  simp only [evE, e1]
  cases hx : isNone x <;> (rw [hx] at h; (first | exact h | exact ⟨h⟩))
theorem W_ite (h : W (evE call tbl ρ c g) fun x _ g1 => IB x fun i => Two i (W (evE call tbl ρ a g1) Q) (W (evE call tbl ρ b g1) Q)) : W (evE call tbl ρ (.ite c a b) g) Q := by
  obtain ⟨x, t, g1, e1, h⟩ := W_ex h
  obtain ⟨i, rfl, hh⟩ := IB_ex h
  cases i with
  | true => simp only [evE, e1]; (first | exact hh.1 rfl | exact ⟨hh.1 rfl⟩)
  | false => simp only [evE, e1]; (first | exact hh.2 rfl | exact ⟨hh.2 rfl⟩)
theorem W_tup {es : Es} (h : WL (evEs call tbl ρ es g) fun ds t g1 => Ln ds (Q (.tuple ds) t g1)) : W (evE call tbl ρ (.tup es) g) Q := by
  obtain ⟨x, t, g1, e1, h, k⟩ := WL_ex h
  simp only [evE, e1, if_pos h]
  (first | exact k | exact ⟨k⟩)
theorem W_lst {es : Es} (h : WL (evEs call tbl ρ es g) fun ds t g1 => Ln ds (Q (.list ds) t g1)) : W (evE call tbl ρ (.lst es) g) Q := by
  obtain ⟨x, t, g1, e1, h, k⟩ := WL_ex h
  simp only [evE, e1, if_pos h]
  (first | exact k | exact ⟨k⟩)
theorem W_sub (h : W (evE call tbl ρ a g) fun x t g1 => W (evE call tbl ρ b g1) fun y _ g2 => Is (idxD x y) fun d => Q d (nrm d t) g2) : W (evE call tbl ρ (.sub a b) g) Q := by
  obtain ⟨x, t, g1, e1, h⟩ := W_ex h
  obtain ⟨y, u, g2, e2, h⟩ := W_ex h
  obtain ⟨d, e3, h⟩ := Is_ex h
  simp only [evE, e1, e2, e3]
  (first | exact h | exact ⟨h⟩)
theorem W_dget {i : Nat} {es : List (List L2.Key × D)} (ei : ρ[i]? = some (.dct es)) (h : W (evE call tbl ρ a g) fun x _ g1 => Is (dkeyD x) fun k => Is (getE es k) fun d => Q d (nrm d .bo) g1) : W (evE call tbl ρ (.dget i a) g) Q := by
  obtain ⟨x, t, g1, e1, h⟩ := W_ex h
  obtain ⟨k, e2, h⟩ := Is_ex h
  obtain ⟨d, e3, h⟩ := Is_ex h
  simp only [evE, e1, ei, e2, e3]
  (first | exact h | exact ⟨h⟩)
theorem W_slc {lo hi : Es} (h : W (evE call tbl ρ a g) fun x t g1 => WO (evO call tbl ρ lo g1) fun l g2 => WO (evO call tbl ρ hi g2) fun u g3 => Is (slcD x l u) fun d => Q d (nrm d t) g3) : W (evE call tbl ρ (.slc a lo hi) g) Q := by
  obtain ⟨x, t, g1, e1, h⟩ := W_ex h
  obtain ⟨y, g2, e2, h⟩ := WO_ex h
  obtain ⟨z, g3, e3, h⟩ := WO_ex h
  obtain ⟨d, e4, h⟩ := Is_ex h
  simp only [evE, e1, e2, e3, e4]
  (first | exact h | exact ⟨h⟩)
/-- a comprehension's turn -/
def turnF (call : Call) (tbl : TblS) (ρ : Ex) (elt : E) (tg : Tg) (cs : Es) (t : Tag) (x : D) (g : G) : Option (Option (D × Tag) × G) := match setT tg x (nrm x t) (wipeX ρ tg.list) with
  | none => none
  | some ρ' => match evC call tbl ρ' cs g with
    | none => none
    | some (false, g2) => some (none, g2)
    | some (true, g2) => match evE call tbl ρ' elt g2 with
      | none => none
      | some (d, u, g3) => some (some (d, u), g3)
theorem W_comp {elt : E} {tg : Tg} {it : It} {cs : Es} (h : WL (evI call tbl ρ it g) fun xs t g1 => WL (compL (turnF call tbl ρ elt tg cs t) xs g1) fun ys u g2 => Q (.list ys) u g2) : W (evE call tbl ρ (.comp elt tg it cs) g) Q := by
  obtain ⟨x, t, g1, e1, h⟩ := WL_ex h
  obtain ⟨y, u, g2, e2, h⟩ := WL_ex h
  simp only [evE, e1]
  change W (match compL (turnF call tbl ρ elt tg cs t) x g1 with
    | none => none
    | some (ys, u, g2) => some (.list ys, u, g2)) Q
  rw [e2]
  (first | exact h | exact ⟨h⟩)
/-- what a turn answers -/
structure WT (o : Option (Option (D × Tag) × G)) (Q : D → Tag → G → Prop) (N : G → Prop) : Prop where
  h : match o with
    | some (some (d, t), g) => Q d t g
    | some (none, g) => N g
    | none => False
theorem WT_cmp {elt : E} {tg : Tg} {cs : Es} {t : Tag} {x : D} {N : G → Prop} {ρ' : Ex} (e : setT tg x (nrm x t) (wipeX ρ tg.list) = some ρ') (h : WC (evC call tbl ρ' cs g) fun b g2 => Two b (W (evE call tbl ρ' elt g2) Q) (N g2)) : WT (turnF call tbl ρ elt tg cs t x g) Q N := by
  obtain ⟨b, g2, e2, h⟩ := WC_ex h
  unfold turnF
  rw [e]
  dsimp only
  rw [e2]
  cases b with
  | false => (first | exact h.2 rfl | exact ⟨h.2 rfl⟩)
  | true =>
    obtain ⟨d, u, g3, e3, h⟩ := W_ex (h.1 rfl)
    dsimp only
    rw [e3]
    (first | exact h | exact ⟨h⟩)
theorem WT_ex {o : Option (Option (D × Tag) × G)} {N : G → Prop} (h : WT o Q N) : (∃ d t g, o = some (some (d, t), g) ∧ Q d t g) ∨ ∃ g, o = some (none, g) ∧ N g := by
  replace h := h.h
  split at h
  · exact .inl ⟨_, _, _, rfl, h⟩
  · exact .inr ⟨_, rfl, h⟩
  · exact h.elim
theorem W_isi {T : String} (h : W (evE call tbl ρ a g) fun x _ g1 => Is (isiD T x) fun r => Q (.bool r) .fr g1) : W (evE call tbl ρ (.isi T a) g) Q := by
  obtain ⟨x, t, g1, e1, h⟩ := W_ex h
  obtain ⟨d, e2, h⟩ := Is_ex h
  simp only [evE, e1, e2]
  (first | exact h | exact ⟨h⟩)
theorem W_isq {f : Bool} (h : W (evE call tbl ρ a g) fun x _ g1 => Q (.bool (isqD x)) .fr g1) : W (evE call tbl ρ (.isq f a) g) Q := by
  obtain ⟨x, t, g1, e1, h⟩ := W_ex h
  simp only [evE, e1]
  (first | exact h | exact ⟨h⟩)
theorem W_join {z : Str} (h : W (evE call tbl ρ a g) fun x _ g1 => Is (joinD z x) fun r => Q r .fr g1) : W (evE call tbl ρ (.join z a) g) Q := by
  obtain ⟨x, t, g1, e1, h⟩ := W_ex h
  obtain ⟨d, e2, h⟩ := Is_ex h
  simp only [evE, e1, e2]
  (first | exact h | exact ⟨h⟩)
theorem W_lcp (h : W (evE call tbl ρ a g) fun x _ g1 => Is (cpD x) fun ds => Q (.list ds) .fr g1) : W (evE call tbl ρ (.lcp a) g) Q := by
  obtain ⟨x, t, g1, e1, h⟩ := W_ex h
  obtain ⟨d, e2, h⟩ := Is_ex h
  simp only [evE, e1, e2]
  (first | exact h | exact ⟨h⟩)
theorem W_sset (h : W (evE call tbl ρ a g) fun x _ g1 => Is (ssetD x) fun ds => Q (.list ds) .fr g1) : W (evE call tbl ρ (.sset a) g) Q := by
  obtain ⟨x, t, g1, e1, h⟩ := W_ex h
  obtain ⟨d, e2, h⟩ := Is_ex h
  simp only [evE, e1, e2]
  (first | exact h | exact ⟨h⟩)
theorem W_scp {lo hi : Es} (h : W (evE call tbl ρ a g) fun x t g1 => WO (evO call tbl ρ lo g1) fun l g2 => WO (evO call tbl ρ hi g2) fun u g3 => Is (scpD x l u) fun ds => Q (.list ds) .fr g3) : W (evE call tbl ρ (.scp a lo hi) g) Q := by
  obtain ⟨x, t, g1, e1, h⟩ := W_ex h
  obtain ⟨y, g2, e2, h⟩ := WO_ex h
  obtain ⟨z, g3, e3, h⟩ := WO_ex h
  obtain ⟨d, e4, h⟩ := Is_ex h
  simp only [evE, e1, e2, e3, e4]
  (first | exact h | exact ⟨h⟩)
theorem W_lrg (h : W (evE call tbl ρ a g) fun x _ g1 => II x fun n => Sm n (Q (.list (rngItems 0 n.toNat)) .fr g1)) : W (evE call tbl ρ (.lrg a) g) Q := by
  obtain ⟨x, t, g1, e1, h⟩ := W_ex h
  obtain ⟨i, rfl, h1, h2⟩ := II_ex h
  simp only [evE, e1, if_pos h1]
  (first | exact h2 | exact ⟨h2⟩)
theorem W_bi {f : Bi} {es : Es} (h : WL (evEs call tbl ρ es g) fun ds t g1 => Is (biD f ds) fun d => Q d (nrm d t) g1) : W (evE call tbl ρ (.bi f es) g) Q := by
  obtain ⟨x, t, g1, e1, h⟩ := WL_ex h
  obtain ⟨d, e2, h⟩ := Is_ex h
  simp only [evE, e1, e2]
  (first | exact h | exact ⟨h⟩)
def ctag (t u : Tag) : Tag := match u with | .fr => Tag.fr | _ => t
theorem W_call {f : Str} {row : Option Nat} {es : Es} (r : rowOk row ρ = true) (h : WL (evEs call tbl ρ es g) fun ds t g1 => W (call f row.isSome ds g1) fun d u g2 => Q d (ctag t u) g2) : W (evE call tbl ρ (.call f row es) g) Q := by
  obtain ⟨x, t, g1, e1, h⟩ := WL_ex h
  obtain ⟨d, u, g2, e2, h⟩ := W_ex h
  simp only [evE, r, e1, e2]
  (first | exact h | exact ⟨h⟩)
theorem W_call0 {f : Str} {es : Es} (h : WL (evEs call tbl ρ es g) fun ds t g1 => W (call f false ds g1) fun d u g2 => Q d (ctag t u) g2) : W (evE call tbl ρ (.call f none es) g) Q := W_call rfl h
theorem W_callR {f : Str} {i : Nat} {es : Es} (r : rowOk (some i) ρ = true) (h : WL (evEs call tbl ρ es g) fun ds t g1 => W (call f true ds g1) fun d u g2 => Q d (ctag t u) g2) : W (evE call tbl ρ (.call f (some i) es) g) Q := W_call r h
theorem W_meth {f : Mt} (h : W (evE call tbl ρ a g) fun x _ g1 => W (evE call tbl ρ b g1) fun y _ g2 => Is (mtD f x y) fun d => Q d (nrm d .bo) g2) : W (evE call tbl ρ (.meth f a b) g) Q := by
  obtain ⟨x, t, g1, e1, h⟩ := W_ex h
  obtain ⟨y, u, g2, e2, h⟩ := W_ex h
  obtain ⟨d, e3, h⟩ := Is_ex h
  simp only [evE, e1, e2, e3]
  (first | exact h | exact ⟨h⟩)
structure IS (d : D) (Q : Str → Prop) : Prop where
  h : match d with
    | .str b => Q b
    | _ => False
theorem IS_ex {d : D} {Q : Str → Prop} (h : IS d Q) : ∃ b, d = .str b ∧ Q b := by
  replace h := h.h
  split at h
  · exact ⟨_, rfl, h⟩
  · exact h.elim
theorem IS_s {c : Str} {Q : Str → Prop} (h : Q c) : IS (.str c) Q := ⟨h⟩
theorem W_inG {x : Str} {neg : Bool} {l : List (Str × Str)} (t : tbl x = some l) (h : W (evE call tbl ρ a g) fun d _ g1 => IS d fun k => Q (.bool ((l.lookup k).isSome != neg)) .fr g1) : W (evE call tbl ρ (.inG x neg a) g) Q := by
  obtain ⟨y, u, g1, e1, h⟩ := W_ex h
  obtain ⟨k, rfl, hh⟩ := IS_ex h
  simp only [evE, e1, t]
  first | exact hh | exact ⟨hh⟩
theorem W_getG {x : Str} {l : List (Str × Str)} (t : tbl x = some l) (h : W (evE call tbl ρ a g) fun d _ g1 => IS d fun k => Is (l.lookup k) fun v => Q (.str v) .fr g1) : W (evE call tbl ρ (.getG x a) g) Q := by
  obtain ⟨y, u, g1, e1, h⟩ := W_ex h
  obtain ⟨k, rfl, hh⟩ := IS_ex h
  obtain ⟨d, e3, h3⟩ := Is_ex hh
  simp only [evE, e1, t, e3]
  exact ⟨h3⟩
theorem WL_nil {Q : List D → Tag → G → Prop} (h : Q [] .fr g) : WL (evEs call tbl ρ .nil g) Q := by
  rw [evEs]; (first | exact h | exact ⟨h⟩)
theorem WL_cons {Q : List D → Tag → G → Prop} {es : Es} (h : W (evE call tbl ρ e g) fun d t g1 => WL (evEs call tbl ρ es g1) fun ds u g2 => Q (d :: ds) (t.mx u) g2) : WL (evEs call tbl ρ (.cons e es) g) Q := by
  obtain ⟨x, t, g1, e1, h⟩ := W_ex h
  obtain ⟨y, u, g2, e2, h⟩ := WL_ex h
  simp only [evEs, e1, e2]
  (first | exact h | exact ⟨h⟩)
theorem WO_nil {Q : Option Int → G → Prop} (h : Q none g) : WO (evO call tbl ρ .nil g) Q := by
  rw [evO]; (first | exact h | exact ⟨h⟩)
theorem WO_cons {Q : Option Int → G → Prop} {es : Es} (h : W (evE call tbl ρ e g) fun d _ g1 => II d fun i => Q (some i) g1) : WO (evO call tbl ρ (.cons e es) g) Q := by
  obtain ⟨x, t, g1, e1, h⟩ := W_ex h
  obtain ⟨i, rfl, hh⟩ := II_ex h
  simp only [evO, e1]
  first | exact hh | exact ⟨hh⟩
theorem WC_nil {Q : Bool → G → Prop} (h : Q true g) : WC (evC call tbl ρ .nil g) Q := by
  rw [evC]; (first | exact h | exact ⟨h⟩)
theorem WC_cons {Q : Bool → G → Prop} {es : Es} (h : W (evE call tbl ρ e g) fun d _ g1 => IB d fun i => Q i g1) : WC (evC call tbl ρ (.cons e es) g) Q := by
  obtain ⟨x, t, g1, e1, h⟩ := W_ex h
  obtain ⟨i, rfl, hh⟩ := IB_ex h
  simp only [evC, e1]
  first | exact hh | exact ⟨hh⟩
theorem WI_val {Q : List D → Tag → G → Prop} (h : W (evE call tbl ρ e g) fun d t g1 => Is (items d) fun xs => Q xs t g1) : WL (evI call tbl ρ (.val e) g) Q := by
  obtain ⟨x, t, g1, e1, h⟩ := W_ex h
  obtain ⟨i, e2, h⟩ := Is_ex h
  simp only [evI, e1, e2]
  (first | exact h | exact ⟨h⟩)
theorem WI_rng1 {Q : List D → Tag → G → Prop} (h : W (evE call tbl ρ e g) fun d t g1 => II d fun i => Sm i (Q (rngItems 0 i.toNat) .fr g1)) : WL (evI call tbl ρ (.rng1 e) g) Q := by
  obtain ⟨x, t, g1, e1, h⟩ := W_ex h
  obtain ⟨i, rfl, h1, h⟩ := II_ex h
  have : rng (.int 0) (.int i) = some (rngItems 0 i.toNat) := by
    show (if SMALL 0 ∧ SMALL i then some (rngItems 0 (i - 0).toNat) else none) = _
    rw [if_pos ⟨by unfold SMALL; omega, h1⟩, Int.sub_zero]
  simp only [evI, e1, this]
  (first | exact h | exact ⟨h⟩)
theorem WI_rng2 {Q : List D → Tag → G → Prop} (h : W (evE call tbl ρ a g) fun d t g1 => W (evE call tbl ρ b g1) fun d' t' g2 => II d fun i => II d' fun j => Sm i (Sm j (Q (rngItems i (j - i).toNat) .fr g2))) : WL (evI call tbl ρ (.rng2 a b) g) Q := by
  obtain ⟨x, t, g1, e1, h⟩ := W_ex h
  obtain ⟨y, u, g2, e2, h⟩ := W_ex h
  obtain ⟨i, hi, h'⟩ := II_ex h
  obtain ⟨j, hj, h1, h2, h3⟩ := II_ex h'
  subst hi
  subst hj
  have : rng (.int i) (.int j) = some (rngItems i (j - i).toNat) := by
    show (if SMALL i ∧ SMALL j then some (rngItems i (j - i).toNat) else none) = _
    rw [if_pos ⟨h1, h2⟩]
  simp only [evI, e1, e2, this]
  (first | exact h3 | exact ⟨h3⟩)
theorem WI_rng3 {Q : List D → Tag → G → Prop} (h : W (evE call tbl ρ a g) fun d _ g1 => W (evE call tbl ρ b g1) fun d' _ g2 => W (evE call tbl ρ c g2) fun d2 _ g3 => II d fun i => II d' fun j => II d2 fun l => Dn l (Sm i (Sm j (Q (dnItems i (i - j).toNat) .fr g3)))) : WL (evI call tbl ρ (.rng3 a b c) g) Q := by
  obtain ⟨x, t, g1, e1, h⟩ := W_ex h
  obtain ⟨y, u, g2, e2, h⟩ := W_ex h
  obtain ⟨z, v, g3, e3, h⟩ := W_ex h
  obtain ⟨i, hi, h4⟩ := II_ex h
  obtain ⟨j, hj, h5⟩ := II_ex h4
  obtain ⟨l, hl, h6, h7, h8, h9⟩ := II_ex h5
  subst hi
  subst hj
  subst hl
  have : rngN (.int i) (.int j) (.int l) = some (dnItems i (i - j).toNat) := by
    show (if SMALL i ∧ SMALL j ∧ l = -1 then some (dnItems i (i - j).toNat) else none) = _
    rw [if_pos ⟨h7, h8, h6⟩]
  simp only [evI, e1, e2, e3, this]
  exact ⟨h9⟩
end
/-! statements -/
section
variable {call : Call} {tbl : TblS} {ρ : SEnv} {g : G} {N : SEnv → G → Prop} {R : D → Tag → G → Prop} {Z : Str → G → Prop} {a b c e : E} {s : S} {ss : Ss}
theorem X_nil (h : N ρ g) : WX (execs call tbl .nil ρ g) N R Z := by
  rw [execs]; (first | exact h | exact ⟨h⟩)
theorem X_cons (h : WX (exec call tbl s ρ g) (fun ρ' g' => WX (execs call tbl ss ρ' g') N R Z) R Z) : WX (execs call tbl (.cons s ss) ρ g) N R Z := by
  rcases WX_e3 h with ⟨ρ', g', e, h⟩ | ⟨d, t, g', e, h⟩ | ⟨c, ρ1, g', e, h⟩
  · simp only [execs, e]; (first | exact h | exact ⟨h⟩)
  · simp only [execs, e]; (first | exact h | exact ⟨h⟩)
  · simp only [execs, e]; (first | exact h | exact ⟨h⟩)
theorem X_asg {i : Nat} {fz : List Nat} {ρ0 : SEnv} (ez : frz ρ fz = ρ0) (h : W (evE call tbl ρ0.x e g) fun d t g1 => Is (put ρ0 i d t) fun ρ' => N ρ' g1) : WX (exec call tbl (.asg i fz e) ρ g) N R Z := by
  subst ez
  obtain ⟨x, t, g1, e1, h⟩ := W_ex h
  obtain ⟨i, e2, h⟩ := Is_ex h
  simp only [exec, e1, e2]
  (first | exact h | exact ⟨h⟩)
theorem X_tup {is fz : List Nat} {ρ0 : SEnv} (ez : frz ρ fz = ρ0) (h : W (evE call tbl ρ0.x e g) fun d t g1 => Is (putT (.many is) d (fzT t) ρ0) fun ρ' => N ρ' g1) : WX (exec call tbl (.tup is fz e) ρ g) N R Z := by
  subst ez
  obtain ⟨x, t, g1, e1, h⟩ := W_ex h
  obtain ⟨i, e2, h⟩ := Is_ex h
  simp only [exec, e1, e2]
  (first | exact h | exact ⟨h⟩)
theorem X_par2 {i j : Nat} (h : W (evE call tbl ρ.x a g) fun d t g1 => W (evE call tbl ρ.x b g1) fun d' t' g2 => Is (put ρ i d t) fun ρ1 => Is (put ρ1 j d' t') fun ρ2 => N ρ2 g2) : WX (exec call tbl (.par2 i j a b) ρ g) N R Z := by
  obtain ⟨x, t, g1, e1, h⟩ := W_ex h
  obtain ⟨y, u, g2, e2, h⟩ := W_ex h
  obtain ⟨i, e3, h⟩ := Is_ex h
  obtain ⟨j, e4, h⟩ := Is_ex h
  simp only [exec, e1, e2, e3, e4]
  (first | exact h | exact ⟨h⟩)
theorem X_par3 {i j l : Nat} (h : W (evE call tbl ρ.x a g) fun d t g1 => W (evE call tbl ρ.x b g1) fun d' t' g2 => W (evE call tbl ρ.x c g2) fun d2 t2 g3 => Is (put ρ i d t) fun ρ1 => Is (put ρ1 j d' t') fun ρ2 => Is (put ρ2 l d2 t2) fun ρ3 => N ρ3 g3) : WX (exec call tbl (.par3 i j l a b c) ρ g) N R Z := by
  obtain ⟨x, t, g1, e1, h⟩ := W_ex h
  obtain ⟨y, u, g2, e2, h⟩ := W_ex h
  obtain ⟨z, v, g3, e3, h⟩ := W_ex h
  obtain ⟨i, e4, h⟩ := Is_ex h
  obtain ⟨j, e5, h⟩ := Is_ex h
  obtain ⟨l, e6, h⟩ := Is_ex h
  simp only [exec, e1, e2, e3, e4, e5, e6]
  (first | exact h | exact ⟨h⟩)
theorem X_app {i : Nat} (h : W (evE call tbl ρ.x e g) fun d t g1 => Ap ρ i d t fun ρ' => N ρ' g1) : WX (exec call tbl (.app i e) ρ g) N R Z := by
  obtain ⟨x, t, g1, e1, ds, h1, h2, h3, h⟩ := W_ex h
  simp only [exec, e1, h1, h2, decide_eq_true h3, Bool.and_self, if_true]
  (first | exact h | exact ⟨h⟩)
theorem X_spo {i k : Nat} (h : W (evE call tbl ρ.x e g) fun d t g1 => Sp_ ρ i k d fun ρ' => N ρ' g1) : WX (exec call tbl (.spo i k e) ρ g) N R Z := by
  obtain ⟨x, t, g1, e1, s, s', h1, h2, h3, h⟩ := W_ex h
  simp only [exec, e1, h1, h2, h3, if_true]
  (first | exact h | exact ⟨h⟩)
def Po_ (ρ : SEnv) (i j : Nat) (k : Int) (N : SEnv → Prop) : Prop := ∃ ds es d, ρ[i]? = some (.own (.list ds)) ∧ ρ[j]? = some (.own (.list es)) ∧ es[k.toNat]? = some d ∧ lf d = true ∧ i ≠ j ∧ 0 ≤ k ∧ k ≤ 1000000 ∧ ds.length < 1000000 ∧ N ((ρ.set j (.own (.list (es.eraseIdx k.toNat)))).set i (.own (.list (ds ++ [d]))))
theorem X_apo {i j : Nat} (h : W (evE call tbl ρ.x e g) fun d _ g1 => II d fun k => Po_ ρ i j k fun ρ' => N ρ' g1) : WX (exec call tbl (.apo i j e) ρ g) N R Z := by
  obtain ⟨x, t, g1, e1, h⟩ := W_ex h
  obtain ⟨k, rfl, hh⟩ := II_ex h
  obtain ⟨ds, es, d, h1, h2, h3, h4, h5, h6, h7, h8, h⟩ := hh
  simp only [exec, e1, h1, h2, h3, h4, decide_eq_true h5, decide_eq_true h6, decide_eq_true h7, decide_eq_true h8, Bool.and_self, if_true]
  exact ⟨h⟩
def In_ (ρ : SEnv) (i : Nat) (k : Int) (d : D) (N : SEnv → Prop) : Prop := ∃ ds, ρ[i]? = some (.own (.list ds)) ∧ lf d = true ∧ 0 ≤ k ∧ k ≤ 1000000 ∧ ds.length < 1000000 ∧ N (ρ.set i (.own (.list (ds.take k.toNat ++ [d] ++ ds.drop k.toNat))))
theorem X_ins {i : Nat} (h : W (evE call tbl ρ.x a g) fun x _ g1 => W (evE call tbl ρ.x b g1) fun d _ g2 => II x fun k => In_ ρ i k d fun ρ' => N ρ' g2) : WX (exec call tbl (.ins i a b) ρ g) N R Z := by
  obtain ⟨x, t, g1, e1, h⟩ := W_ex h
  obtain ⟨d, u, g2, e2, h⟩ := W_ex h
  obtain ⟨k, hk, hh⟩ := II_ex h
  subst hk
  obtain ⟨ds, h1, h2, h3, h4, h5, h⟩ := hh
  simp only [exec, e1, e2, h1, h2, decide_eq_true h3, decide_eq_true h4, decide_eq_true h5, Bool.and_self, if_true]
  exact ⟨h⟩
def St_ (ρ : SEnv) (i : Nat) (k : Int) (d : D) (N : SEnv → Prop) : Prop := ∃ ds, ρ[i]? = some (.own (.list ds)) ∧ lf d = true ∧ 0 ≤ k ∧ k.toNat < ds.length ∧ N (ρ.set i (.own (.list (ds.set k.toNat d))))
theorem X_sto {i : Nat} (h : W (evE call tbl ρ.x b g) fun d _ g1 => W (evE call tbl ρ.x a g1) fun x _ g2 => II x fun k => St_ ρ i k d fun ρ' => N ρ' g2) : WX (exec call tbl (.sto i a b) ρ g) N R Z := by
  obtain ⟨d, t, g1, e1, h⟩ := W_ex h
  obtain ⟨x, u, g2, e2, h⟩ := W_ex h
  obtain ⟨k, hk, hh⟩ := II_ex h
  subst hk
  obtain ⟨ds, h1, h2, h3, h4, h⟩ := hh
  simp only [exec, e1, e2, h1, h2, decide_eq_true h3, decide_eq_true h4, Bool.and_self, if_true]
  exact ⟨h⟩
theorem X_rem {i : Nat} (h : W (evE call tbl ρ.x e g) fun d t g1 => Re_ ρ i d fun ρ' => N ρ' g1) : WX (exec call tbl (.rem i e) ρ g) N R Z := by
  obtain ⟨x, t, g1, e1, ds, j, h1, h2, h3, h⟩ := W_ex h
  simp only [exec, e1, h1, decide_eq_true h2, if_true, h3]
  (first | exact h | exact ⟨h⟩)
theorem X_ext {i : Nat} (h : W (evE call tbl ρ.x e g) fun d t g1 => Et_ ρ i d t fun ρ' => N ρ' g1) : WX (exec call tbl (.ext i e) ρ g) N R Z := by
  obtain ⟨x, t, g1, e1, ds, es, h1, rfl, h2, h3, h⟩ := W_ex h
  simp only [exec, e1, h1, h2, decide_eq_true h3, Bool.and_self, if_true]
  (first | exact h | exact ⟨h⟩)
theorem X_exp (h : W (evE call tbl ρ.x e g) fun _ _ g1 => N ρ g1) : WX (exec call tbl (.exp e) ρ g) N R Z := by
  obtain ⟨x, t, g1, e1, h⟩ := W_ex h
  simp only [exec, e1]
  (first | exact h | exact ⟨h⟩)
theorem X_ite {x y : Ss} (h : W (evE call tbl ρ.x c g) fun d _ g1 => IB d fun i => Two i (WX (execs call tbl x ρ g1) N R Z) (WX (execs call tbl y ρ g1) N R Z)) : WX (exec call tbl (.ite c x y) ρ g) N R Z := by
  obtain ⟨d, t, g1, e1, h⟩ := W_ex h
  obtain ⟨i, rfl, hh⟩ := IB_ex h
  have e2 : evB call tbl c ρ g = some (i, g1) := by unfold evB; rw [e1]
  cases i with
  | true => simp only [exec, e2]; (first | exact hh.1 rfl | exact ⟨hh.1 rfl⟩)
  | false => simp only [exec, e2]; (first | exact hh.2 rfl | exact ⟨hh.2 rfl⟩)
theorem X_for {tg : Tg} {fz : List Nat} {it : It} {x : Ss} {ρ0 : SEnv} (ez : frz ρ fz = ρ0) (h : WL (evI call tbl ρ0.x it g) fun xs t g1 => Nb t (WX (forL tg .fz (fun ρ g => execs call tbl x ρ g) xs ρ0 g1) N R Z)) : WX (exec call tbl (.for1 tg fz it x) ρ g) N R Z := by
  subst ez
  obtain ⟨d, t, g1, e1, h0, h⟩ := WL_ex h
  simp only [exec, e1]
  cases t with
  | bo => exact (h0 rfl).elim
  | fr => (first | exact h | exact ⟨h⟩)
  | fz => (first | exact h | exact ⟨h⟩)
structure ILs (d : D) (Q : List D → Prop) : Prop where
  h : match d with
    | .list ds => Q ds
    | _ => False
theorem ILs_ex {d : D} {Q : List D → Prop} (h : ILs d Q) : ∃ b, d = .list b ∧ Q b := by
  replace h := h.h
  split at h
  · exact ⟨_, rfl, h⟩
  · exact h.elim
theorem ILs_l {c : List D} {Q : List D → Prop} (h : Q c) : ILs (.list c) Q := ⟨h⟩
theorem X_forK {tg : Tg} {fz : List Nat} {x : Ss} {ρ0 : SEnv} (ez : frz ρ fz = ρ0) (h : W (evE call tbl ρ0.x e g) fun d _ g1 => ILs d fun ds => Is (sortK ds) fun es => WX (forL tg .fz (fun ρ g => execs call tbl x ρ g) es ρ0 g1) N R Z) : WX (exec call tbl (.forK tg fz e x) ρ g) N R Z := by
  subst ez
  obtain ⟨d, t, g1, e1, h⟩ := W_ex h
  obtain ⟨ds, rfl, h2⟩ := ILs_ex h
  obtain ⟨es, e3, h3⟩ := Is_ex h2
  simp only [exec, e1, e3]
  first | exact h3 | exact ⟨h3⟩
theorem X_whl {n : Nat} {x : Ss} (h : WX (whileN (evB call tbl c) (fun ρ g => execs call tbl x ρ g) n ρ g) N R Z) : WX (exec call tbl (.whl n c x) ρ g) N R Z := by
  simp only [exec]
  (first | exact h | exact ⟨h⟩)
/-- what is told is nobody else's -/
def Rt (d : D) (t : Tag) (g : G) (R : D → Tag → G → Prop) : Prop := nrm d t ≠ .bo ∧ R d (nrm d t) g
theorem X_ret (h : W (evE call tbl ρ.y e g) fun d t g1 => Rt d t g1 R) : WX (exec call tbl (.ret e) ρ g) N R Z := by
  obtain ⟨d, t, g1, e1, h0, h⟩ := W_ex h
  simp only [exec, e1]
  generalize nrm d t = u at h h0
  cases u with
  | bo => exact (h0 rfl).elim
  | fr => (first | exact h | exact ⟨h⟩)
  | fz => (first | exact h | exact ⟨h⟩)
theorem X_raiC {c : Str} (h : Z c g) : WX (exec call tbl (.raiC c) ρ g) N R Z := by
  simp only [exec]
  (first | exact h | exact ⟨h⟩)
/-- a call that answers or raises -/
def Ca (call : Call) (f : Str) (ds : List D) (g : G) (R : D → Tag → G → Prop) (Z : Str → G → Prop) : Prop := (W (call f false ds g) fun d u g2 => u = .fr ∧ R d .fr g2) ∨ (call f false ds g = none ∧ W (call (xn f) false ds g) fun d _ g2 => ∃ c, d = .str c ∧ Z c g2)
theorem X_retX {f : Str} {es : Es} (h : WL (evEs call tbl ρ.x es g) fun ds _ g1 => Ca call f ds g1 R Z) : WX (exec call tbl (.retX f es) ρ g) N R Z := by
  obtain ⟨ds, t, g1, e1, h⟩ := WL_ex h
  rcases h with h | ⟨h1, h2⟩
  · obtain ⟨d, u, g2, e2, rfl, h⟩ := W_ex h
    simp only [exec, e1, e2]
    exact ⟨h⟩
  · obtain ⟨d, u, g2, e2, c, rfl, h⟩ := W_ex h2
    simp only [exec, e1, h1, e2]
    exact ⟨h⟩
theorem X_tryR {b : Ss} {c : Str} {d : D} (h : WX (execs call tbl b ρ g) N R fun c' g1 => c' = c ∧ leaf d = true ∧ R d .fr g1) : WX (exec call tbl (.tryR b c d) ρ g) N R Z := by
  rcases WX_e3 h with ⟨ρ', g', e, h⟩ | ⟨d1, t, g', e, h⟩ | ⟨c', ρ1, g', e, h1, h2, h3⟩
  · simp only [exec, e]; exact ⟨h⟩
  · simp only [exec, e]; exact ⟨h⟩
  · simp only [exec, e, if_pos (And.intro h1 h2)]; exact ⟨h3⟩
theorem X_dnew {i : Nat} (h : N (ρ.set i (.dcm [])) g) : WX (exec call tbl (.dnew i) ρ g) N R Z := by
  simp only [exec]
  (first | exact h | exact ⟨h⟩)
theorem X_dof {i : Nat} (h : W (evE call tbl ρ.x e g) fun d t g1 => t = .fr ∧ ∃ ds es, d = .list ds ∧ pairsE ds = some es ∧ (es.map (·.1)).Nodup ∧ N (ρ.set i (.dcm es)) g1) : WX (exec call tbl (.dof i e) ρ g) N R Z := by
  obtain ⟨d, t, g1, e1, rfl, ds, es, rfl, e2, nd, h⟩ := W_ex h
  simp only [exec, e1, e2, if_pos nd]
  exact ⟨h⟩
theorem X_forD {tg : Tg} {i : Nat} {x : Ss} {es : List (List L2.Key × D)} (ei : ρ[i]? = some (.dcm es)) (h : WX (forL tg .fz (fun ρ g => execs call tbl x ρ g) (es.map fun p => keyE p.1) (ρ.set i (.dcl es)) g) N R Z) : WX (exec call tbl (.forD tg i x) ρ g) N R Z := by
  simp only [exec, ei]
  (first | exact h | exact ⟨h⟩)
theorem X_forDl {tg : Tg} {i : Nat} {x : Ss} {es : List (List L2.Key × D)} (ei : ρ[i]? = some (.dcl es)) (h : WX (forL tg .fz (fun ρ g => execs call tbl x ρ g) (es.map fun p => keyE p.1) ρ g) N R Z) : WX (exec call tbl (.forD tg i x) ρ g) N R Z := by
  simp only [exec, ei]
  (first | exact h | exact ⟨h⟩)
theorem X_pas (h : N ρ g) : WX (exec call tbl .pas ρ g) N R Z := by
  simp only [exec]
  (first | exact h | exact ⟨h⟩)
end
/-- a def's run -/
theorem W_run {tbl : TblS} {fs : List Fd} {k : Nat} {x : Str} {row : Bool} {f : Fd} {ds : List D} {g : G} {Q : D → Tag → G → Prop} (h : (fs.find? fun h => h.name == x && h.row == row) = some f) (hl : ds.length = f.ar) (q : WX (execs (run tbl fs k) tbl f.body (entry f ds) g) (fun _ g' => Q .none .fr g') Q) : W (run tbl fs (k + 1) x row ds g) Q := by
  rw [run_eq h hl]
  rcases WX_ex q with ⟨ρ', g', e, h⟩ | ⟨d, t, g', e, h⟩
  · rw [e]; (first | exact h | exact ⟨h⟩)
  · rw [e]; (first | exact h | exact ⟨h⟩)
/-- a def stands in the text -/
class Hf (fs : List Fd) (f : Fd) : Prop where
  h : (fs.find? fun h => h.name == f.name && h.row == f.row) = some f
/-- no def's name begins with the sign -/
class Hn (fs : List Fd) : Prop where
  h : (fs.all fun h : Fd => nx h.name) = true
class Ht (tbl : TblS) (x : Str) (l : outParam (List (Str × Str))) : Prop where
  h : tbl x = some l
/-! loops -/
theorem for_gen {α : Type} {enc : α → D} {tg : Tg} {b : SEnv → G → Option Out} {N : SEnv → G → Prop} {R : D → Tag → G → Prop} {Z : Str → G → Prop} {l : List α} (I : List α → SEnv → G → Prop) {ρ : SEnv} {g : G} (h0 : I [] ρ g)
    (hs : ∀ pre a post, l = pre ++ a :: post → ∀ ρ g, I pre ρ g → Is (putT tg (enc a) .fz ρ) fun ρ1 => WX (b ρ1 g) (I (pre ++ [a])) R Z)
    (q : ∀ ρ g, I l ρ g → N ρ g) : WX (forL tg .fz b (l.map enc) ρ g) N R Z := by
  have key : ∀ (post pre : List α) (ρ : SEnv) (g : G), l = pre ++ post → I pre ρ g → WX (forL tg .fz b (post.map enc) ρ g) N R Z := by
    intro post
    induction post with
    | nil =>
      intro pre ρ g e h
      rw [List.append_nil] at e
      subst e
      (first | exact q ρ g h | exact ⟨q ρ g h⟩)
    | cons a post ih =>
      intro pre ρ g e h
      have h1 := hs pre a post e ρ g h
      obtain ⟨ρ1, e1, h1⟩ := Is_ex h1
      rw [List.map_cons, forL, e1]
      rcases WX_e3 h1 with ⟨ρ2, g2, e2, h2⟩ | ⟨d, t, g2, e2, h2⟩ | ⟨c, ρ2, g2, e2, h2⟩
      · dsimp only
        rw [e2]
        exact ih (pre ++ [a]) ρ2 g2 (by rw [List.append_assoc]; exact e) h2
      · dsimp only
        rw [e2]
        (first | exact h2 | exact ⟨h2⟩)
      · dsimp only
        rw [e2]
        (first | exact h2 | exact ⟨h2⟩)
  exact key l [] ρ g rfl h0
/-- nothing but the row goes on -/
theorem for_inv {α : Type} {enc : α → D} {tg : Tg} {b : SEnv → G → Option Out} {N : SEnv → G → Prop} {R : D → Tag → G → Prop} {Z : Str → G → Prop} {l : List α} (I : SEnv → G → Prop) {ρ : SEnv} {g : G} (h0 : I ρ g)
    (hs : ∀ a, a ∈ l → ∀ ρ g, I ρ g → Is (putT tg (enc a) .fz ρ) fun ρ1 => WX (b ρ1 g) I R Z)
    (q : ∀ ρ g, I ρ g → N ρ g) : WX (forL tg .fz b (l.map enc) ρ g) N R Z :=
  for_gen (fun _ => I) h0 (fun pre a post e ρ g h => hs a (by rw [e]; simp) ρ g h) q
theorem while_gen {c : SEnv → G → Option (Bool × G)} {b : SEnv → G → Option Out} {N : SEnv → G → Prop} {R : D → Tag → G → Prop} {Z : Str → G → Prop} (I : Nat → SEnv → G → Prop)
    (hs : ∀ n ρ g, I n ρ g → WC (c ρ g) fun t g1 => Two t (WX (b ρ g1) (fun ρ' g' => ∃ m, m < n ∧ I m ρ' g') R Z) (N ρ g1)) : ∀ (fuel n : Nat) {ρ : SEnv} {g : G}, n < fuel → I n ρ g → WX (whileN c b fuel ρ g) N R Z := by
  intro fuel
  induction fuel with
  | zero => intro n ρ g h; omega
  | succ fuel ih =>
    intro n ρ g h h0
    obtain ⟨t, g1, e1, h1⟩ := WC_ex (hs n ρ g h0)
    rw [whileN, e1]
    cases t with
    | false => (first | exact h1.2 rfl | exact ⟨h1.2 rfl⟩)
    | true =>
      dsimp only
      rcases WX_e3 (h1.1 rfl) with ⟨ρ2, g2, e2, m, hm, h2⟩ | ⟨d, t, g2, e2, h2⟩ | ⟨c, ρ2, g2, e2, h2⟩
      · rw [e2]
        exact ih m (by omega) h2
      · rw [e2]
        (first | exact h2 | exact ⟨h2⟩)
      · rw [e2]
        (first | exact h2 | exact ⟨h2⟩)
theorem WC_evB {call : Call} {tbl : TblS} {ρ : SEnv} {g : G} {c : E} {Q : Bool → G → Prop} (h : W (evE call tbl ρ.x c g) fun d _ g1 => IB d fun b => Q b g1) : WC (evB call tbl c ρ g) Q := by
  obtain ⟨d, t, g1, e1, h⟩ := W_ex h
  obtain ⟨b, rfl, hh⟩ := IB_ex h
  unfold evB
  rw [e1]
  first | exact hh | exact ⟨hh⟩
theorem CL_nil {f : D → G → Option (Option (D × Tag) × G)} {g : G} {Q : List D → Tag → G → Prop} (h : Q [] .fr g) : WL (compL f [] g) Q := ⟨h⟩
theorem CL_cons {f : D → G → Option (Option (D × Tag) × G)} {x : D} {xs : List D} {g : G} {Q : List D → Tag → G → Prop} (h : WT (f x g) (fun d t g1 => WL (compL f xs g1) fun ys u g2 => Q (d :: ys) (t.mx u) g2) (fun g1 => WL (compL f xs g1) Q)) : WL (compL f (x :: xs) g) Q := by
  rcases WT_ex h with ⟨d, t, g', e1, h1⟩ | ⟨g', e1, h1⟩
  · obtain ⟨ys, u, g2, e2, h2⟩ := WL_ex h1
    simp only [compL, e1, e2]
    (first | exact h2 | exact ⟨h2⟩)
  · obtain ⟨ys, u, g2, e2, h2⟩ := WL_ex h1
    simp only [compL, e1, e2]
    (first | exact h2 | exact ⟨h2⟩)
/-! comprehensions that draw nothing -/
theorem comp_fm {α : Type} {enc : α → D} {f : D → G → Option (Option (D × Tag) × G)} {l : List α} {g : G} {Q : List D → Tag → G → Prop} (h : α → Option D)
    (hx : ∀ a, a ∈ l → WT (f (enc a) g) (fun d t g' => h a = some d ∧ t = .fr ∧ g' = g) (fun g' => h a = none ∧ g' = g)) (q : Q (l.filterMap h) .fr g) : WL (compL f (l.map enc) g) Q := by
  have e : compL f (l.map enc) g = some (l.filterMap h, .fr, g) := by
    clear q
    induction l with
    | nil => rfl
    | cons a l ih =>
      have e2 := ih fun b hb => hx b (List.mem_cons_of_mem _ hb)
      rw [List.map_cons, List.filterMap_cons]
      rcases WT_ex (hx a (List.mem_cons_self ..)) with ⟨d, t, g', e1, h1, rfl, rfl⟩ | ⟨g', e1, h1, rfl⟩
      · simp only [compL, e1, e2, h1, Tag.mx]
      · simp only [compL, e1, e2, h1]
  rw [e]
  (first | exact q | exact ⟨q⟩)
theorem comp_map {α : Type} {enc : α → D} {f : D → G → Option (Option (D × Tag) × G)} {l : List α} {g : G} {Q : List D → Tag → G → Prop} (h : α → D)
    (hx : ∀ a, a ∈ l → WT (f (enc a) g) (fun d t g' => d = h a ∧ t = .fr ∧ g' = g) (fun _ => False)) (q : Q (l.map h) .fr g) : WL (compL f (l.map enc) g) Q := by
  refine comp_fm (fun a => some (h a)) (fun a ha => ?_) (by rw [List.filterMap_eq_map' (f := h)]; exact q)
  rcases WT_ex (hx a ha) with ⟨d, t, g', e1, rfl, rfl, rfl⟩ | ⟨g', e1, h1⟩
  · rw [e1]; exact ⟨rfl, rfl, rfl⟩
  · exact h1.elim
theorem comp_fmap {α : Type} {enc : α → D} {f : D → G → Option (Option (D × Tag) × G)} {l : List α} {g : G} {Q : List D → Tag → G → Prop} (p : α → Bool) (h : α → D)
    (hx : ∀ a, a ∈ l → WT (f (enc a) g) (fun d t g' => p a = true ∧ d = h a ∧ t = .fr ∧ g' = g) (fun g' => p a = false ∧ g' = g)) (q : Q ((l.filter p).map h) .fr g) : WL (compL f (l.map enc) g) Q := by
  refine comp_fm (fun a => if p a then some (h a) else none) (fun a ha => ?_) ?_
  · rcases WT_ex (hx a ha) with ⟨d, t, g', e1, h1, rfl, rfl, rfl⟩ | ⟨g', e1, h1, rfl⟩
    · rw [e1]; exact ⟨by rw [if_pos h1], rfl, rfl⟩
    · rw [e1]; exact ⟨by rw [h1]; rfl, rfl⟩
  · have : l.filterMap (fun a => if p a then some (h a) else none) = (l.filter p).map h := by
      clear q hx
      induction l with
      | nil => rfl
      | cons a l ih =>
        rw [List.filterMap_cons, List.filter_cons, ih]
        cases p a <;> rfl
    rw [this]
    (first | exact q | exact ⟨q⟩)
theorem comp_none {α : Type} {enc : α → D} {f : D → G → Option (Option (D × Tag) × G)} {l : List α} {g : G} {Q : List D → Tag → G → Prop}
    (hx : ∀ a, a ∈ l → WT (f (enc a) g) (fun _ _ _ => False) (fun g' => g' = g)) (q : Q [] .fr g) : WL (compL f (l.map enc) g) Q :=
  comp_fm (fun _ => none) (fun a ha => by
    rcases WT_ex (hx a ha) with ⟨d, t, g', e1, h⟩ | ⟨g', e1, h⟩
    · exact h.elim
    · rw [e1]; exact ⟨rfl, h⟩) (by
    have : l.filterMap (fun _ : α => (none : Option D)) = [] := by
      clear hx q
      induction l with
      | nil => rfl
      | cons a l ih => rw [List.filterMap_cons, ih]
    rw [this]; exact q)
theorem comp_filter {α : Type} {enc : α → D} {f : D → G → Option (Option (D × Tag) × G)} {l : List α} {g : G} {Q : List D → Tag → G → Prop} (p : α → Bool)
    (hx : ∀ a, a ∈ l → WT (f (enc a) g) (fun d t g' => p a = true ∧ d = enc a ∧ t = .fr ∧ g' = g) (fun g' => p a = false ∧ g' = g)) (q : Q ((l.filter p).map enc) .fr g) : WL (compL f (l.map enc) g) Q := comp_fmap p enc hx q
/-- a comprehension that draws -/
theorem comp_draw {α : Type} {enc : α → D} {β : Type} {enc' : β → D} {f : D → G → Option (Option (D × Tag) × G)} {l : List α} {g : G} {Q : List D → Tag → G → Prop} (I : G → Prop) (C : β → Prop) (hg : I g)
    (hx : ∀ a, a ∈ l → ∀ g, I g → WT (f (enc a) g) (fun d t g' => (∃ y, d = enc' y ∧ C y) ∧ t = .fr ∧ I g') (fun _ => False)) (q : ∀ (ys : List β) g', I g' → ys.length = l.length → (∀ y ∈ ys, C y) → Q (ys.map enc') .fr g') : WL (compL f (l.map enc) g) Q := by
  have key : ∀ (l : List α) (g : G), I g → (∀ a, a ∈ l → ∀ g, I g → WT (f (enc a) g) (fun d t g' => (∃ y, d = enc' y ∧ C y) ∧ t = .fr ∧ I g') (fun _ => False)) → ∃ (ys : List β) (g' : G), compL f (l.map enc) g = some (ys.map enc', .fr, g') ∧ I g' ∧ ys.length = l.length ∧ ∀ y ∈ ys, C y := by
    intro l
    induction l with
    | nil => intro g hg _; exact ⟨[], g, rfl, hg, rfl, fun _ h => nomatch h⟩
    | cons a l ih =>
      intro g hg hx
      rcases WT_ex (hx a (List.mem_cons_self ..) g hg) with ⟨d, t, g', e1, ⟨y, rfl, hy⟩, rfl, i1⟩ | ⟨g', e1, h1⟩
      · obtain ⟨ys, g2, e2, i2, l2, c2⟩ := ih g' i1 fun b hb => hx b (List.mem_cons_of_mem _ hb)
        refine ⟨y :: ys, g2, by simp only [List.map_cons, compL, e1, e2, Tag.mx], i2, by simp [l2], fun z hz => ?_⟩
        rcases List.mem_cons.mp hz with e | e
        · rw [e]; exact hy
        · exact c2 z e
      · exact h1.elim
  obtain ⟨ys, g', e, i, n, c⟩ := key l g hg hx
  rw [e]
  (first | exact q ys g' i n c | exact ⟨q ys g' i n c⟩)
/-- a comprehension that draws what it keeps -/
theorem comp_sieve {α : Type} {enc : α → D} {f : D → G → Option (Option (D × Tag) × G)} {l : List α} {g : G} {Q : List D → Tag → G → Prop} (I : G → Prop) (hg : I g)
    (hx : ∀ a, a ∈ l → ∀ g, I g → WT (f (enc a) g) (fun d t g' => d = enc a ∧ t = .fr ∧ I g') I) (q : ∀ (ys : List α) g', I g' → ys.Sublist l → Q (ys.map enc) .fr g') : WL (compL f (l.map enc) g) Q := by
  have key : ∀ (l : List α) (g : G), I g → (∀ a, a ∈ l → ∀ g, I g → WT (f (enc a) g) (fun d t g' => d = enc a ∧ t = .fr ∧ I g') I) → ∃ (ys : List α) (g' : G), compL f (l.map enc) g = some (ys.map enc, .fr, g') ∧ I g' ∧ ys.Sublist l := by
    intro l
    induction l with
    | nil => intro g hg _; exact ⟨[], g, rfl, hg, List.Sublist.slnil⟩
    | cons a l ih =>
      intro g hg hx
      rcases WT_ex (hx a (List.mem_cons_self ..) g hg) with ⟨d, t, g', e1, rfl, rfl, i1⟩ | ⟨g', e1, i1⟩
      · obtain ⟨ys, g2, e2, i2, l2⟩ := ih g' i1 fun b hb => hx b (List.mem_cons_of_mem _ hb)
        exact ⟨a :: ys, g2, by simp only [List.map_cons, compL, e1, e2, Tag.mx], i2, l2.cons₂ a⟩
      · obtain ⟨ys, g2, e2, i2, l2⟩ := ih g' i1 fun b hb => hx b (List.mem_cons_of_mem _ hb)
        exact ⟨ys, g2, by simp only [List.map_cons, compL, e1, e2], i2, l2.cons a⟩
  obtain ⟨ys, g', e, i, n⟩ := key l g hg hx
  rw [e]
  (first | exact q ys g' i n | exact ⟨q ys g' i n⟩)
/-! ### dicts by functions -/
def kI (l : List Int) : List L2.Key := l.map Sum.inl
theorem kI_inj {l m : List Int} (h : kI l = kI m) : l = m := (List.map_inj_right fun _ _ e => Sum.inl.inj e).mp h
theorem intsD_ints : ∀ l : List Int, intsD (l.map PyData.int) = some l
  | [] => rfl
  | x :: l => by rw [List.map_cons, intsD, intsD_ints l]; rfl
theorem dkey_ints (l : List Int) : dkeyD (.tuple (l.map PyData.int)) = some (kI l) := by
  show (intsD (l.map PyData.int)).map (fun l => l.map Sum.inl) = _
  rw [intsD_ints]
  rfl
theorem Is_dkey {l : List Int} {Q : List L2.Key → Prop} (h : Q (kI l)) : Is (dkeyD (.tuple (l.map PyData.int))) Q := by
  rw [dkey_ints]
  exact ⟨h⟩
theorem keyE_kI (l : List Int) : keyE (kI l) = .tuple (l.map PyData.int) := by
  unfold keyE kI
  rw [List.map_map]
  rfl
/-- the dict that tells f at the keys ks -/
def fE (f : List Int → D) (ks : List (List Int)) : List (List L2.Key × D) := ks.map fun k => (kI k, f k)
theorem getE_fE {f : List Int → D} {k : List Int} : ∀ {ks : List (List Int)}, k ∈ ks → getE (fE f ks) (kI k) = some (f k)
  | [], h => nomatch h
  | x :: ks, h => by
    show Option.map (·.2) (List.find? (fun p : List L2.Key × D => decide (p.1 = kI k)) ((kI x, f x) :: fE f ks)) = _
    rw [List.find?_cons]
    by_cases e : x = k
    · subst e
      rw [show decide ((kI x, f x).1 = kI x) = true from decide_eq_true rfl]
      rfl
    · rw [show decide ((kI x, f x).1 = kI k) = false from decide_eq_false fun z => e (kI_inj z)]
      exact getE_fE ((List.mem_cons.mp h).resolve_left fun z => e z.symm)
theorem Is_fE {f : List Int → D} {k : List Int} {ks : List (List Int)} {Q : D → Prop} (hk : k ∈ ks) (h : Q (f k)) : Is (getE (fE f ks) (kI k)) Q := by
  rw [getE_fE hk]
  exact ⟨h⟩
theorem pairs_fE {f : List Int → D} : ∀ {ks : List (List Int)}, pairsE (ks.map fun k => .tuple [.tuple (k.map PyData.int), f k]) = some (fE f ks)
  | [] => rfl
  | k :: ks => by
    rw [List.map_cons, pairsE, dkey_ints]
    dsimp only
    rw [pairs_fE]
    rfl
theorem fE_nodup {f : List Int → D} {ks : List (List Int)} (h : ks.Nodup) : ((fE f ks).map (·.1)).Nodup := by
  unfold fE
  rw [List.map_map]
  exact List.Pairwise.map _ (fun _ _ n e => n (kI_inj e)) h
theorem fE_keys {f : List Int → D} {ks : List (List Int)} : (fE f ks).map (fun p => keyE p.1) = ks.map fun k => PyData.tuple (k.map PyData.int) := by
  unfold fE
  rw [List.map_map]
  exact List.map_congr_left fun k _ => keyE_kI k
end Mi
end
section
set_option maxRecDepth 100000
set_option maxHeartbeats 400000
namespace Mi.L.P
open PySem PySem.Spec PyProof.Rows L2
def b_is_whole : Ss := (.cons (.ret (.and (.isi "int" (.var 0)) (.and (.not (.isi "bool" (.var 0))) (.chn .le .lt (.var 1) (.var 0) (.var 2))))) .nil)
def f_is_whole : Fd := ⟨"is_whole", false, 3, 3, b_is_whole⟩
theorem R_is_whole {tbl : TblS} {fs : List Fd} {k : Nat} {g : G} {Q : D → Tag → G → Prop} {a0 a1 a2 : D} [h : Hf fs f_is_whole] (q : WX (execs (run tbl fs k) tbl b_is_whole [.imm a0, .imm a1, .imm a2] g) (fun _ g' => Q .none .fr g') Q) : W (run tbl fs (k + 1) "is_whole" false [a0, a1, a2] g) Q := W_run h.h rfl q
def b_is_word : Ss := (.cons (.ite (.or (.not (.isi "str" (.var 0))) (.not (.chn .le .le (.cst (.int 1)) (.bi .len (.cons (.var 0) .nil)) (.glo "MOST_WORD" (.int 6))))) (.cons (.ret (.cst (.bool false))) .nil) .nil) (.cons (.ret (.cmp .eq (.comp (.var 1) (.one 1) (.val (.var 0)) (.cons (.cmp .notin (.var 1) (.glo "LETTERS" (.str "abcdefghijklmnopqrstuvwxyz"))) .nil)) (.lst .nil))) .nil))
def f_is_word : Fd := ⟨"is_word", false, 1, 2, b_is_word⟩
theorem R_is_word {tbl : TblS} {fs : List Fd} {k : Nat} {g : G} {Q : D → Tag → G → Prop} {a0 : D} [h : Hf fs f_is_word] (q : WX (execs (run tbl fs k) tbl b_is_word [.imm a0, .no] g) (fun _ g' => Q .none .fr g') Q) : W (run tbl fs (k + 1) "is_word" false [a0] g) Q := W_run h.h rfl q
def b_is_rising : Ss := (.cons (.ite (.or (.not (.isi "tuple" (.var 0))) (.cmp .ne (.comp (.var 3) (.one 3) (.val (.var 0)) (.cons (.not (.call "is_whole" none (.cons (.var 3) (.cons (.cst (.int 0)) (.cons (.var 1) .nil))))) .nil)) (.lst .nil))) (.cons (.ret (.cst (.bool false))) .nil) .nil) (.cons (.ret (.cmp .eq (.comp (.var 2) (.one 2) (.rng2 (.cst (.int 1)) (.bi .len (.cons (.var 0) .nil))) (.cons (.cmp .ge (.sub (.var 0) (.bin .sub (.var 2) (.cst (.int 1)))) (.sub (.var 0) (.var 2))) .nil)) (.lst .nil))) .nil))
def f_is_rising : Fd := ⟨"is_rising", false, 2, 4, b_is_rising⟩
theorem R_is_rising {tbl : TblS} {fs : List Fd} {k : Nat} {g : G} {Q : D → Tag → G → Prop} {a0 a1 : D} [h : Hf fs f_is_rising] (q : WX (execs (run tbl fs k) tbl b_is_rising [.imm a0, .imm a1, .no, .no] g) (fun _ g' => Q .none .fr g') Q) : W (run tbl fs (k + 1) "is_rising" false [a0, a1] g) Q := W_run h.h rfl q
def b_is_part : Ss := (.cons (.ite (.isi "str" (.var 0)) (.cons (.ret (.call "is_word" none (.cons (.var 0) .nil))) .nil) .nil) (.cons (.ite (.or (.not (.isi "tuple" (.var 0))) (.or (.cmp .ne (.bi .len (.cons (.var 0) .nil)) (.cst (.int 2))) (.cmp .notin (.sub (.var 0) (.cst (.int 0))) (.tup (.cons (.cst (.str "fill")) (.cons (.cst (.str "cite")) .nil)))))) (.cons (.ret (.cst (.bool false))) .nil) .nil) (.cons (.ret (.call "is_whole" none (.cons (.sub (.var 0) (.cst (.int 1))) (.cons (.cst (.int 0)) (.cons (.ite (.cmp .eq (.sub (.var 0) (.cst (.int 0))) (.cst (.str "fill"))) (.glo "PLACES" (.int 6)) (.var 1)) .nil))))) .nil)))
def f_is_part : Fd := ⟨"is_part", false, 2, 2, b_is_part⟩
theorem R_is_part {tbl : TblS} {fs : List Fd} {k : Nat} {g : G} {Q : D → Tag → G → Prop} {a0 a1 : D} [h : Hf fs f_is_part] (q : WX (execs (run tbl fs k) tbl b_is_part [.imm a0, .imm a1] g) (fun _ g' => Q .none .fr g') Q) : W (run tbl fs (k + 1) "is_part" false [a0, a1] g) Q := W_run h.h rfl q
def b_is_clause : Ss := (.cons (.ite (.or (.not (.isi "tuple" (.var 0))) (.or (.cmp .ne (.bi .len (.cons (.var 0) .nil)) (.cst (.int 2))) (.not (.call "is_whole" none (.cons (.sub (.var 0) (.cst (.int 0))) (.cons (.cst (.int 0)) (.cons (.glo "CHAPTERS" (.int 4)) .nil))))))) (.cons (.ret (.cst (.bool false))) .nil) .nil) (.cons (.ite (.or (.not (.isi "tuple" (.sub (.var 0) (.cst (.int 1))))) (.not (.chn .le .le (.cst (.int 1)) (.bi .len (.cons (.sub (.var 0) (.cst (.int 1))) .nil)) (.glo "MOST_PARTS" (.int 6))))) (.cons (.ret (.cst (.bool false))) .nil) .nil) (.cons (.ret (.cmp .eq (.comp (.var 2) (.one 2) (.val (.sub (.var 0) (.cst (.int 1)))) (.cons (.not (.call "is_part" none (.cons (.var 2) (.cons (.var 1) .nil)))) .nil)) (.lst .nil))) .nil)))
def f_is_clause : Fd := ⟨"is_clause", false, 2, 3, b_is_clause⟩
theorem R_is_clause {tbl : TblS} {fs : List Fd} {k : Nat} {g : G} {Q : D → Tag → G → Prop} {a0 a1 : D} [h : Hf fs f_is_clause] (q : WX (execs (run tbl fs k) tbl b_is_clause [.imm a0, .imm a1, .no] g) (fun _ g' => Q .none .fr g') Q) : W (run tbl fs (k + 1) "is_clause" false [a0, a1] g) Q := W_run h.h rfl q
def b_is_condition : Ss := (.cons (.ite (.or (.not (.isi "tuple" (.var 0))) (.or (.cmp .eq (.var 0) (.tup .nil)) (.or (.cmp .notin (.sub (.var 0) (.cst (.int 0))) (.tup (.cons (.cst (.str "is")) (.cons (.cst (.str "not")) (.cons (.cst (.str "both")) .nil))))) (.cmp .gt (.var 1) (.glo "MOST_DEEP" (.int 3)))))) (.cons (.ret (.cst (.bool false))) .nil) .nil) (.cons (.ite (.cmp .ne (.bi .len (.cons (.var 0) .nil)) (.bin .add (.cst (.int 1)) (.bi .len (.cons (.getG "CONDITIONS" (.sub (.var 0) (.cst (.int 0)))) .nil)))) (.cons (.ret (.cst (.bool false))) .nil) .nil) (.cons (.ite (.cmp .eq (.sub (.var 0) (.cst (.int 0))) (.cst (.str "is"))) (.cons (.ret (.and (.call "is_whole" none (.cons (.sub (.var 0) (.cst (.int 1))) (.cons (.cst (.int 0)) (.cons (.glo "QUESTIONS" (.int 3)) .nil)))) (.call "is_whole" none (.cons (.sub (.var 0) (.cst (.int 2))) (.cons (.cst (.int 0)) (.cons (.glo "ANSWERS" (.int 3)) .nil)))))) .nil) .nil) (.cons (.ret (.cmp .eq (.comp (.var 2) (.one 2) (.val (.slc (.var 0) (.cons (.cst (.int 1)) .nil) .nil)) (.cons (.not (.call "is_condition" none (.cons (.var 2) (.cons (.bin .add (.var 1) (.cst (.int 1))) .nil)))) .nil)) (.lst .nil))) .nil))))
def f_is_condition : Fd := ⟨"is_condition", false, 2, 3, b_is_condition⟩
theorem R_is_condition {tbl : TblS} {fs : List Fd} {k : Nat} {g : G} {Q : D → Tag → G → Prop} {a0 a1 : D} [h : Hf fs f_is_condition] (q : WX (execs (run tbl fs k) tbl b_is_condition [.imm a0, .imm a1, .no] g) (fun _ g' => Q .none .fr g') Q) : W (run tbl fs (k + 1) "is_condition" false [a0, a1] g) Q := W_run h.h rfl q
def b_is_want : Ss := (.cons (.ite (.or (.not (.isi "tuple" (.var 0))) (.or (.cmp .eq (.var 0) (.tup .nil)) (.or (.not (.isi "str" (.sub (.var 0) (.cst (.int 0))))) (.inG "WANTS" true (.sub (.var 0) (.cst (.int 0))))))) (.cons (.ret (.cst (.bool false))) .nil) .nil) (.cons (.asg 2 [0] (.getG "WANTS" (.sub (.var 0) (.cst (.int 0))))) (.cons (.ite (.cmp .ne (.bi .len (.cons (.var 0) .nil)) (.bin .add (.cst (.int 1)) (.bi .len (.cons (.var 2) .nil)))) (.cons (.ret (.cst (.bool false))) .nil) .nil) (.cons (.ite (.cmp .eq (.var 2) (.cst (.str "s"))) (.cons (.ret (.and (.call "is_rising" none (.cons (.sub (.var 0) (.cst (.int 1))) (.cons (.var 1) .nil))) (.cmp .ne (.sub (.var 0) (.cst (.int 1))) (.tup .nil)))) .nil) .nil) (.cons (.ite (.cmp .eq (.var 2) (.cst (.str "ca"))) (.cons (.ret (.and (.call "is_condition" none (.cons (.sub (.var 0) (.cst (.int 1))) (.cons (.cst (.int 0)) .nil))) (.call "is_whole" none (.cons (.sub (.var 0) (.cst (.int 2))) (.cons (.cst (.int 0)) (.cons (.var 1) .nil)))))) .nil) .nil) (.cons (.ret (.and (.call "is_whole" none (.cons (.sub (.var 0) (.cst (.int 1))) (.cons (.cst (.int 0)) (.cons (.var 1) .nil)))) (.and (.call "is_whole" none (.cons (.sub (.var 0) (.cst (.int 2))) (.cons (.cst (.int 0)) (.cons (.var 1) .nil)))) (.cmp .ne (.sub (.var 0) (.cst (.int 1))) (.sub (.var 0) (.cst (.int 2))))))) .nil))))))
def f_is_want : Fd := ⟨"is_want", false, 2, 3, b_is_want⟩
theorem R_is_want {tbl : TblS} {fs : List Fd} {k : Nat} {g : G} {Q : D → Tag → G → Prop} {a0 a1 : D} [h : Hf fs f_is_want] (q : WX (execs (run tbl fs k) tbl b_is_want [.imm a0, .imm a1, .no] g) (fun _ g' => Q .none .fr g') Q) : W (run tbl fs (k + 1) "is_want" false [a0, a1] g) Q := W_run h.h rfl q
def b_need_book : Ss := (.cons (.ite (.or (.not (.isi "tuple" (.var 0))) (.or (.cmp .ne (.bi .len (.cons (.var 0) .nil)) (.cst (.int 2))) (.cmp .ne (.comp (.var 5) (.one 5) (.val (.var 0)) (.cons (.not (.isi "tuple" (.var 5))) .nil)) (.lst .nil)))) (.cons (.rai) .nil) .nil) (.cons (.tup [3, 4] [0] (.var 0)) (.cons (.asg 1 [3] (.bi .len (.cons (.var 3) .nil))) (.cons (.ite (.cmp .eq (.var 1) (.cst (.int 0))) (.cons (.rai) .nil) .nil) (.cons (.for1 (.one 2) [1] (.rng1 (.var 1)) (.cons (.ite (.or (.cmp .ge (.var 2) (.glo "MOST_CLAUSES" (.int 8))) (.not (.call "is_clause" none (.cons (.sub (.var 3) (.var 2)) (.cons (.var 1) .nil))))) (.cons (.rai) .nil) .nil) .nil)) (.cons (.for1 (.one 2) [4] (.rng1 (.bi .len (.cons (.var 4) .nil))) (.cons (.ite (.or (.cmp .ge (.var 2) (.glo "MOST_WANTS" (.int 16))) (.not (.call "is_want" none (.cons (.sub (.var 4) (.var 2)) (.cons (.var 1) .nil))))) (.cons (.rai) .nil) .nil) .nil)) .nil))))))
def f_need_book : Fd := ⟨"need_book", false, 1, 6, b_need_book⟩
theorem R_need_book {tbl : TblS} {fs : List Fd} {k : Nat} {g : G} {Q : D → Tag → G → Prop} {a0 : D} [h : Hf fs f_need_book] (q : WX (execs (run tbl fs k) tbl b_need_book [.imm a0, .no, .no, .no, .no, .no] g) (fun _ g' => Q .none .fr g') Q) : W (run tbl fs (k + 1) "need_book" false [a0] g) Q := W_run h.h rfl q
def b_need_answers : Ss := (.cons (.ite (.or (.not (.isi "tuple" (.var 0))) (.cmp .ne (.bi .len (.cons (.var 0) .nil)) (.glo "QUESTIONS" (.int 3)))) (.cons (.rai) .nil) .nil) (.cons (.ite (.cmp .ne (.comp (.var 1) (.one 1) (.val (.var 0)) (.cons (.not (.call "is_whole" none (.cons (.var 1) (.cons (.cst (.int 0)) (.cons (.glo "ANSWERS" (.int 3)) .nil))))) .nil)) (.lst .nil)) (.cons (.rai) .nil) .nil) .nil))
def f_need_answers : Fd := ⟨"need_answers", false, 1, 2, b_need_answers⟩
theorem R_need_answers {tbl : TblS} {fs : List Fd} {k : Nat} {g : G} {Q : D → Tag → G → Prop} {a0 : D} [h : Hf fs f_need_answers] (q : WX (execs (run tbl fs k) tbl b_need_answers [.imm a0, .no] g) (fun _ g' => Q .none .fr g') Q) : W (run tbl fs (k + 1) "need_answers" false [a0] g) Q := W_run h.h rfl q
def b_need_paper : Ss := (.cons (.ite (.not (.call "is_rising" none (.cons (.var 1) (.cons (.bi .len (.cons (.sub (.var 0) (.cst (.int 0))) .nil)) .nil)))) (.cons (.rai) .nil) .nil) .nil)
def f_need_paper : Fd := ⟨"need_paper", false, 2, 2, b_need_paper⟩
def b_need_wishes : Ss := (.cons (.for1 (.one 2) [1] (.rng1 (.bi .len (.cons (.var 1) .nil))) (.cons (.asg 3 [1, 2] (.sub (.var 1) (.var 2))) (.cons (.ite (.or (.cmp .ge (.var 2) (.glo "MOST_WISHES" (.int 10))) (.or (.not (.isi "tuple" (.var 3))) (.cmp .ne (.bi .len (.cons (.var 3) .nil)) (.cst (.int 2))))) (.cons (.rai) .nil) .nil) (.cons (.ite (.or (.not (.call "is_whole" none (.cons (.sub (.var 3) (.cst (.int 0))) (.cons (.cst (.int 0)) (.cons (.bi .len (.cons (.sub (.var 0) (.cst (.int 0))) .nil)) .nil))))) (.not (.isi "bool" (.sub (.var 3) (.cst (.int 1)))))) (.cons (.rai) .nil) .nil) .nil)))) .nil)
def f_need_wishes : Fd := ⟨"need_wishes", false, 2, 4, b_need_wishes⟩
theorem R_need_wishes {tbl : TblS} {fs : List Fd} {k : Nat} {g : G} {Q : D → Tag → G → Prop} {a0 a1 : D} [h : Hf fs f_need_wishes] (q : WX (execs (run tbl fs k) tbl b_need_wishes [.imm a0, .imm a1, .no, .no] g) (fun _ g' => Q .none .fr g') Q) : W (run tbl fs (k + 1) "need_wishes" false [a0, a1] g) Q := W_run h.h rfl q
def b_is_so : Ss := (.cons (.asg 2 [0] (.sub (.var 0) (.cst (.int 0)))) (.cons (.ite (.cmp .eq (.var 2) (.cst (.str "is"))) (.cons (.ret (.cmp .eq (.sub (.var 1) (.sub (.var 0) (.cst (.int 1)))) (.sub (.var 0) (.cst (.int 2))))) .nil) .nil) (.cons (.ite (.cmp .eq (.var 2) (.cst (.str "not"))) (.cons (.ret (.not (.call "is_so" none (.cons (.sub (.var 0) (.cst (.int 1))) (.cons (.var 1) .nil))))) .nil) .nil) (.cons (.ret (.and (.call "is_so" none (.cons (.sub (.var 0) (.cst (.int 1))) (.cons (.var 1) .nil))) (.call "is_so" none (.cons (.sub (.var 0) (.cst (.int 2))) (.cons (.var 1) .nil))))) .nil))))
def f_is_so : Fd := ⟨"is_so", false, 2, 3, b_is_so⟩
theorem R_is_so {tbl : TblS} {fs : List Fd} {k : Nat} {g : G} {Q : D → Tag → G → Prop} {a0 a1 : D} [h : Hf fs f_is_so] (q : WX (execs (run tbl fs k) tbl b_is_so [.imm a0, .imm a1, .no] g) (fun _ g' => Q .none .fr g') Q) : W (run tbl fs (k + 1) "is_so" false [a0, a1] g) Q := W_run h.h rfl q
def b_keeps : Ss := (.cons (.asg 3 [0] (.sub (.var 0) (.cst (.int 0)))) (.cons (.ite (.cmp .isin (.var 3) (.tup (.cons (.cst (.str "needs")) (.cons (.cst (.str "bars")) .nil)))) (.cons (.ret (.or (.cmp .notin (.sub (.var 0) (.cst (.int 1))) (.var 2)) (.cmp .eq (.cmp .isin (.sub (.var 0) (.cst (.int 2))) (.var 2)) (.cmp .eq (.var 3) (.cst (.str "needs")))))) .nil) .nil) (.cons (.ite (.cmp .isin (.var 3) (.tup (.cons (.cst (.str "one")) (.cons (.cst (.str "some")) .nil)))) (.cons (.asg 4 [5, 0, 2] (.bi .len (.cons (.comp (.var 5) (.one 5) (.val (.sub (.var 0) (.cst (.int 1)))) (.cons (.cmp .isin (.var 5) (.var 2)) .nil)) .nil))) (.cons (.ret (.ite (.cmp .eq (.var 3) (.cst (.str "one"))) (.cmp .eq (.var 4) (.cst (.int 1))) (.cmp .gt (.var 4) (.cst (.int 0))))) .nil)) .nil) (.cons (.ite (.cmp .eq (.var 3) (.cst (.str "ahead"))) (.cons (.ret (.cst (.bool true))) .nil) .nil) (.cons (.ite (.cmp .eq (.var 3) (.cst (.str "when"))) (.cons (.ret (.or (.cmp .isin (.sub (.var 0) (.cst (.int 2))) (.var 2)) (.not (.call "is_so" none (.cons (.sub (.var 0) (.cst (.int 1))) (.cons (.var 1) .nil)))))) .nil) .nil) (.cons (.ret (.or (.cmp .notin (.sub (.var 0) (.cst (.int 2))) (.var 2)) (.call "is_so" none (.cons (.sub (.var 0) (.cst (.int 1))) (.cons (.var 1) .nil))))) .nil))))))
def f_keeps : Fd := ⟨"keeps", false, 3, 6, b_keeps⟩
theorem R_keeps {tbl : TblS} {fs : List Fd} {k : Nat} {g : G} {Q : D → Tag → G → Prop} {a0 a1 a2 : D} [h : Hf fs f_keeps] (q : WX (execs (run tbl fs k) tbl b_keeps [.imm a0, .imm a1, .imm a2, .no, .no, .no] g) (fun _ g' => Q .none .fr g') Q) : W (run tbl fs (k + 1) "keeps" false [a0, a1, a2] g) Q := W_run h.h rfl q
def b_cites : Ss := (.cons (.ret (.comp (.sub (.var 2) (.cst (.int 1))) (.one 2) (.val (.sub (.sub (.sub (.var 0) (.cst (.int 0))) (.var 1)) (.cst (.int 1)))) (.cons (.and (.isi "tuple" (.var 2)) (.cmp .eq (.sub (.var 2) (.cst (.int 0))) (.cst (.str "cite")))) .nil))) .nil)
def f_cites : Fd := ⟨"cites", false, 2, 3, b_cites⟩
theorem R_cites {tbl : TblS} {fs : List Fd} {k : Nat} {g : G} {Q : D → Tag → G → Prop} {a0 a1 : D} [h : Hf fs f_cites] (q : WX (execs (run tbl fs k) tbl b_cites [.imm a0, .imm a1, .no] g) (fun _ g' => Q .none .fr g') Q) : W (run tbl fs (k + 1) "cites" false [a0, a1] g) Q := W_run h.h rfl q
def b_all_cited : Ss := (.cons (.for1 (.one 2) [1] (.val (.var 1)) (.cons (.ite (.cmp .ne (.comp (.var 3) (.one 3) (.val (.call "cites" none (.cons (.var 0) (.cons (.var 2) .nil)))) (.cons (.cmp .notin (.var 3) (.var 1)) .nil)) (.lst .nil)) (.cons (.ret (.cst (.bool false))) .nil) .nil) .nil)) (.cons (.ret (.cst (.bool true))) .nil))
def f_all_cited : Fd := ⟨"all_cited", false, 2, 4, b_all_cited⟩
theorem R_all_cited {tbl : TblS} {fs : List Fd} {k : Nat} {g : G} {Q : D → Tag → G → Prop} {a0 a1 : D} [h : Hf fs f_all_cited] (q : WX (execs (run tbl fs k) tbl b_all_cited [.imm a0, .imm a1, .no, .no] g) (fun _ g' => Q .none .fr g') Q) : W (run tbl fs (k + 1) "all_cited" false [a0, a1] g) Q := W_run h.h rfl q
def b_pairs_ahead : Ss := (.cons (.asg 2 [] (.lst .nil)) (.cons (.for1 (.one 3) [0] (.val (.sub (.var 0) (.cst (.int 1)))) (.cons (.ite (.and (.cmp .eq (.sub (.var 3) (.cst (.int 0))) (.cst (.str "ahead"))) (.and (.cmp .isin (.sub (.var 3) (.cst (.int 1))) (.var 1)) (.cmp .isin (.sub (.var 3) (.cst (.int 2))) (.var 1)))) (.cons (.app 2 (.tup (.cons (.sub (.var 3) (.cst (.int 1))) (.cons (.sub (.var 3) (.cst (.int 2))) .nil)))) .nil) .nil) .nil)) (.cons (.ret (.var 2)) .nil)))
def f_pairs_ahead : Fd := ⟨"pairs_ahead", false, 2, 4, b_pairs_ahead⟩
theorem R_pairs_ahead {tbl : TblS} {fs : List Fd} {k : Nat} {g : G} {Q : D → Tag → G → Prop} {a0 a1 : D} [h : Hf fs f_pairs_ahead] (q : WX (execs (run tbl fs k) tbl b_pairs_ahead [.imm a0, .imm a1, .no, .no] g) (fun _ g' => Q .none .fr g') Q) : W (run tbl fs (k + 1) "pairs_ahead" false [a0, a1] g) Q := W_run h.h rfl q
def b_order : Ss := (.cons (.asg 2 [1] (.bi .list (.cons (.var 1) .nil))) (.cons (.asg 3 [0, 1] (.call "pairs_ahead" none (.cons (.var 0) (.cons (.var 1) .nil)))) (.cons (.asg 4 [] (.lst .nil)) (.cons (.whl 1000 (.cmp .ne (.var 2) (.lst .nil)) (.cons (.asg 6 [8, 9, 3] (.comp (.var 8) (.one 8) (.val (.var 2)) (.cons (.cmp .eq (.comp (.var 9) (.one 9) (.val (.var 3)) (.cons (.and (.cmp .eq (.sub (.var 9) (.cst (.int 1))) (.var 8)) (.cmp .isin (.sub (.var 9) (.cst (.int 0))) (.var 2))) .nil)) (.lst .nil)) .nil))) (.cons (.ite (.cmp .eq (.var 6) (.lst .nil)) (.cons (.ret (.cst .none)) .nil) .nil) (.cons (.asg 7 [8, 6, 0] (.sub (.bi .min (.cons (.comp (.tup (.cons (.sub (.sub (.sub (.var 0) (.cst (.int 0))) (.var 8)) (.cst (.int 0))) (.cons (.var 8) .nil))) (.one 8) (.val (.var 6)) .nil) .nil)) (.cst (.int 1)))) (.cons (.app 4 (.var 7)) (.cons (.rem 2 (.var 7)) .nil)))))) (.cons (.asg 5 [8, 4, 0] (.comp (.sub (.sub (.sub (.var 0) (.cst (.int 0))) (.var 8)) (.cst (.int 0))) (.one 8) (.val (.var 4)) .nil)) (.cons (.ret (.ite (.cmp .eq (.var 5) (.bi .sorted (.cons (.var 5) .nil))) (.var 4) (.cst .none))) .nil))))))
def f_order : Fd := ⟨"order", false, 2, 10, b_order⟩
theorem R_order {tbl : TblS} {fs : List Fd} {k : Nat} {g : G} {Q : D → Tag → G → Prop} {a0 a1 : D} [h : Hf fs f_order] (q : WX (execs (run tbl fs k) tbl b_order [.imm a0, .imm a1, .no, .no, .no, .no, .no, .no, .no, .no] g) (fun _ g' => Q .none .fr g') Q) : W (run tbl fs (k + 1) "order" false [a0, a1] g) Q := W_run h.h rfl q
def b_is_fit : Ss := (.cons (.for1 (.one 3) [0] (.val (.sub (.var 0) (.cst (.int 1)))) (.cons (.ite (.not (.call "keeps" none (.cons (.var 3) (.cons (.var 1) (.cons (.var 2) .nil))))) (.cons (.ret (.cst (.bool false))) .nil) .nil) .nil)) (.cons (.ret (.and (.call "all_cited" none (.cons (.var 0) (.cons (.var 2) .nil))) (.noN (.call "order" none (.cons (.var 0) (.cons (.var 2) .nil)))))) .nil))
def f_is_fit : Fd := ⟨"is_fit", false, 3, 4, b_is_fit⟩
theorem R_is_fit {tbl : TblS} {fs : List Fd} {k : Nat} {g : G} {Q : D → Tag → G → Prop} {a0 a1 a2 : D} [h : Hf fs f_is_fit] (q : WX (execs (run tbl fs k) tbl b_is_fit [.imm a0, .imm a1, .imm a2, .no] g) (fun _ g' => Q .none .fr g') Q) : W (run tbl fs (k + 1) "is_fit" false [a0, a1, a2] g) Q := W_run h.h rfl q
def b_broken : Ss := (.cons (.exp (.call "need_book" none (.cons (.var 0) .nil))) (.cons (.exp (.call "need_answers" none (.cons (.var 1) .nil))) (.cons (.exp (.call "need_paper" none (.cons (.var 0) (.cons (.var 2) .nil)))) (.cons (.asg 3 [5, 1, 2, 0] (.comp (.var 5) (.one 5) (.rng1 (.bi .len (.cons (.sub (.var 0) (.cst (.int 1))) .nil))) (.cons (.not (.call "keeps" none (.cons (.sub (.sub (.var 0) (.cst (.int 1))) (.var 5)) (.cons (.var 1) (.cons (.var 2) .nil))))) .nil))) (.cons (.asg 4 [5, 2, 6, 0] (.comp (.var 5) (.one 5) (.val (.var 2)) (.cons (.cmp .ne (.comp (.var 6) (.one 6) (.val (.call "cites" none (.cons (.var 0) (.cons (.var 5) .nil)))) (.cons (.cmp .notin (.var 6) (.var 2)) .nil)) (.lst .nil)) .nil))) (.cons (.ret (.tup (.cons (.var 3) (.cons (.var 4) (.cons (.noN (.call "order" none (.cons (.var 0) (.cons (.var 2) .nil)))) .nil))))) .nil))))))
def f_broken : Fd := ⟨"broken", false, 3, 7, b_broken⟩
def b_all_sets : Ss := (.cons (.asg 1 [] (.lst (.cons (.tup .nil) .nil))) (.cons (.for1 (.one 2) [0] (.rng1 (.var 0)) (.cons (.asg 1 [1, 3, 2] (.bin .add (.var 1) (.comp (.bin .add (.var 3) (.tup (.cons (.var 2) .nil))) (.one 3) (.val (.var 1)) .nil))) .nil)) (.cons (.ret (.bi .sorted (.cons (.var 1) .nil))) .nil)))
def f_all_sets : Fd := ⟨"all_sets", false, 1, 4, b_all_sets⟩
theorem R_all_sets {tbl : TblS} {fs : List Fd} {k : Nat} {g : G} {Q : D → Tag → G → Prop} {a0 : D} [h : Hf fs f_all_sets] (q : WX (execs (run tbl fs k) tbl b_all_sets [.imm a0, .no, .no, .no] g) (fun _ g' => Q .none .fr g') Q) : W (run tbl fs (k + 1) "all_sets" false [a0] g) Q := W_run h.h rfl q
def b_all_papers : Ss := (.cons (.ret (.comp (.var 2) (.one 2) (.val (.call "all_sets" none (.cons (.bi .len (.cons (.sub (.var 0) (.cst (.int 0))) .nil)) .nil))) (.cons (.call "is_fit" none (.cons (.var 0) (.cons (.var 1) (.cons (.var 2) .nil)))) .nil))) .nil)
def f_all_papers : Fd := ⟨"all_papers", false, 2, 3, b_all_papers⟩
theorem R_all_papers {tbl : TblS} {fs : List Fd} {k : Nat} {g : G} {Q : D → Tag → G → Prop} {a0 a1 : D} [h : Hf fs f_all_papers] (q : WX (execs (run tbl fs k) tbl b_all_papers [.imm a0, .imm a1, .no] g) (fun _ g' => Q .none .fr g') Q) : W (run tbl fs (k + 1) "all_papers" false [a0, a1] g) Q := W_run h.h rfl q
def b_has : Ss := (.cons (.ret (.cmp .eq (.comp (.var 2) (.one 2) (.val (.var 1)) (.cons (.cmp .ne (.cmp .isin (.sub (.var 2) (.cst (.int 0))) (.var 0)) (.sub (.var 2) (.cst (.int 1)))) .nil)) (.lst .nil))) .nil)
def f_has : Fd := ⟨"has", false, 2, 3, b_has⟩
theorem R_has {tbl : TblS} {fs : List Fd} {k : Nat} {g : G} {Q : D → Tag → G → Prop} {a0 a1 : D} [h : Hf fs f_has] (q : WX (execs (run tbl fs k) tbl b_has [.imm a0, .imm a1, .no] g) (fun _ g' => Q .none .fr g') Q) : W (run tbl fs (k + 1) "has" false [a0, a1] g) Q := W_run h.h rfl q
def b_need_asked : Ss := (.cons (.exp (.call "need_book" none (.cons (.var 0) .nil))) (.cons (.exp (.call "need_answers" none (.cons (.var 1) .nil))) (.cons (.exp (.call "need_wishes" none (.cons (.var 0) (.cons (.var 2) .nil)))) .nil)))
def f_need_asked : Fd := ⟨"need_asked", false, 3, 3, b_need_asked⟩
theorem R_need_asked {tbl : TblS} {fs : List Fd} {k : Nat} {g : G} {Q : D → Tag → G → Prop} {a0 a1 a2 : D} [h : Hf fs f_need_asked] (q : WX (execs (run tbl fs k) tbl b_need_asked [.imm a0, .imm a1, .imm a2] g) (fun _ g' => Q .none .fr g') Q) : W (run tbl fs (k + 1) "need_asked" false [a0, a1, a2] g) Q := W_run h.h rfl q
def b_papers : Ss := (.cons (.exp (.call "need_asked" none (.cons (.var 0) (.cons (.var 1) (.cons (.var 2) .nil))))) (.cons (.ret (.comp (.var 3) (.one 3) (.val (.call "all_papers" none (.cons (.var 0) (.cons (.var 1) .nil)))) (.cons (.call "has" none (.cons (.var 3) (.cons (.var 2) .nil))) .nil))) .nil))
def f_papers : Fd := ⟨"papers", false, 3, 4, b_papers⟩
theorem R_papers {tbl : TblS} {fs : List Fd} {k : Nat} {g : G} {Q : D → Tag → G → Prop} {a0 a1 a2 : D} [h : Hf fs f_papers] (q : WX (execs (run tbl fs k) tbl b_papers [.imm a0, .imm a1, .imm a2, .no] g) (fun _ g' => Q .none .fr g') Q) : W (run tbl fs (k + 1) "papers" false [a0, a1, a2] g) Q := W_run h.h rfl q
def b_free : Ss := (.cons (.asg 3 [0, 1, 2] (.call "papers" none (.cons (.var 0) (.cons (.var 1) (.cons (.var 2) .nil))))) (.cons (.ite (.cmp .eq (.var 3) (.lst .nil)) (.cons (.ret (.bin .mul (.lst (.cons (.cst (.str "none")) .nil)) (.bi .len (.cons (.sub (.var 0) (.cst (.int 0))) .nil)))) .nil) .nil) (.cons (.asg 4 [] (.lst .nil)) (.cons (.for1 (.one 5) [0] (.rng1 (.bi .len (.cons (.sub (.var 0) (.cst (.int 0))) .nil))) (.cons (.asg 6 [7, 3, 5] (.bi .len (.cons (.comp (.var 7) (.one 7) (.val (.var 3)) (.cons (.cmp .isin (.var 5) (.var 7)) .nil)) .nil))) (.cons (.app 4 (.ite (.cmp .eq (.var 6) (.bi .len (.cons (.var 3) .nil))) (.cst (.str "in")) (.ite (.cmp .eq (.var 6) (.cst (.int 0))) (.cst (.str "out")) (.cst (.str "free"))))) .nil))) (.cons (.ret (.var 4)) .nil)))))
def f_free : Fd := ⟨"free", false, 3, 8, b_free⟩
def b_all_answers : Ss := (.cons (.asg 0 [] (.lst (.cons (.tup .nil) .nil))) (.cons (.for1 (.one 1) [] (.rng1 (.glo "QUESTIONS" (.int 3))) (.cons (.asg 2 [] (.lst .nil)) (.cons (.for1 (.one 3) [0] (.val (.var 0)) (.cons (.ext 2 (.comp (.bin .add (.var 3) (.tup (.cons (.var 4) .nil))) (.one 4) (.rng1 (.glo "ANSWERS" (.int 3))) .nil)) .nil)) (.cons (.asg 0 [2] (.var 2)) .nil)))) (.cons (.ret (.var 0)) .nil)))
def f_all_answers : Fd := ⟨"all_answers", false, 0, 5, b_all_answers⟩
theorem R_all_answers {tbl : TblS} {fs : List Fd} {k : Nat} {g : G} {Q : D → Tag → G → Prop} [h : Hf fs f_all_answers] (q : WX (execs (run tbl fs k) tbl b_all_answers [.no, .no, .no, .no, .no] g) (fun _ g' => Q .none .fr g') Q) : W (run tbl fs (k + 1) "all_answers" false [] g) Q := W_run h.h rfl q
def b_parted : Ss := (.cons (.for1 (.one 2) [] (.val (.call "all_answers" none .nil)) (.cons (.par2 3 4 (.call "all_papers" none (.cons (.var 0) (.cons (.var 2) .nil))) (.call "all_papers" none (.cons (.var 1) (.cons (.var 2) .nil)))) (.cons (.ite (.cmp .ne (.var 3) (.var 4)) (.cons (.ret (.tup (.cons (.var 2) (.cons (.bi .min (.cons (.comp (.var 5) (.one 5) (.val (.bin .add (.var 3) (.var 4))) (.cons (.cmp .ne (.cmp .isin (.var 5) (.var 3)) (.cmp .isin (.var 5) (.var 4))) .nil)) .nil)) .nil)))) .nil) .nil) .nil))) (.cons (.ret (.cst .none)) .nil))
def f_parted : Fd := ⟨"parted", false, 2, 6, b_parted⟩
def b_alike : Ss := (.cons (.exp (.call "need_book" none (.cons (.var 0) .nil))) (.cons (.exp (.call "need_book" none (.cons (.var 1) .nil))) (.cons (.ite (.cmp .ne (.bi .len (.cons (.sub (.var 0) (.cst (.int 0))) .nil)) (.bi .len (.cons (.sub (.var 1) (.cst (.int 0))) .nil))) (.cons (.rai) .nil) .nil) (.cons (.ret (.call "parted" none (.cons (.var 0) (.cons (.var 1) .nil)))) .nil))))
def f_alike : Fd := ⟨"alike", false, 2, 2, b_alike⟩
def b_without : Ss := (.cons (.ret (.tup (.cons (.sub (.var 0) (.cst (.int 0))) (.cons (.bin .add (.slc (.sub (.var 0) (.cst (.int 1))) .nil (.cons (.var 1) .nil)) (.slc (.sub (.var 0) (.cst (.int 1))) (.cons (.bin .add (.var 1) (.cst (.int 1))) .nil) .nil)) .nil)))) .nil)
def f_without : Fd := ⟨"without", false, 2, 2, b_without⟩
def b_needless : Ss := (.cons (.exp (.call "need_book" none (.cons (.var 0) .nil))) (.cons (.ret (.comp (.var 1) (.one 1) (.rng1 (.bi .len (.cons (.sub (.var 0) (.cst (.int 1))) .nil))) (.cons (.isN (.call "parted" none (.cons (.var 0) (.cons (.call "without" none (.cons (.var 0) (.cons (.var 1) .nil))) .nil)))) .nil))) .nil))
def f_needless : Fd := ⟨"needless", false, 1, 2, b_needless⟩
def b_lean : Ss := (.cons (.exp (.call "need_book" none (.cons (.var 0) .nil))) (.cons (.for1 (.one 1) [0] (.rng3 (.bin .sub (.bi .len (.cons (.sub (.var 0) (.cst (.int 1))) .nil)) (.cst (.int 1))) (.bin .sub (.cst (.int 0)) (.cst (.int 1))) (.bin .sub (.cst (.int 0)) (.cst (.int 1)))) (.cons (.asg 2 [0, 1] (.call "without" none (.cons (.var 0) (.cons (.var 1) .nil)))) (.cons (.ite (.isN (.call "parted" none (.cons (.var 0) (.cons (.var 2) .nil)))) (.cons (.asg 0 [2] (.var 2)) .nil) .nil) .nil))) (.cons (.ret (.var 0)) .nil)))
def f_lean : Fd := ⟨"lean", false, 1, 3, b_lean⟩
def b_need_known : Ss := (.cons (.ite (.or (.not (.isi "tuple" (.var 0))) (.cmp .ne (.bi .len (.cons (.var 0) .nil)) (.glo "QUESTIONS" (.int 3)))) (.cons (.rai) .nil) .nil) (.cons (.ite (.cmp .ne (.comp (.var 1) (.one 1) (.val (.var 0)) (.cons (.and (.noN (.var 1)) (.not (.call "is_whole" none (.cons (.var 1) (.cons (.cst (.int 0)) (.cons (.glo "ANSWERS" (.int 3)) .nil)))))) .nil)) (.lst .nil)) (.cons (.rai) .nil) .nil) .nil))
def f_need_known : Fd := ⟨"need_known", false, 1, 2, b_need_known⟩
theorem R_need_known {tbl : TblS} {fs : List Fd} {k : Nat} {g : G} {Q : D → Tag → G → Prop} {a0 : D} [h : Hf fs f_need_known] (q : WX (execs (run tbl fs k) tbl b_need_known [.imm a0, .no] g) (fun _ g' => Q .none .fr g') Q) : W (run tbl fs (k + 1) "need_known" false [a0] g) Q := W_run h.h rfl q
def b_fits_known : Ss := (.cons (.ret (.cmp .eq (.comp (.var 2) (.one 2) (.rng1 (.glo "QUESTIONS" (.int 3))) (.cons (.and (.noN (.sub (.var 1) (.var 2))) (.cmp .ne (.sub (.var 1) (.var 2)) (.sub (.var 0) (.var 2)))) .nil)) (.lst .nil))) .nil)
def f_fits_known : Fd := ⟨"fits_known", false, 2, 3, b_fits_known⟩
theorem R_fits_known {tbl : TblS} {fs : List Fd} {k : Nat} {g : G} {Q : D → Tag → G → Prop} {a0 a1 : D} [h : Hf fs f_fits_known] (q : WX (execs (run tbl fs k) tbl b_fits_known [.imm a0, .imm a1, .no] g) (fun _ g' => Q .none .fr g') Q) : W (run tbl fs (k + 1) "fits_known" false [a0, a1] g) Q := W_run h.h rfl q
def b_matter : Ss := (.cons (.exp (.call "need_book" none (.cons (.var 0) .nil))) (.cons (.exp (.call "need_known" none (.cons (.var 1) .nil))) (.cons (.asg 2 [7, 1] (.comp (.var 7) (.one 7) (.val (.call "all_answers" none .nil)) (.cons (.call "fits_known" none (.cons (.var 7) (.cons (.var 1) .nil))) .nil))) (.cons (.dof 3 (.comp (.tup (.cons (.var 7) (.cons (.call "all_papers" none (.cons (.var 0) (.cons (.var 7) .nil))) .nil))) (.one 7) (.val (.var 2)) .nil)) (.cons (.asg 4 [] (.lst .nil)) (.cons (.for1 (.one 5) [] (.rng1 (.glo "QUESTIONS" (.int 3))) (.cons (.asg 6 [7, 2, 5] (.comp (.var 7) (.one 7) (.val (.var 2)) (.cons (.cmp .eq (.sub (.var 7) (.var 5)) (.cst (.int 0))) .nil))) (.cons (.for1 (.one 7) [6, 1, 5] (.val (.ite (.isN (.sub (.var 1) (.var 5))) (.var 6) (.lst .nil))) (.cons (.asg 8 [9, 7, 5] (.comp (.bin .add (.bin .add (.slc (.var 7) .nil (.cons (.var 5) .nil)) (.tup (.cons (.var 9) .nil))) (.slc (.var 7) (.cons (.bin .add (.var 5) (.cst (.int 1))) .nil) .nil)) (.one 9) (.rng2 (.cst (.int 1)) (.glo "ANSWERS" (.int 3))) .nil)) (.cons (.ite (.and (.cmp .notin (.var 5) (.var 4)) (.cmp .ne (.comp (.var 9) (.one 9) (.val (.var 8)) (.cons (.cmp .ne (.dget 3 (.var 9)) (.dget 3 (.var 7))) .nil)) (.lst .nil))) (.cons (.app 4 (.var 5)) .nil) .nil) .nil))) .nil))) (.cons (.ret (.var 4)) .nil)))))))
def f_matter : Fd := ⟨"matter", false, 2, 10, b_matter⟩
theorem R_matter {tbl : TblS} {fs : List Fd} {k : Nat} {g : G} {Q : D → Tag → G → Prop} {a0 a1 : D} [h : Hf fs f_matter] (q : WX (execs (run tbl fs k) tbl b_matter [.imm a0, .imm a1, .no, .no, .no, .no, .no, .no, .no, .no] g) (fun _ g' => Q .none .fr g') Q) : W (run tbl fs (k + 1) "matter" false [a0, a1] g) Q := W_run h.h rfl q
def b__law_taken : Ss := (.cons (.ite (.cmp .gt (.rowGet 0 3) (.cst (.int 0))) (.cons (.asg 3 [1] (.bin .mod (.rowGet 0 3) (.var 1))) (.cons (.rowSet 0 3 (.bin .fdiv (.rowGet 0 3) (.var 1))) (.cons (.ret (.var 3)) .nil))) .nil) (.cons (.rowSet 0 1 (.bin .add (.rowGet 0 1) (.cst (.int 1)))) (.cons (.ite (.cmp .gt (.rowGet 0 1) (.rowLen 0)) (.cons (.rowSet 0 2 (.bin .mod (.bin .add (.bin .mul (.rowGet 0 2) (.cst (.int 48271))) (.cst (.int 11))) (.cst (.int 2147483647)))) (.cons (.ret (.bin .mod (.bin .fdiv (.rowGet 0 2) (.cst (.int 7))) (.var 1))) .nil)) .nil) (.cons (.asg 2 [] (.rowCell 0 (.bin .sub (.rowGet 0 1) (.cst (.int 1))))) (.cons (.rowSet 0 2 (.bin .mod (.bin .add (.bin .add (.bin .mul (.rowGet 0 2) (.cst (.int 48271))) (.var 2)) (.cst (.int 11))) (.cst (.int 2147483647)))) (.cons (.ite (.cmp .ge (.var 2) (.bin .pow (.cst (.int 10)) (.cst (.int 18)))) (.cons (.rowSet 0 3 (.bin .fdiv (.var 2) (.var 1))) .nil) .nil) (.cons (.ret (.bin .mod (.var 2) (.var 1))) .nil)))))))
def f__law_taken : Fd := ⟨"_law_taken", true, 1, 4, b__law_taken⟩
def b__law_taken'1 : Ss := (.cons (.ite (.cmp .gt (.rowGet 0 3) (.cst (.int 0))) (.cons (.asg 3 [1] (.bin .mod (.bi .int (.cons (.rowGet 0 3) .nil)) (.var 1))) (.cons (.rowSet 0 3 (.bin .fdiv (.rowGet 0 3) (.var 1))) (.cons (.ret (.var 3)) .nil))) .nil) (.cons (.rowSet 0 1 (.bin .add (.rowGet 0 1) (.cst (.int 1)))) (.cons (.ite (.cmp .gt (.rowGet 0 1) (.rowLen 0)) (.cons (.rowSet 0 2 (.bin .mod (.bi .int (.cons (.bin .add (.bin .mul (.rowGet 0 2) (.cst (.int 48271))) (.cst (.int 11))) .nil)) (.cst (.int 2147483647)))) (.cons (.ret (.bin .mod (.bi .int (.cons (.bin .fdiv (.rowGet 0 2) (.cst (.int 7))) .nil)) (.var 1))) .nil)) .nil) (.cons (.asg 2 [] (.rowCell 0 (.bin .sub (.rowGet 0 1) (.cst (.int 1))))) (.cons (.rowSet 0 2 (.bin .mod (.bi .int (.cons (.bin .add (.bin .add (.bin .mul (.rowGet 0 2) (.cst (.int 48271))) (.var 2)) (.cst (.int 11))) .nil)) (.cst (.int 2147483647)))) (.cons (.ite (.cmp .ge (.var 2) (.bin .pow (.cst (.int 10)) (.cst (.int 18)))) (.cons (.rowSet 0 3 (.bin .fdiv (.var 2) (.var 1))) .nil) .nil) (.cons (.ret (.bin .mod (.bi .int (.cons (.var 2) .nil)) (.var 1))) .nil)))))))
def f__law_taken'1 : Fd := ⟨"_law_taken", true, 1, 4, b__law_taken'1⟩
def b__law_letters : Ss := (.cons (.asg 1 [] (.cst (.str "abcdefghijklmnopqrstuvwxyz"))) (.cons (.ret (.join "" (.comp (.sub (.var 1) (.call "_law_taken" (some 0) (.cons (.cst (.int 26)) .nil))) (.one 2) (.rng1 (.bin .add (.cst (.int 1)) (.call "_law_taken" (some 0) (.cons (.sub (.lst (.cons (.cst (.int 2)) (.cons (.cst (.int 6)) .nil))) (.call "_law_taken" (some 0) (.cons (.cst (.int 2)) .nil))) .nil)))) .nil))) .nil))
def f__law_letters : Fd := ⟨"_law_letters", true, 0, 3, b__law_letters⟩
theorem R__law_letters {tbl : TblS} {fs : List Fd} {k : Nat} {g : G} {Q : D → Tag → G → Prop} [h : Hf fs f__law_letters] (q : WX (execs (run tbl fs k) tbl b__law_letters [.row, .no, .no] g) (fun _ g' => Q .none .fr g') Q) : W (run tbl fs (k + 1) "_law_letters" true [] g) Q := W_run h.h rfl q
def b__law_condition : Ss := (.cons (.asg 2 [] (.call "_law_taken" (some 0) (.cons (.cst (.int 6)) .nil))) (.cons (.ite (.or (.cmp .lt (.var 2) (.cst (.int 3))) (.cmp .eq (.var 1) (.cst (.int 0)))) (.cons (.ret (.tup (.cons (.cst (.str "is")) (.cons (.call "_law_taken" (some 0) (.cons (.cst (.int 3)) .nil)) (.cons (.call "_law_taken" (some 0) (.cons (.cst (.int 3)) .nil)) .nil))))) .nil) .nil) (.cons (.ite (.cmp .lt (.var 2) (.cst (.int 5))) (.cons (.ret (.tup (.cons (.cst (.str "not")) (.cons (.call "_law_condition" (some 0) (.cons (.bin .sub (.var 1) (.cst (.int 1))) .nil)) .nil)))) .nil) .nil) (.cons (.ret (.tup (.cons (.cst (.str "both")) (.cons (.call "_law_condition" (some 0) (.cons (.bin .sub (.var 1) (.cst (.int 1))) .nil)) (.cons (.call "_law_condition" (some 0) (.cons (.bin .sub (.var 1) (.cst (.int 1))) .nil)) .nil))))) .nil))))
def f__law_condition : Fd := ⟨"_law_condition", true, 1, 3, b__law_condition⟩
theorem R__law_condition {tbl : TblS} {fs : List Fd} {k : Nat} {g : G} {Q : D → Tag → G → Prop} {a0 : D} [h : Hf fs f__law_condition] (q : WX (execs (run tbl fs k) tbl b__law_condition [.row, .imm a0, .no] g) (fun _ g' => Q .none .fr g') Q) : W (run tbl fs (k + 1) "_law_condition" true [a0] g) Q := W_run h.h rfl q
def b__law_clause : Ss := (.cons (.asg 2 [] (.lst .nil)) (.cons (.ite (.cmp .eq (.call "_law_taken" (some 0) (.cons (.cst (.int 12)) .nil)) (.cst (.int 11))) (.cons (.ret (.tup (.cons (.call "_law_taken" (some 0) (.cons (.cst (.int 4)) .nil)) (.cons (.bi .tuple (.cons (.comp (.tup (.cons (.cst (.str "cite")) (.cons (.call "_law_taken" (some 0) (.cons (.var 1) .nil)) .nil))) (.one 3) (.rng1 (.bin .add (.cst (.int 1)) (.call "_law_taken" (some 0) (.cons (.cst (.int 6)) .nil)))) .nil) .nil)) .nil)))) .nil) .nil) (.cons (.for1 (.one 3) [] (.rng1 (.sub (.lst (.cons (.cst (.int 1)) (.cons (.cst (.int 2)) (.cons (.bin .add (.cst (.int 1)) (.call "_law_taken" (some 0) (.cons (.cst (.int 6)) .nil))) .nil)))) (.call "_law_taken" (some 0) (.cons (.cst (.int 3)) .nil)))) (.cons (.asg 4 [] (.call "_law_taken" (some 0) (.cons (.cst (.int 8)) .nil))) (.cons (.asg 5 [1] (.lst (.cons (.tup (.cons (.cst (.str "fill")) (.cons (.call "_law_taken" (some 0) (.cons (.cst (.int 6)) .nil)) .nil))) (.cons (.tup (.cons (.cst (.str "cite")) (.cons (.call "_law_taken" (some 0) (.cons (.var 1) .nil)) .nil))) .nil)))) (.cons (.app 2 (.ite (.cmp .lt (.var 4) (.cst (.int 2))) (.sub (.var 5) (.var 4)) (.call "_law_letters" (some 0) .nil))) .nil)))) (.cons (.ret (.tup (.cons (.call "_law_taken" (some 0) (.cons (.sub (.lst (.cons (.cst (.int 1)) (.cons (.cst (.int 2)) (.cons (.cst (.int 4)) .nil)))) (.call "_law_taken" (some 0) (.cons (.cst (.int 3)) .nil))) .nil)) (.cons (.bi .tuple (.cons (.var 2) .nil)) .nil)))) .nil))))
def f__law_clause : Fd := ⟨"_law_clause", true, 1, 6, b__law_clause⟩
theorem R__law_clause {tbl : TblS} {fs : List Fd} {k : Nat} {g : G} {Q : D → Tag → G → Prop} {a0 : D} [h : Hf fs f__law_clause] (q : WX (execs (run tbl fs k) tbl b__law_clause [.row, .imm a0, .no, .no, .no, .no] g) (fun _ g' => Q .none .fr g') Q) : W (run tbl fs (k + 1) "_law_clause" true [a0] g) Q := W_run h.h rfl q
def b__law_want : Ss := (.cons (.asg 2 [] (.lst (.cons (.cst (.str "needs")) (.cons (.cst (.str "needs")) (.cons (.cst (.str "bars")) (.cons (.cst (.str "bars")) (.cons (.cst (.str "ahead")) (.cons (.cst (.str "ahead")) (.cons (.cst (.str "when")) (.cons (.cst (.str "only")) (.cons (.cst (.str "one")) (.cons (.cst (.str "some")) .nil)))))))))))) (.cons (.asg 3 [2] (.sub (.var 2) (.call "_law_taken" (some 0) (.cons (.cst (.int 10)) .nil)))) (.cons (.ite (.and (.cmp .eq (.var 1) (.cst (.int 1))) (.cmp .isin (.var 3) (.tup (.cons (.cst (.str "needs")) (.cons (.cst (.str "bars")) (.cons (.cst (.str "ahead")) .nil)))))) (.cons (.asg 3 [] (.cst (.str "only"))) .nil) .nil) (.cons (.ite (.cmp .isin (.var 3) (.tup (.cons (.cst (.str "when")) (.cons (.cst (.str "only")) .nil)))) (.cons (.ret (.tup (.cons (.var 3) (.cons (.call "_law_condition" (some 0) (.cons (.call "_law_taken" (some 0) (.cons (.cst (.int 4)) .nil)) .nil)) (.cons (.call "_law_taken" (some 0) (.cons (.var 1) .nil)) .nil))))) .nil) .nil) (.cons (.ite (.cmp .isin (.var 3) (.tup (.cons (.cst (.str "one")) (.cons (.cst (.str "some")) .nil)))) (.cons (.asg 5 [6, 1] (.comp (.var 6) (.one 6) (.rng1 (.var 1)) (.cons (.cmp .eq (.call "_law_taken" (some 0) (.cons (.cst (.int 3)) .nil)) (.cst (.int 0))) .nil))) (.cons (.ret (.tup (.cons (.var 3) (.cons (.bi .tuple (.cons (.ite (.cmp .ne (.var 5) (.lst .nil)) (.var 5) (.lst (.cons (.call "_law_taken" (some 0) (.cons (.var 1) .nil)) .nil))) .nil)) .nil)))) .nil)) .nil) (.cons (.asg 4 [1] (.call "_law_taken" (some 0) (.cons (.var 1) .nil))) (.cons (.ret (.tup (.cons (.var 3) (.cons (.var 4) (.cons (.bin .mod (.bin .add (.bin .add (.var 4) (.cst (.int 1))) (.call "_law_taken" (some 0) (.cons (.bin .sub (.var 1) (.cst (.int 1))) .nil))) (.var 1)) .nil))))) .nil)))))))
def f__law_want : Fd := ⟨"_law_want", true, 1, 7, b__law_want⟩
theorem R__law_want {tbl : TblS} {fs : List Fd} {k : Nat} {g : G} {Q : D → Tag → G → Prop} {a0 : D} [h : Hf fs f__law_want] (q : WX (execs (run tbl fs k) tbl b__law_want [.row, .imm a0, .no, .no, .no, .no, .no] g) (fun _ g' => Q .none .fr g') Q) : W (run tbl fs (k + 1) "_law_want" true [a0] g) Q := W_run h.h rfl q
def b__law_want'1 : Ss := (.cons (.asg 2 [] (.lst (.cons (.cst (.str "needs")) (.cons (.cst (.str "needs")) (.cons (.cst (.str "bars")) (.cons (.cst (.str "bars")) (.cons (.cst (.str "ahead")) (.cons (.cst (.str "ahead")) (.cons (.cst (.str "when")) (.cons (.cst (.str "only")) (.cons (.cst (.str "one")) (.cons (.cst (.str "some")) .nil)))))))))))) (.cons (.asg 3 [2] (.sub (.var 2) (.call "_law_taken" (some 0) (.cons (.cst (.int 10)) .nil)))) (.cons (.ite (.and (.cmp .eq (.var 1) (.cst (.int 1))) (.cmp .isin (.var 3) (.tup (.cons (.cst (.str "needs")) (.cons (.cst (.str "bars")) (.cons (.cst (.str "ahead")) .nil)))))) (.cons (.asg 3 [] (.cst (.str "only"))) .nil) .nil) (.cons (.ite (.cmp .isin (.var 3) (.tup (.cons (.cst (.str "when")) (.cons (.cst (.str "only")) .nil)))) (.cons (.ret (.tup (.cons (.var 3) (.cons (.call "_law_condition" (some 0) (.cons (.call "_law_taken" (some 0) (.cons (.cst (.int 4)) .nil)) .nil)) (.cons (.call "_law_taken" (some 0) (.cons (.var 1) .nil)) .nil))))) .nil) .nil) (.cons (.ite (.cmp .isin (.var 3) (.tup (.cons (.cst (.str "one")) (.cons (.cst (.str "some")) .nil)))) (.cons (.asg 5 [6, 1] (.comp (.var 6) (.one 6) (.rng1 (.var 1)) (.cons (.cmp .eq (.call "_law_taken" (some 0) (.cons (.cst (.int 3)) .nil)) (.cst (.int 0))) .nil))) (.cons (.ret (.tup (.cons (.var 3) (.cons (.bi .tuple (.cons (.ite (.cmp .ne (.var 5) (.lst .nil)) (.var 5) (.lst (.cons (.call "_law_taken" (some 0) (.cons (.var 1) .nil)) .nil))) .nil)) .nil)))) .nil)) .nil) (.cons (.asg 4 [1] (.call "_law_taken" (some 0) (.cons (.var 1) .nil))) (.cons (.ret (.tup (.cons (.var 3) (.cons (.var 4) (.cons (.bin .mod (.bi .int (.cons (.bin .add (.bin .add (.var 4) (.cst (.int 1))) (.call "_law_taken" (some 0) (.cons (.bin .sub (.var 1) (.cst (.int 1))) .nil))) .nil)) (.var 1)) .nil))))) .nil)))))))
def f__law_want'1 : Fd := ⟨"_law_want", true, 1, 7, b__law_want'1⟩
theorem R__law_want'1 {tbl : TblS} {fs : List Fd} {k : Nat} {g : G} {Q : D → Tag → G → Prop} {a0 : D} [h : Hf fs f__law_want'1] (q : WX (execs (run tbl fs k) tbl b__law_want'1 [.row, .imm a0, .no, .no, .no, .no, .no] g) (fun _ g' => Q .none .fr g') Q) : W (run tbl fs (k + 1) "_law_want" true [a0] g) Q := W_run h.h rfl q
def b__law_book : Ss := (.cons (.asg 2 [1] (.bin .add (.cst (.int 1)) (.call "_law_taken" (some 0) (.cons (.var 1) .nil)))) (.cons (.asg 3 [2, 5] (.bi .tuple (.cons (.comp (.call "_law_clause" (some 0) (.cons (.var 2) .nil)) (.one 5) (.rng1 (.var 2)) .nil) .nil))) (.cons (.asg 4 [] (.sub (.lst (.cons (.call "_law_taken" (some 0) (.cons (.cst (.int 4)) .nil)) (.cons (.call "_law_taken" (some 0) (.cons (.cst (.int 8)) .nil)) (.cons (.call "_law_taken" (some 0) (.cons (.cst (.int 17)) .nil)) .nil)))) (.call "_law_taken" (some 0) (.cons (.cst (.int 3)) .nil)))) (.cons (.ret (.tup (.cons (.var 3) (.cons (.bi .tuple (.cons (.comp (.call "_law_want" (some 0) (.cons (.var 2) .nil)) (.one 5) (.rng1 (.var 4)) .nil) .nil)) .nil)))) .nil))))
def f__law_book : Fd := ⟨"_law_book", true, 1, 6, b__law_book⟩
theorem R__law_book {tbl : TblS} {fs : List Fd} {k : Nat} {g : G} {Q : D → Tag → G → Prop} {a0 : D} [h : Hf fs f__law_book] (q : WX (execs (run tbl fs k) tbl b__law_book [.row, .imm a0, .no, .no, .no, .no] g) (fun _ g' => Q .none .fr g') Q) : W (run tbl fs (k + 1) "_law_book" true [a0] g) Q := W_run h.h rfl q
def b__law_answers : Ss := (.cons (.ret (.bi .tuple (.cons (.comp (.call "_law_taken" (some 0) (.cons (.cst (.int 3)) .nil)) (.one 1) (.rng1 (.cst (.int 3))) .nil) .nil))) .nil)
def f__law_answers : Fd := ⟨"_law_answers", true, 0, 2, b__law_answers⟩
theorem R__law_answers {tbl : TblS} {fs : List Fd} {k : Nat} {g : G} {Q : D → Tag → G → Prop} [h : Hf fs f__law_answers] (q : WX (execs (run tbl fs k) tbl b__law_answers [.row, .no] g) (fun _ g' => Q .none .fr g') Q) : W (run tbl fs (k + 1) "_law_answers" true [] g) Q := W_run h.h rfl q
def b__law_wishes : Ss := (.cons (.ret (.comp (.tup (.cons (.call "_law_taken" (some 0) (.cons (.var 1) .nil)) (.cons (.cmp .eq (.call "_law_taken" (some 0) (.cons (.cst (.int 2)) .nil)) (.cst (.int 0))) .nil))) (.one 3) (.rng1 (.call "_law_taken" (some 0) (.cons (.bin .add (.var 2) (.cst (.int 1))) .nil))) .nil)) .nil)
def f__law_wishes : Fd := ⟨"_law_wishes", true, 2, 4, b__law_wishes⟩
def b__law_some : Ss := (.cons (.asg 2 [] (.sub (.lst (.cons (.cst (.int 2)) (.cons (.cst (.int 4)) .nil))) (.call "_law_taken" (some 0) (.cons (.cst (.int 2)) .nil)))) (.cons (.ret (.bi .tuple (.cons (.comp (.var 3) (.one 3) (.rng1 (.var 1)) (.cons (.cmp .eq (.call "_law_taken" (some 0) (.cons (.var 2) .nil)) (.cst (.int 0))) .nil)) .nil))) .nil))
def f__law_some : Fd := ⟨"_law_some", true, 1, 4, b__law_some⟩
end Mi.L.P
end
section
set_option maxRecDepth 100000
set_option maxHeartbeats 0
namespace Mi.L
open PySem PySem.Spec PyProof.Rows L2
def top (i : Nat) : Stmt := PySem.Challenge.pw_clausebook_k27_whole_questions_asked_on.main.body.getD i (.Pass ⟨0, 0, 0, 0⟩)
def d_is_whole : Dat := ⟨P.f_is_whole, top 19, ["thing", "low", "high"], ["thing", "low", "high"]⟩
def d_is_word : Dat := ⟨P.f_is_word, top 20, ["thing", "sign"], ["thing"]⟩
def d_is_rising : Dat := ⟨P.f_is_rising, top 21, ["thing", "high", "k", "one"], ["thing", "high"]⟩
def d_is_part : Dat := ⟨P.f_is_part, top 22, ["part", "many"], ["part", "many"]⟩
def d_is_clause : Dat := ⟨P.f_is_clause, top 23, ["clause", "many", "part"], ["clause", "many"]⟩
def d_is_condition : Dat := ⟨P.f_is_condition, top 24, ["thing", "deep", "inner"], ["thing", "deep"]⟩
def d_is_want : Dat := ⟨P.f_is_want, top 25, ["want", "many", "form"], ["want", "many"]⟩
def d_need_book : Dat := ⟨P.f_need_book, top 26, ["book", "many", "number", "clauses", "wants", "part"], ["book"]⟩
def d_need_answers : Dat := ⟨P.f_need_answers, top 27, ["answers", "one"], ["answers"]⟩
def d_need_wishes : Dat := ⟨P.f_need_wishes, top 28, ["book", "wishes", "number", "wish"], ["book", "wishes"]⟩
def d_is_so : Dat := ⟨P.f_is_so, top 30, ["condition", "answers", "word"], ["condition", "answers"]⟩
def d_keeps : Dat := ⟨P.f_keeps, top 31, ["want", "answers", "paper", "word", "many", "one"], ["want", "answers", "paper"]⟩
def d_cites : Dat := ⟨P.f_cites, top 32, ["book", "number", "part"], ["book", "number"]⟩
def d_all_cited : Dat := ⟨P.f_all_cited, top 33, ["book", "paper", "number", "one"], ["book", "paper"]⟩
def d_pairs_ahead : Dat := ⟨P.f_pairs_ahead, top 34, ["book", "paper", "found", "want"], ["book", "paper"]⟩
def d_order : Dat := ⟨P.f_order, top 35, ["book", "paper", "left", "pairs", "found", "chapters", "some", "best", "one", "pair"], ["book", "paper"]⟩
def d_is_fit : Dat := ⟨P.f_is_fit, top 36, ["book", "answers", "paper", "want"], ["book", "answers", "paper"]⟩
def d_all_sets : Dat := ⟨P.f_all_sets, top 38, ["many", "found", "number", "some"], ["many"]⟩
def d_all_papers : Dat := ⟨P.f_all_papers, top 39, ["book", "answers", "paper"], ["book", "answers"]⟩
def d_has : Dat := ⟨P.f_has, top 40, ["paper", "wishes", "wish"], ["paper", "wishes"]⟩
def d_need_asked : Dat := ⟨P.f_need_asked, top 41, ["book", "answers", "wishes"], ["book", "answers", "wishes"]⟩
def d_papers : Dat := ⟨P.f_papers, top 42, ["book", "answers", "wishes", "paper"], ["book", "answers", "wishes"]⟩
def d_all_answers : Dat := ⟨P.f_all_answers, top 44, ["found", "question", "longer", "row", "answer"], []⟩
def d_need_known : Dat := ⟨P.f_need_known, top 45, ["known", "one"], ["known"]⟩
def d_fits_known : Dat := ⟨P.f_fits_known, top 46, ["answers", "known", "k"], ["answers", "known"]⟩
def d_matter : Dat := ⟨P.f_matter, top 47, ["book", "known", "some", "told", "found", "question", "first", "answers", "others", "one"], ["book", "known"]⟩
def d__law_taken : Dat := ⟨P.f__law_taken'1, top 49, ["_law_row", "_law_many", "_law_cell", "_law_found"], ["_law_row", "_law_many"]⟩
def d__law_letters : Dat := ⟨P.f__law_letters, top 50, ["_law_row", "_law_letters_here", "_law_k"], ["_law_row"]⟩
def d__law_condition : Dat := ⟨P.f__law_condition, top 51, ["_law_row", "_law_deep", "_law_way"], ["_law_row", "_law_deep"]⟩
def d__law_clause : Dat := ⟨P.f__law_clause, top 52, ["_law_row", "_law_many", "_law_found", "_law_k", "_law_way", "_law_some"], ["_law_row", "_law_many"]⟩
def d__law_want : Dat := ⟨P.f__law_want'1, top 53, ["_law_row", "_law_many", "_law_words", "_law_word", "_law_one", "_law_some", "_law_k"], ["_law_row", "_law_many"]⟩
def d__law_book : Dat := ⟨P.f__law_book, top 54, ["_law_row", "_law_most", "_law_many", "_law_clauses", "_law_count", "_law_k"], ["_law_row", "_law_most"]⟩
def d__law_answers : Dat := ⟨P.f__law_answers, top 55, ["_law_row", "_law_k"], ["_law_row"]⟩
def d__law_wishes : Dat := ⟨P.f__law_wishes, top 56, ["_law_row", "_law_many", "_law_most", "_law_k"], ["_law_row", "_law_many", "_law_most"]⟩
def b__law_all : Ss := (.cons (.asg 0 [] (.lst (.cons (.tup .nil) .nil))) (.cons (.for1 (.one 1) [] (.rng1 (.cst (.int 3))) (.cons (.asg 2 [] (.lst .nil)) (.cons (.for1 (.one 3) [0] (.val (.var 0)) (.cons (.asg 2 [2, 3, 4] (.bin .add (.var 2) (.comp (.bin .add (.var 3) (.tup (.cons (.var 4) .nil))) (.one 4) (.rng1 (.cst (.int 3))) .nil))) .nil)) (.cons (.asg 0 [2] (.var 2)) .nil)))) (.cons (.ret (.var 0)) .nil)))
def f__law_all : Fd := ⟨"_law_all", false, 0, 5, b__law_all⟩
theorem R__law_all {tbl : TblS} {fs : List Fd} {k : Nat} {g : G} {Q : D → Tag → G → Prop} [h : Hf fs f__law_all] (q : WX (execs (run tbl fs k) tbl b__law_all [.no, .no, .no, .no, .no] g) (fun _ g' => Q .none .fr g') Q) : W (run tbl fs (k + 1) "_law_all" false [] g) Q := W_run h.h rfl q
def d__law_all : Dat := ⟨f__law_all, top 57, ["_law_found", "_law_question", "_law_more", "_law_answers_here", "_law_one"], []⟩
def b__law_asked : Ss := (.cons (.ite (.cmp .eq (.sub (.var 0) (.cst (.int 0))) (.cst (.str "is"))) (.cons (.ret (.lst (.cons (.sub (.var 0) (.cst (.int 1))) .nil))) .nil) .nil) (.cons (.asg 1 [] (.lst .nil)) (.cons (.for1 (.one 2) [0] (.val (.slc (.var 0) (.cons (.cst (.int 1)) .nil) .nil)) (.cons (.asg 1 [1, 2] (.bin .add (.var 1) (.call "_law_asked" none (.cons (.var 2) .nil)))) .nil)) (.cons (.ret (.var 1)) .nil))))
def f__law_asked : Fd := ⟨"_law_asked", false, 1, 3, b__law_asked⟩
theorem R__law_asked {tbl : TblS} {fs : List Fd} {k : Nat} {g : G} {Q : D → Tag → G → Prop} {a0 : D} [h : Hf fs f__law_asked] (q : WX (execs (run tbl fs k) tbl b__law_asked [.imm a0, .no, .no] g) (fun _ g' => Q .none .fr g') Q) : W (run tbl fs (k + 1) "_law_asked" false [a0] g) Q := W_run h.h rfl q
def d__law_asked : Dat := ⟨f__law_asked, top 58, ["_law_condition_here", "_law_found", "_law_inner"], ["_law_condition_here"]⟩
def dats : List Dat := [d_is_whole, d_is_word, d_is_rising, d_is_part, d_is_clause, d_is_condition, d_is_want, d_need_book, d_need_answers, d_need_wishes, d_is_so, d_keeps, d_cites, d_all_cited, d_pairs_ahead, d_order, d_is_fit, d_all_sets, d_all_papers, d_has, d_need_asked, d_papers, d_all_answers, d_need_known, d_fits_known, d_matter, d__law_taken, d__law_letters, d__law_condition, d__law_clause, d__law_want, d__law_book, d__law_answers, d__law_wishes, d__law_all, d__law_asked]
def frees : List Str := ["bool", "clash", "dict", "int", "isinstance", "len", "list", "min", "range", "sorted", "str", "tuple"]
def csts : List (Str × D) := [("ANSWERS", .int 3), ("CHAPTERS", .int 4), ("LETTERS", .str "abcdefghijklmnopqrstuvwxyz"), ("MOST_CLAUSES", .int 8), ("MOST_DEEP", .int 3), ("MOST_PARTS", .int 6), ("MOST_WANTS", .int 16), ("MOST_WISHES", .int 10), ("MOST_WORD", .int 6), ("PLACES", .int 6), ("QUESTIONS", .int 3)]
def tabs : List (Str × List (Str × Str)) := [(("CONDITIONS" : Str), [("is", "qv"), ("not", "c"), ("both", "cc")]), (("WANTS" : Str), [("needs", "aa"), ("bars", "ab"), ("ahead", "ab"), ("one", "s"), ("some", "s"), ("when", "ca"), ("only", "ca")])]
def lawB : Ss := (.cons (.asg 2 [] (.call "_law_book" (some 1) (.cons (.cst (.int 4)) .nil))) (.cons (.dof 3 (.comp (.tup (.cons (.var 10) (.cons (.call "papers" none (.cons (.var 2) (.cons (.var 10) (.cons (.lst .nil) .nil)))) .nil))) (.one 10) (.val (.call "_law_all" none .nil)) .nil)) (.cons (.for1 (.one 4) [] (.rng1 (.cst (.int 5))) (.cons (.asg 8 [] (.bi .tuple (.cons (.comp (.ite (.cmp .eq (.call "_law_taken" (some 1) (.cons (.cst (.int 2)) .nil)) (.cst (.int 0))) (.cst .none) (.var 15)) (.one 15) (.val (.call "_law_answers" (some 1) .nil)) .nil) .nil))) (.cons (.asg 9 [] (.lst .nil)) (.cons (.forD (.one 10) 3 (.cons (.ite (.cmp .eq (.comp (.var 12) (.one 12) (.rng1 (.cst (.int 3))) (.cons (.and (.noN (.sub (.var 8) (.var 12))) (.cmp .ne (.sub (.var 8) (.var 12)) (.sub (.var 10) (.var 12)))) .nil)) (.lst .nil)) (.cons (.app 9 (.var 10)) .nil) .nil) .nil)) (.cons (.asg 11 [] (.lst .nil)) (.cons (.for1 (.one 12) [] (.rng1 (.cst (.int 3))) (.cons (.asg 13 [] (.lst .nil)) (.cons (.for1 (.one 10) [9] (.val (.var 9)) (.cons (.asg 14 [10, 12] (.bin .add (.bin .add (.slc (.var 10) .nil (.cons (.var 12) .nil)) (.tup (.cons (.cst (.int 0)) .nil))) (.slc (.var 10) (.cons (.bin .add (.var 12) (.cst (.int 1))) .nil) .nil))) (.cons (.ite (.and (.isN (.sub (.var 8) (.var 12))) (.cmp .ne (.dget 3 (.var 10)) (.dget 3 (.var 14)))) (.cons (.app 13 (.var 10)) .nil) .nil) .nil))) (.cons (.asg 11 [11, 12, 13] (.bin .add (.var 11) (.bin .mul (.lst (.cons (.var 12) .nil)) (.bi .int (.cons (.cmp .ne (.var 13) (.lst .nil)) .nil))))) .nil)))) (.cons (.ite (.cmp .ne (.call "matter" none (.cons (.var 2) (.cons (.var 8) .nil))) (.var 11)) (.cons (.ret (.cst (.bool false))) .nil) .nil) .nil))))))) (.cons (.asg 5 [] (.lst .nil)) (.cons (.for1 (.one 6) [2] (.val (.sub (.var 2) (.cst (.int 1)))) (.cons (.ite (.cmp .isin (.sub (.var 6) (.cst (.int 0))) (.tup (.cons (.cst (.str "when")) (.cons (.cst (.str "only")) .nil)))) (.cons (.asg 5 [5, 6] (.bin .add (.var 5) (.call "_law_asked" none (.cons (.sub (.var 6) (.cst (.int 1))) .nil)))) .nil) .nil) .nil)) (.cons (.ite (.cmp .ne (.comp (.var 12) (.one 12) (.val (.call "matter" none (.cons (.var 2) (.cons (.tup (.cons (.cst .none) (.cons (.cst .none) (.cons (.cst .none) .nil)))) .nil)))) (.cons (.cmp .notin (.var 12) (.var 5)) .nil)) (.lst .nil)) (.cons (.ret (.cst (.bool false))) .nil) .nil) (.cons (.asg 7 [2] (.tup (.cons (.sub (.var 2) (.cst (.int 0))) (.cons (.bi .tuple (.cons (.comp (.var 6) (.one 6) (.val (.sub (.var 2) (.cst (.int 1)))) (.cons (.cmp .notin (.sub (.var 6) (.cst (.int 0))) (.tup (.cons (.cst (.str "when")) (.cons (.cst (.str "only")) .nil)))) .nil)) .nil)) .nil)))) (.cons (.ret (.and (.cmp .eq (.call "matter" none (.cons (.var 2) (.cons (.tup (.cons (.cst (.int 0)) (.cons (.cst (.int 1)) (.cons (.cst (.int 2)) .nil)))) .nil))) (.lst .nil)) (.cmp .eq (.call "matter" none (.cons (.var 7) (.cons (.tup (.cons (.cst .none) (.cons (.cst .none) (.cons (.cst .none) .nil)))) .nil))) (.lst .nil)))) .nil))))))))
def lawN : List Str := ["_law_script", "_law_row", "_law_book_here", "_law_heard", "_law_again", "_law_asked_here", "_law_want_here", "_law_bare", "_law_known", "_law_some", "_law_answers_here", "_law_due", "_law_k", "_law_unlike", "_law_other", "_law_one"]
def lawS : Stmt := top 59
def tbl : TblS := fun x => tabs.lookup x
def xcs : List Str := []
def M : MTab := ⟨dats.map fun d => (d.f.name, d.f.row), frees, csts, false, xcs⟩
def fs : List Fd := dats.map (·.f)
instance : Hf fs P.f_is_whole := ⟨rfl⟩
instance : Hf fs P.f_is_word := ⟨rfl⟩
instance : Hf fs P.f_is_rising := ⟨rfl⟩
instance : Hf fs P.f_is_part := ⟨rfl⟩
instance : Hf fs P.f_is_clause := ⟨rfl⟩
instance : Hf fs P.f_is_condition := ⟨rfl⟩
instance : Hf fs P.f_is_want := ⟨rfl⟩
instance : Hf fs P.f_need_book := ⟨rfl⟩
instance : Hf fs P.f_need_answers := ⟨rfl⟩
instance : Hf fs P.f_need_wishes := ⟨rfl⟩
instance : Hf fs P.f_is_so := ⟨rfl⟩
instance : Hf fs P.f_keeps := ⟨rfl⟩
instance : Hf fs P.f_cites := ⟨rfl⟩
instance : Hf fs P.f_all_cited := ⟨rfl⟩
instance : Hf fs P.f_pairs_ahead := ⟨rfl⟩
instance : Hf fs P.f_order := ⟨rfl⟩
instance : Hf fs P.f_is_fit := ⟨rfl⟩
instance : Hf fs P.f_all_sets := ⟨rfl⟩
instance : Hf fs P.f_all_papers := ⟨rfl⟩
instance : Hf fs P.f_has := ⟨rfl⟩
instance : Hf fs P.f_need_asked := ⟨rfl⟩
instance : Hf fs P.f_papers := ⟨rfl⟩
instance : Hf fs P.f_all_answers := ⟨rfl⟩
instance : Hf fs P.f_need_known := ⟨rfl⟩
instance : Hf fs P.f_fits_known := ⟨rfl⟩
instance : Hf fs P.f_matter := ⟨rfl⟩
instance : Hf fs P.f__law_taken'1 := ⟨rfl⟩
instance : Hf fs P.f__law_letters := ⟨rfl⟩
instance : Hf fs P.f__law_condition := ⟨rfl⟩
instance : Hf fs P.f__law_clause := ⟨rfl⟩
instance : Hf fs P.f__law_want'1 := ⟨rfl⟩
instance : Hf fs P.f__law_book := ⟨rfl⟩
instance : Hf fs P.f__law_answers := ⟨rfl⟩
instance : Hf fs P.f__law_wishes := ⟨rfl⟩
instance : Hf fs f__law_all := ⟨rfl⟩
instance : Hf fs f__law_asked := ⟨rfl⟩
instance : Ht tbl "CONDITIONS" [("is", "qv"), ("not", "c"), ("both", "cc")] := ⟨rfl⟩
instance : Ht tbl "WANTS" [("needs", "aa"), ("bars", "ab"), ("ahead", "ab"), ("one", "s"), ("some", "s"), ("when", "ca"), ("only", "ca")] := ⟨rfl⟩
theorem dats_ok : dats.all (okDat M tbl) = true := by decide +kernel
def tf : List He.Defn := []
theorem hcl : (tf = [(("clash" : Str), none)] ∧ ∃ d ∈ dats, d.f.name = ("clash" : Str)) ∨ (("clash" : Str) ∈ frees ∧ ∀ d ∈ dats, d.f.name ≠ ("clash" : Str)) := .inr ⟨by decide +kernel, by decide +kernel⟩
theorem law_is : okLaw M tbl lawN lawS lawB = true := by decide +kernel
theorem dats_nd : (dats.map (·.f.name)).Nodup := by decide +kernel
theorem dats_nx : dats.all (fun d => nx d.f.name) = true := by decide +kernel
theorem n_is_whole : BnOk "is_whole" (top 19) d_is_whole.ps := fun _ _ _ _ _ _ us hl => match us, hl with | [_, _, _], _ => rfl
theorem n_is_word : BnOk "is_word" (top 20) d_is_word.ps := fun _ _ _ _ _ _ us hl => match us, hl with | [_], _ => rfl
theorem n_is_rising : BnOk "is_rising" (top 21) d_is_rising.ps := fun _ _ _ _ _ _ us hl => match us, hl with | [_, _], _ => rfl
theorem n_is_part : BnOk "is_part" (top 22) d_is_part.ps := fun _ _ _ _ _ _ us hl => match us, hl with | [_, _], _ => rfl
theorem n_is_clause : BnOk "is_clause" (top 23) d_is_clause.ps := fun _ _ _ _ _ _ us hl => match us, hl with | [_, _], _ => rfl
theorem n_is_condition : BnOk "is_condition" (top 24) d_is_condition.ps := fun _ _ _ _ _ _ us hl => match us, hl with | [_, _], _ => rfl
theorem n_is_want : BnOk "is_want" (top 25) d_is_want.ps := fun _ _ _ _ _ _ us hl => match us, hl with | [_, _], _ => rfl
theorem n_need_book : BnOk "need_book" (top 26) d_need_book.ps := fun _ _ _ _ _ _ us hl => match us, hl with | [_], _ => rfl
theorem n_need_answers : BnOk "need_answers" (top 27) d_need_answers.ps := fun _ _ _ _ _ _ us hl => match us, hl with | [_], _ => rfl
theorem n_need_wishes : BnOk "need_wishes" (top 28) d_need_wishes.ps := fun _ _ _ _ _ _ us hl => match us, hl with | [_, _], _ => rfl
theorem n_is_so : BnOk "is_so" (top 30) d_is_so.ps := fun _ _ _ _ _ _ us hl => match us, hl with | [_, _], _ => rfl
theorem n_keeps : BnOk "keeps" (top 31) d_keeps.ps := fun _ _ _ _ _ _ us hl => match us, hl with | [_, _, _], _ => rfl
theorem n_cites : BnOk "cites" (top 32) d_cites.ps := fun _ _ _ _ _ _ us hl => match us, hl with | [_, _], _ => rfl
theorem n_all_cited : BnOk "all_cited" (top 33) d_all_cited.ps := fun _ _ _ _ _ _ us hl => match us, hl with | [_, _], _ => rfl
theorem n_pairs_ahead : BnOk "pairs_ahead" (top 34) d_pairs_ahead.ps := fun _ _ _ _ _ _ us hl => match us, hl with | [_, _], _ => rfl
theorem n_order : BnOk "order" (top 35) d_order.ps := fun _ _ _ _ _ _ us hl => match us, hl with | [_, _], _ => rfl
theorem n_is_fit : BnOk "is_fit" (top 36) d_is_fit.ps := fun _ _ _ _ _ _ us hl => match us, hl with | [_, _, _], _ => rfl
theorem n_all_sets : BnOk "all_sets" (top 38) d_all_sets.ps := fun _ _ _ _ _ _ us hl => match us, hl with | [_], _ => rfl
theorem n_all_papers : BnOk "all_papers" (top 39) d_all_papers.ps := fun _ _ _ _ _ _ us hl => match us, hl with | [_, _], _ => rfl
theorem n_has : BnOk "has" (top 40) d_has.ps := fun _ _ _ _ _ _ us hl => match us, hl with | [_, _], _ => rfl
theorem n_need_asked : BnOk "need_asked" (top 41) d_need_asked.ps := fun _ _ _ _ _ _ us hl => match us, hl with | [_, _, _], _ => rfl
theorem n_papers : BnOk "papers" (top 42) d_papers.ps := fun _ _ _ _ _ _ us hl => match us, hl with | [_, _, _], _ => rfl
theorem n_all_answers : BnOk "all_answers" (top 44) d_all_answers.ps := fun _ _ _ _ _ _ us hl => match us, hl with | [], _ => rfl
theorem n_need_known : BnOk "need_known" (top 45) d_need_known.ps := fun _ _ _ _ _ _ us hl => match us, hl with | [_], _ => rfl
theorem n_fits_known : BnOk "fits_known" (top 46) d_fits_known.ps := fun _ _ _ _ _ _ us hl => match us, hl with | [_, _], _ => rfl
theorem n_matter : BnOk "matter" (top 47) d_matter.ps := fun _ _ _ _ _ _ us hl => match us, hl with | [_, _], _ => rfl
theorem n__law_taken : BnOk "_law_taken" (top 49) d__law_taken.ps := fun _ _ _ _ _ _ us hl => match us, hl with | [_, _], _ => rfl
theorem n__law_letters : BnOk "_law_letters" (top 50) d__law_letters.ps := fun _ _ _ _ _ _ us hl => match us, hl with | [_], _ => rfl
theorem n__law_condition : BnOk "_law_condition" (top 51) d__law_condition.ps := fun _ _ _ _ _ _ us hl => match us, hl with | [_, _], _ => rfl
theorem n__law_clause : BnOk "_law_clause" (top 52) d__law_clause.ps := fun _ _ _ _ _ _ us hl => match us, hl with | [_, _], _ => rfl
theorem n__law_want : BnOk "_law_want" (top 53) d__law_want.ps := fun _ _ _ _ _ _ us hl => match us, hl with | [_, _], _ => rfl
theorem n__law_book : BnOk "_law_book" (top 54) d__law_book.ps := fun _ _ _ _ _ _ us hl => match us, hl with | [_, _], _ => rfl
theorem n__law_answers : BnOk "_law_answers" (top 55) d__law_answers.ps := fun _ _ _ _ _ _ us hl => match us, hl with | [_], _ => rfl
theorem n__law_wishes : BnOk "_law_wishes" (top 56) d__law_wishes.ps := fun _ _ _ _ _ _ us hl => match us, hl with | [_, _, _], _ => rfl
theorem n__law_all : BnOk "_law_all" (top 57) d__law_all.ps := fun _ _ _ _ _ _ us hl => match us, hl with | [], _ => rfl
theorem n__law_asked : BnOk "_law_asked" (top 58) d__law_asked.ps := fun _ _ _ _ _ _ us hl => match us, hl with | [_], _ => rfl
theorem n_law : BnOk "law" (top 59) (lawN.take 1) := fun _ _ _ _ _ _ us hl => match us, hl with | [_], _ => rfl
theorem binds : ∀ d ∈ dats, BnOk d.f.name d.st d.ps := List.forall_mem_cons.mpr ⟨n_is_whole, List.forall_mem_cons.mpr ⟨n_is_word, List.forall_mem_cons.mpr ⟨n_is_rising, List.forall_mem_cons.mpr ⟨n_is_part, List.forall_mem_cons.mpr ⟨n_is_clause, List.forall_mem_cons.mpr ⟨n_is_condition, List.forall_mem_cons.mpr ⟨n_is_want, List.forall_mem_cons.mpr ⟨n_need_book, List.forall_mem_cons.mpr ⟨n_need_answers, List.forall_mem_cons.mpr ⟨n_need_wishes, List.forall_mem_cons.mpr ⟨n_is_so, List.forall_mem_cons.mpr ⟨n_keeps, List.forall_mem_cons.mpr ⟨n_cites, List.forall_mem_cons.mpr ⟨n_all_cited, List.forall_mem_cons.mpr ⟨n_pairs_ahead, List.forall_mem_cons.mpr ⟨n_order, List.forall_mem_cons.mpr ⟨n_is_fit, List.forall_mem_cons.mpr ⟨n_all_sets, List.forall_mem_cons.mpr ⟨n_all_papers, List.forall_mem_cons.mpr ⟨n_has, List.forall_mem_cons.mpr ⟨n_need_asked, List.forall_mem_cons.mpr ⟨n_papers, List.forall_mem_cons.mpr ⟨n_all_answers, List.forall_mem_cons.mpr ⟨n_need_known, List.forall_mem_cons.mpr ⟨n_fits_known, List.forall_mem_cons.mpr ⟨n_matter, List.forall_mem_cons.mpr ⟨n__law_taken, List.forall_mem_cons.mpr ⟨n__law_letters, List.forall_mem_cons.mpr ⟨n__law_condition, List.forall_mem_cons.mpr ⟨n__law_clause, List.forall_mem_cons.mpr ⟨n__law_want, List.forall_mem_cons.mpr ⟨n__law_book, List.forall_mem_cons.mpr ⟨n__law_answers, List.forall_mem_cons.mpr ⟨n__law_wishes, List.forall_mem_cons.mpr ⟨n__law_all, List.forall_mem_cons.mpr ⟨n__law_asked, fun _ h => nomatch h⟩⟩⟩⟩⟩⟩⟩⟩⟩⟩⟩⟩⟩⟩⟩⟩⟩⟩⟩⟩⟩⟩⟩⟩⟩⟩⟩⟩⟩⟩⟩⟩⟩⟩⟩⟩
def loose_0 : List Str := ["__name__", "ClauseError", "BadBook", "BadAnswers", "BadWish", "MOST_CLAUSES", "CHAPTERS", "MOST_PARTS", "MOST_WORD", "PLACES", "QUESTIONS", "ANSWERS", "MOST_WANTS", "MOST_DEEP", "MOST_WISHES", "LETTERS", "WANTS", "CONDITIONS", "is_whole", "is_word", "is_rising", "is_part", "is_clause", "is_condition", "is_want", "need_book", "need_answers", "need_wishes", "is_so", "keeps"]
def loose_1 : List Str := ["cites", "all_cited", "pairs_ahead", "order", "is_fit", "all_sets", "all_papers", "has", "need_asked", "papers", "all_answers", "need_known", "fits_known", "matter", "_law_taken", "_law_letters", "_law_condition", "_law_clause", "_law_want", "_law_book", "_law_answers", "_law_wishes", "_law_all", "_law_asked"]
def loose : List Str := loose_0 ++ loose_1
def lawI : Nat := 59

theorem text : Text dats frees csts xcs tbl := ⟨fun d h => List.all_eq_true.mp dats_ok d h, finds_of dats_nd, fun d h => List.all_eq_true.mp dats_nx d h⟩
def fa : List He.Fa := faOf dats frees csts tabs xcs
def fn : List He.DefD := fnOf lawS dats
abbrev ORow : PySem.W.OpenRow := PySem.W.OpenLaw.row PySem.Challenge.rw_clausebook_k27_whole_questions_asked_on
abbrev hk : PySem.W.Hook := hookW 4 fa fn tabs tf
def ob (s : PySem.W.SharedT) : AlW := obsWG 4 fa fn tabs tf (HandSHeadRun.getT s)
theorem ob_eq (s : PySem.W.SharedT) : ob s = hk.obs s.abs := obsWG_eq (HandSHeadRun.getT_eq s)
theorem runF0 (w : World) : HandSHeadRun.RunEq ORow (PySem.W.view ORow.prog [lawI]) hk ob 6000 loose (w.withFollow "special-get-raises" false) := by
  intro os
  kernel_rfl
theorem runT0 (w : World) : HandSHeadRun.RunEq ORow (PySem.W.view ORow.prog [lawI]) hk ob 6000 loose (w.withFollow "special-get-raises" true) := by
  intro os
  kernel_rfl
theorem runs (w : World) : HandSHeadRun.RunEq ORow (PySem.W.view ORow.prog [lawI]) hk ob 6000 loose w := PySem.W.byRow2 "special-get-raises" runF0 runT0 w
def LawTrue : Prop := ∀ ns : List Int, ns.length ≤ 63 → ∃ t g', execs (run tbl fs 20) tbl lawB (lawEnv lawN) ⟨ns, 0, 0, 0⟩ = some (.rt (.bool true) t g')
end Mi.L
open PySem PySem.W PySem.Calls PyProof.Rows
theorem Mi.L.holds_of (pure : Mi.L.LawTrue) : PySem.Challenge.rw_clausebook_k27_whole_questions_asked_on.Holds := by
  w_on; o_law
  refine HandSHeadRun.head_any (r := Mi.L.ORow) (q := PySem.W.view Mi.L.ORow.prog [Mi.L.lawI]) (H := Mi.L.hk) (ob := Mi.L.ob) (M := 6000) (loose := Mi.L.loose) (d := HandSHeadRun.topDef Mi.L.ORow.prog Mi.L.lawI) (kwd := []) Mi.L.ob_eq
    (by kernel_rfl) (fun s => by kernel_rfl) Mi.L.runs (by kernel_rfl) (by kernel_rfl) (by kernel_rfl) (by rfl) (by first | assumption | decide +kernel) (by decide +kernel) ⟨rfl, rfl, rfl, rfl, rfl, by decide +kernel⟩ ?hw ?hc
  case hw => w_witness2
  case hc =>
    refine LamX.walk_ofTsE (l := PySem.Challenge.rw_clausebook_k27_whole_questions_asked_on) (n := 63) (k := 21) (x := "_law_script") (CX := fun _ => L2.CX0) rfl (by decide) (by kernel_rfl) ⟨rfl, by decide, by decide⟩ ?F (fun _ _ _ _ _ z => z)
    intro w mg fa h Y G hmg0
    obtain ⟨K, KX, c⟩ := Y
    have hmg : mg ("law" : PySem.Str) = some (.ref fa) := by
      have e : (HandSHeadRun.topDef Mi.L.ORow.prog Mi.L.lawI).name = ("law" : PySem.Str) := by kernel_rfl
      rw [← e]
      exact hmg0
    exact ⟨K, KX, Mi.facts (l := PySem.Challenge.rw_clausebook_k27_whole_questions_asked_on) (w := w) (k := 20) (x0 := "_law_script") KX G hmg c Mi.L.hcl Mi.L.text Mi.L.binds (by decide) Mi.L.law_is rfl Mi.L.n_law pure⟩
end
section
namespace Mi.B
/-! ### what a book is, as plain data -/
inductive Cond
  | is (q v : Int)
  | not (c : Cond)
  | both (a b : Cond)
inductive Part
  | fill (n : Int)
  | cite (n : Int)
  | text (l : List Nat)
structure Clause where
  ch : Int
  parts : List Part
inductive Want
  | needs (i j : Int)
  | bars (i j : Int)
  | ahead (i j : Int)
  | one (l : List Int)
  | some (l : List Int)
  | when (c : Cond) (i : Int)
  | only (c : Cond) (i : Int)
structure Book where
  cl : List Clause
  ws : List Want
abbrev Rw := List Int
abbrev Wish := Int × Bool
def at0 (l : Rw) (i : Int) : Int := (l[i.toNat]?).getD 0
def has (p : Rw) (x : Int) : Bool := p.any fun z => z == x
theorem has_iff {p : Rw} {x : Int} : has p x = true ↔ x ∈ p := by simp [has]
def Cond.so (a : Rw) : Cond → Bool
  | .is q v => at0 a q == v
  | .not c => !c.so a
  | .both c d => c.so a && d.so a
def Want.keeps (a p : Rw) : Want → Bool
  | .needs i j => !has p i || has p j
  | .bars i j => !has p i || !has p j
  | .ahead _ _ => true
  | .one l => (l.filter (has p)).length == 1
  | .some l => decide (0 < (l.filter (has p)).length)
  | .when c i => has p i || !c.so a
  | .only c i => !has p i || c.so a
def Part.cites : Part → Option Int
  | .cite i => .some i
  | _ => .none
def Clause.cites (c : Clause) : Rw := c.parts.filterMap Part.cites
namespace Book
variable (b : Book)
def n : Nat := b.cl.length
def cites (i : Int) : Rw := ((b.cl[i.toNat]?).map Clause.cites).getD []
def ch (i : Int) : Int := ((b.cl[i.toNat]?).map Clause.ch).getD 0
def uncited (p : Rw) (i : Int) : Bool := (b.cites i).any fun j => !has p j
def cited (p : Rw) : Bool := p.all fun i => !b.uncited p i
def aheadOf (p : Rw) : Want → Option (Int × Int)
  | .ahead i j => if has p i && has p j then .some (i, j) else .none
  | _ => .none
def pairs (p : Rw) : List (Int × Int) := b.ws.filterMap (aheadOf p)
def free (prs : List (Int × Int)) (left : Rw) : Rw := left.filter fun o => !(prs.any fun q => q.2 == o && has left q.1)
def lt (x y : Int) : Bool := decide (b.ch x < b.ch y) || (b.ch x == b.ch y && decide (x < y))
def best (x : Int) (xs : Rw) : Int := xs.foldl (fun a y => if b.lt y a then y else a) x
def goO (prs : List (Int × Int)) : Nat → Rw → Rw → Option Rw
  | _, [], found => .some found
  | 0, _ :: _, _ => .none
  | k + 1, z :: zs, found => match free prs (z :: zs) with
    | [] => .none
    | x :: xs => goO prs k ((z :: zs).erase (b.best x xs)) (found ++ [b.best x xs])
def rises : Rw → Bool
  | [] => true
  | [_] => true
  | x :: y :: l => decide (x ≤ y) && rises (y :: l)
def fin (o : Option Rw) : Option Rw := match o with
  | .none => .none
  | .some f => if rises (f.map b.ch) then .some f else .none
def order (p : Rw) : Option Rw := b.fin (b.goO (b.pairs p) p.length p [])
def fit (a p : Rw) : Bool := b.ws.all (Want.keeps a p) && b.cited p && (b.order p).isSome
/-! the law's own way: chapter by chapter -/
def freeT (prs : List (Int × Int)) (found left : Rw) : Rw := left.filter fun o => !(prs.any fun q => q.2 == o && !has found q.1)
def inT (prs : List (Int × Int)) : Nat → Rw → Rw → Option Rw
  | _, [], found => .some found
  | 0, _ :: _, _ => .none
  | k + 1, z :: zs, found => match freeT prs found (z :: zs) with
    | [] => .none
    | x :: _ => inT prs k ((z :: zs).erase x) (found ++ [x])
def inCh (c : Int) (p : Rw) : Rw := p.filter fun x => b.ch x == c
def turnL (p : Rw) (prs : List (Int × Int)) : List Int → Rw → Option Rw
  | [], found => .some found
  | c :: cs, found => (inT prs p.length (b.inCh c p) found).bind (turnL p prs cs)
def turn (p : Rw) : Option Rw := b.turnL p (b.pairs p) [0, 1, 2, 3] []
end Book
/-! ### the two ways meet -/
theorem rises_iff : ∀ {l : Rw}, Book.rises l = true ↔ l.Pairwise (· ≤ ·)
  | [] => by simp [Book.rises]
  | [x] => by simp [Book.rises]
  | x :: y :: l => by
    rw [Book.rises, Bool.and_eq_true, decide_eq_true_iff, rises_iff, List.pairwise_cons (a := x)]
    refine ⟨fun ⟨h, k⟩ => ⟨fun z hz => ?_, k⟩, fun ⟨h, k⟩ => ⟨h y (List.mem_cons_self ..), k⟩⟩
    rcases List.mem_cons.mp hz with e | e
    · rw [e]; exact h
    · exact Int.le_trans h (List.rel_of_pairwise_cons k e)
namespace Book
variable {b : Book}
theorem lt_iff {x y : Int} : b.lt x y = true ↔ b.ch x < b.ch y ∨ (b.ch x = b.ch y ∧ x < y) := by simp [lt]
theorem best_mem : ∀ (x : Int) (xs : Rw), b.best x xs ∈ x :: xs
  | x, [] => List.mem_cons_self ..
  | x, y :: ys => by
    show b.best (if b.lt y x then y else x) ys ∈ _
    have := best_mem (if b.lt y x then y else x) ys
    rcases List.mem_cons.mp this with h | h
    · rw [h]
      split
      · exact List.mem_cons_of_mem _ (List.mem_cons_self ..)
      · exact List.mem_cons_self ..
    · exact List.mem_cons_of_mem _ (List.mem_cons_of_mem _ h)
end Book
end Mi.B
end
section
/-! Rows in order, all rows, papers. -/
namespace Mi.B
def leQ (a b : List Int) : Bool := !decide (b < a)
def subs : Nat → List (List Int)
  | 0 => [[]]
  | n + 1 => subs n ++ (subs n).map (· ++ [(n : Int)])
theorem subs_len (n : Nat) : (subs n).length = 2 ^ n := by
  induction n with
  | zero => rfl
  | succ n ih =>
    rw [subs, List.length_append, List.length_map, ih, Nat.pow_succ]
    omega
theorem subs_mem {n : Nat} {p : List Int} : p ∈ subs n ↔ p.Pairwise (· < ·) ∧ ∀ v ∈ p, 0 ≤ v ∧ v < n := by
  induction n generalizing p with
  | zero =>
    rw [subs, List.mem_singleton]
    constructor
    · rintro rfl; simp
    · rintro ⟨_, h⟩
      cases p with
      | nil => rfl
      | cons x l =>
        have := h x (List.mem_cons_self ..)
        omega
  | succ n ih =>
    rw [subs, List.mem_append, List.mem_map]
    constructor
    · rintro (h | ⟨q, h, rfl⟩)
      · have ⟨h1, h2⟩ := ih.mp h
        exact ⟨h1, fun v hv => by have := h2 v hv; omega⟩
      · have ⟨h1, h2⟩ := ih.mp h
        refine ⟨List.pairwise_append.mpr ⟨h1, List.pairwise_singleton _ _, fun a ha b hb => ?_⟩, fun v hv => ?_⟩
        · rw [List.mem_singleton.mp hb]
          exact (h2 a ha).2
        · rcases List.mem_append.mp hv with z | z
          · have := h2 v z; omega
          · rw [List.mem_singleton.mp z]; omega
    · rintro ⟨h1, h2⟩
      by_cases hn : (n : Int) ∈ p
      · right
        obtain ⟨l, r, rfl⟩ := List.append_of_mem hn
        have hr : r = [] := by
          cases r with
          | nil => rfl
          | cons x r =>
            have hp := (List.pairwise_append.mp h1).2.1
            have h3 := List.rel_of_pairwise_cons hp (List.mem_cons_self ..)
            have h4 := (h2 x (by simp)).2
            omega
        subst hr
        refine ⟨l, ih.mpr ⟨(List.pairwise_append.mp h1).1, fun v hv => ?_⟩, rfl⟩
        have h3 := (List.pairwise_append.mp h1).2.2 v hv n (by simp)
        have h4 := h2 v (by simp [hv])
        omega
      · left
        refine ih.mpr ⟨h1, fun v hv => ?_⟩
        have h4 := h2 v hv
        have : v ≠ n := fun e => hn (e ▸ hv)
        omega
def allSets (n : Nat) : List (List Int) := (subs n).mergeSort leQ
theorem sets_mem {n : Nat} {p : List Int} : p ∈ allSets n ↔ p.Pairwise (· < ·) ∧ ∀ v ∈ p, 0 ≤ v ∧ v < n := by
  unfold allSets
  rw [List.mem_mergeSort, subs_mem]
end Mi.B
end
section
namespace Mi.B
namespace Book
variable {b : Book}
/-- some clauses stand in turn -/
def Stands (b : Book) (prs : List (Int × Int)) (L : List Int) : Prop := (L.map b.ch).Pairwise (· ≤ ·) ∧ ∀ q ∈ prs, q.1 ∈ L → q.2 ∈ L → List.Sublist [q.1, q.2] L
theorem Stands.erase {prs : List (Int × Int)} {L : List Int} (hn : L.Nodup) (h : b.Stands prs L) (y : Int) : b.Stands prs (L.erase y) := by
  refine ⟨h.1.sublist (List.erase_sublist.map _), fun q hq h1 h2 => ?_⟩
  rw [hn.mem_erase_iff] at h1 h2
  have := (h.2 q hq h1.2 h2.2).filter (fun x => x != y)
  rw [hn.erase_eq_filter]
  rw [List.filter_cons, List.filter_cons, List.filter_nil] at this
  simpa [h1.1, h2.1] using this
end Book
end Mi.B
namespace Mi.B
/-! ### fewer wants, more papers -/
end Mi.B
end
section
set_option maxRecDepth 100000
set_option maxHeartbeats 400000
/-! Data of books; what small steps answer on them. -/
namespace Mi
open PySem PySem.Spec PyProof.Rows L2 Mi.B
/-! ### no lists within -/
class LF (d : D) : Prop where
  h : lf d = true
class LFs (ds : List D) : Prop where
  h : lfs ds = true
instance : LF .none := ⟨rfl⟩
instance {b : Bool} : LF (.bool b) := ⟨rfl⟩
instance {b : Int} : LF (.int b) := ⟨rfl⟩
instance {b : Str} : LF (.str b) := ⟨rfl⟩
instance {ds : List D} [h : LFs ds] : LF (.tuple ds) := ⟨h.h⟩
instance : LFs [] := ⟨rfl⟩
instance {d : D} {ds : List D} [h : LF d] [k : LFs ds] : LFs (d :: ds) := ⟨by rw [lfs, h.h, k.h]; rfl⟩
theorem lfs_iff {ds : List D} : lfs ds = true ↔ ∀ d ∈ ds, lf d = true := by
  induction ds with
  | nil => simp [lfs]
  | cons d ds ih => simp [lfs, ih]
instance {α : Type} {f : α → D} {l : List α} [h : ∀ a, LF (f a)] : LFs (l.map f) := ⟨lfs_iff.mpr fun d hd => by
  obtain ⟨a, _, rfl⟩ := List.mem_map.mp hd
  exact (h a).h⟩
instance {a b : List D} [h : LFs a] [k : LFs b] : LFs (a ++ b) := ⟨lfs_iff.mpr fun d hd => by
  rcases List.mem_append.mp hd with z | z
  · exact lfs_iff.mp h.h d z
  · exact lfs_iff.mp k.h d z⟩
/-! ### how deep -/
class Dp (d : D) (n : outParam Nat) : Prop where
  h : d.depth ≤ n
class Dps (d : List D) (n : outParam Nat) : Prop where
  h : PyData.depthAll d ≤ n
instance : Dp .none 0 := ⟨by simp [PyData.depth]⟩
instance {b : Bool} : Dp (.bool b) 0 := ⟨by simp [PyData.depth]⟩
instance {b : Int} : Dp (.int b) 0 := ⟨by simp [PyData.depth]⟩
instance {b : Str} : Dp (.str b) 0 := ⟨by simp [PyData.depth]⟩
instance {ds : List D} {n : Nat} [h : Dps ds n] : Dp (.tuple ds) (n + 1) := ⟨by have := h.h; simp [PyData.depth, this]⟩
instance {ds : List D} {n : Nat} [h : Dps ds n] : Dp (.list ds) (n + 1) := ⟨by have := h.h; simp [PyData.depth, this]⟩
instance : Dps [] 0 := ⟨by simp [PyData.depthAll]⟩
instance {d : D} {ds : List D} {n m : Nat} [h : Dp d n] [k : Dps ds m] : Dps (d :: ds) (max n m) := ⟨by have := h.h; have := k.h; simp only [PyData.depthAll]; omega⟩
theorem depthAll_le {ds : List D} {n : Nat} (h : ∀ d ∈ ds, d.depth ≤ n) : PyData.depthAll ds ≤ n := by
  induction ds with
  | nil => simp [PyData.depthAll]
  | cons d ds ih =>
    have h1 := h d (List.mem_cons_self ..)
    have h2 := ih fun e he => h e (List.mem_cons_of_mem _ he)
    simp only [PyData.depthAll]
    omega
instance {α : Type} {f : α → D} {l : List α} {n : Nat} [h : ∀ a, Dp (f a) n] : Dps (l.map f) n := ⟨depthAll_le fun d hd => by
  obtain ⟨a, _, rfl⟩ := List.mem_map.mp hd
  exact (h a).h⟩
/-! ### equal, as the program asks -/
class EQ {α : Type} (enc : α → D) : Prop where
  h : ∀ a b : α, PyData.eqv (enc a) (enc b) = true ↔ a = b
theorem EQ.dec {α : Type} [DecidableEq α] {enc : α → D} [e : EQ enc] (a b : α) : PyData.eqv (enc a) (enc b) = decide (a = b) := by
  rw [Bool.eq_iff_iff, e.h, decide_eq_true_iff]
instance : EQ PyData.int := ⟨fun a b => by rw [qii, beq_iff_eq]⟩
instance : EQ PyData.bool := ⟨fun a b => by rw [qbb, beq_iff_eq]⟩
instance : EQ PyData.str := ⟨fun a b => by rw [qss, beq_iff_eq]⟩
theorem EQ.all {α : Type} {enc : α → D} [e : EQ enc] : ∀ {l m : List α}, PyData.eqvAll (l.map enc) (m.map enc) = true ↔ l = m
  | [], [] => by simp [qnn]
  | [], b :: m => by simp [qnc]
  | a :: l, [] => by simp [qcn]
  | a :: l, b :: m => by rw [List.map_cons, List.map_cons, qcc, Bool.and_eq_true, e.h, EQ.all, List.cons.injEq]
instance {α : Type} {enc : α → D} [e : EQ enc] : EQ fun l : List α => PyData.tuple (l.map enc) := ⟨fun a b => by rw [qtt, EQ.all]⟩
instance {α : Type} {enc : α → D} [e : EQ enc] : EQ fun l : List α => PyData.list (l.map enc) := ⟨fun a b => by rw [qll, EQ.all]⟩
theorem eqD_of {x y : D} {n : Nat} [h : Dp x n] (hn : n ≤ 60) : eqD x y = some (PyData.eqv x y) := by
  unfold eqD
  rw [if_pos]
  have := h.h
  omega
section
variable {Q : Bool → Prop} {N : SEnv → Prop} {DQ : D → Prop}
theorem Is_eqI {i j : Int} (h : Q (decide (i = j))) : Is (cmpD .eq (.int i) (.int j)) Q := by
  show Is (eqD _ _) Q
  rw [eqD_of (by decide), EQ.dec]; exact ⟨h⟩
theorem Is_neI {i j : Int} (h : Q (!decide (i = j))) : Is (cmpD .ne (.int i) (.int j)) Q := by
  show Is ((eqD (.int i) (.int j)).map _) Q
  rw [eqD_of (by decide), EQ.dec]; exact ⟨h⟩
theorem Is_eqS {i j : Str} (h : Q (decide (i = j))) : Is (cmpD .eq (.str i) (.str j)) Q := by
  show Is (eqD _ _) Q
  rw [eqD_of (by decide), EQ.dec]; exact ⟨h⟩
theorem Is_neS {i j : Str} (h : Q (!decide (i = j))) : Is (cmpD .ne (.str i) (.str j)) Q := by
  show Is ((eqD (.str i) (.str j)).map _) Q
  rw [eqD_of (by decide), EQ.dec]; exact ⟨h⟩
theorem Is_eqB {i j : Bool} (h : Q (i == j)) : Is (cmpD .eq (.bool i) (.bool j)) Q := by
  show Is (eqD _ _) Q
  rw [eqD_of (by decide), qbb]; exact ⟨h⟩
theorem Is_neB {i j : Bool} (h : Q (i != j)) : Is (cmpD .ne (.bool i) (.bool j)) Q := by
  show Is ((eqD (.bool i) (.bool j)).map _) Q
  rw [eqD_of (by decide), qbb]; exact ⟨h⟩
theorem nil_eqv {xs : List D} : PyData.eqvAll xs [] = xs.isEmpty := by cases xs <;> rfl
theorem Is_eqNil {xs : List D} (h : Q xs.isEmpty) : Is (cmpD .eq (.list xs) (.list [])) Q := by
  show Is (eqD _ _) Q
  unfold eqD
  rw [if_pos (by simp [PyData.depth, PyData.depthAll]), qll, nil_eqv]; exact ⟨h⟩
theorem Is_neNil {xs : List D} (h : Q (!xs.isEmpty)) : Is (cmpD .ne (.list xs) (.list [])) Q := by
  show Is ((eqD _ _).map _) Q
  unfold eqD
  rw [if_pos (by simp [PyData.depth, PyData.depthAll]), qll, nil_eqv]; exact ⟨h⟩
theorem Is_eqNilT {xs : List D} (h : Q xs.isEmpty) : Is (cmpD .eq (.tuple xs) (.tuple [])) Q := by
  show Is (eqD _ _) Q
  unfold eqD
  rw [if_pos (by simp [PyData.depth, PyData.depthAll]), qtt, nil_eqv]; exact ⟨h⟩
theorem Is_neNilT {xs : List D} (h : Q (!xs.isEmpty)) : Is (cmpD .ne (.tuple xs) (.tuple [])) Q := by
  show Is ((eqD _ _).map _) Q
  unfold eqD
  rw [if_pos (by simp [PyData.depth, PyData.depthAll]), qtt, nil_eqv]; exact ⟨h⟩
/-- two rows of the same kind of things -/
theorem Is_eqE {α : Type} [DecidableEq α] {enc : α → D} [EQ enc] {a b : α} {n : Nat} [Dp (enc a) n] (hn : n ≤ 60) (h : Q (decide (a = b))) : Is (cmpD .eq (enc a) (enc b)) Q := by
  show Is (eqD _ _) Q
  rw [eqD_of hn, EQ.dec]; exact ⟨h⟩
theorem Is_ltI {i j : Int} (h : Q (decide (i < j))) : Is (cmpD .lt (.int i) (.int j)) Q := ⟨h⟩
theorem Is_gtI {i j : Int} (h : Q (decide (j < i))) : Is (cmpD .gt (.int i) (.int j)) Q := ⟨h⟩
theorem Is_leI {i j : Int} (h : Q (decide (i ≤ j))) : Is (cmpD .le (.int i) (.int j)) Q := ⟨h⟩
theorem Is_geI {i j : Int} (h : Q (decide (j ≤ i))) : Is (cmpD .ge (.int i) (.int j)) Q := ⟨h⟩
theorem in_ints {l : Rw} {x : Int} : inD (.int x) (.tuple (l.map PyData.int)) = some (has l x) := by
  rw [in_tup, if_pos (by simp [PyData.depth]), List.any_map]
  congr 1
theorem in_intsL {l : Rw} {x : Int} : inD (.int x) (.list (l.map PyData.int)) = some (has l x) := by
  rw [in_list, if_pos (by simp [PyData.depth]), List.any_map]
  congr 1
theorem Is_in {l : Rw} {x : Int} (h : Q (has l x)) : Is (cmpD .isin (.int x) (.tuple (l.map PyData.int))) Q := Is_s in_ints h
theorem Is_inL {l : Rw} {x : Int} (h : Q (has l x)) : Is (cmpD .isin (.int x) (.list (l.map PyData.int))) Q := Is_s in_intsL h
theorem Is_nin {l : Rw} {x : Int} (h : Q (!has l x)) : Is (cmpD .notin (.int x) (.tuple (l.map PyData.int))) Q := by
  show Is ((inD _ _).map _) Q
  rw [in_ints]; exact ⟨h⟩
theorem Is_ninL {l : Rw} {x : Int} (h : Q (!has l x)) : Is (cmpD .notin (.int x) (.list (l.map PyData.int))) Q := by
  show Is ((inD _ _).map _) Q
  rw [in_intsL]; exact ⟨h⟩
theorem in_s2 {w a b : Str} : inD (.str w) (.tuple [.str a, .str b]) = some (decide (w = a ∨ w = b)) := by
  rw [in_tup, if_pos (by simp [PyData.depth])]
  simp only [List.any_cons, List.any_nil, qss, Bool.or_false]
  congr 1
  rw [Bool.eq_iff_iff]
  simp only [Bool.or_eq_true, beq_iff_eq, decide_eq_true_iff]
  exact or_congr eq_comm eq_comm
theorem in_s3 {w a b c : Str} : inD (.str w) (.tuple [.str a, .str b, .str c]) = some (decide (w = a ∨ w = b ∨ w = c)) := by
  rw [in_tup, if_pos (by simp [PyData.depth])]
  simp only [List.any_cons, List.any_nil, qss, Bool.or_false]
  congr 1
  rw [Bool.eq_iff_iff]
  simp only [Bool.or_eq_true, beq_iff_eq, decide_eq_true_iff]
  exact or_congr eq_comm (or_congr eq_comm eq_comm)
theorem Is_in2 {w a b : Str} (h : Q (decide (w = a ∨ w = b))) : Is (cmpD .isin (.str w) (.tuple [.str a, .str b])) Q := Is_s in_s2 h
theorem Is_nin2 {w a b : Str} (h : Q (!decide (w = a ∨ w = b))) : Is (cmpD .notin (.str w) (.tuple [.str a, .str b])) Q := by
  show Is ((inD (.str w) (.tuple [.str a, .str b])).map _) Q
  rw [in_s2]; exact ⟨h⟩
theorem Is_in3 {w a b c : Str} (h : Q (decide (w = a ∨ w = b ∨ w = c))) : Is (cmpD .isin (.str w) (.tuple [.str a, .str b, .str c])) Q := Is_s in_s3 h
theorem Is_nin3 {w a b c : Str} (h : Q (!decide (w = a ∨ w = b ∨ w = c))) : Is (cmpD .notin (.str w) (.tuple [.str a, .str b, .str c])) Q := by
  show Is ((inD (.str w) (.tuple [.str a, .str b, .str c])).map _) Q
  rw [in_s3]; exact ⟨h⟩
theorem Is_isiI {d : D} (h : Q (PyData.isInt d)) : Is (isiD "int" d) Q := ⟨h⟩
theorem Is_isiB {d : D} (h : Q (PyData.isBool d)) : Is (isiD "bool" d) Q := by unfold isiD; simp; exact ⟨h⟩
theorem Is_isiS {d : D} (h : Q (PyData.isStr d)) : Is (isiD "str" d) Q := by unfold isiD; simp; exact ⟨h⟩
theorem Is_isiT {d : D} (h : Q (PyData.isTuple d)) : Is (isiD "tuple" d) Q := by unfold isiD; simp; exact ⟨h⟩
theorem Is_isiL {d : D} (h : Q (PyData.isList d)) : Is (isiD "list" d) Q := by unfold isiD; simp; exact ⟨h⟩
theorem Is_addI {i j : Int} (h : DQ (.int (i + j))) : Is (binD .add (.int i) (.int j)) DQ := ⟨h⟩
theorem Is_subI {i j : Int} (h : DQ (.int (i - j))) : Is (binD .sub (.int i) (.int j)) DQ := ⟨h⟩
theorem Is_addL {x y : List D} (hl : x.length + y.length ≤ LINE) (h : DQ (.list (x ++ y))) : Is (binD .add (.list x) (.list y)) DQ := by
  show Is (if _ then _ else _) DQ
  rw [if_pos hl]; exact ⟨h⟩
theorem Is_addT {x y : List D} (hl : x.length + y.length ≤ LINE) (h : DQ (.tuple (x ++ y))) : Is (binD .add (.tuple x) (.tuple y)) DQ := by
  show Is (if _ then _ else _) DQ
  rw [if_pos hl]; exact ⟨h⟩
theorem Is_mod {i j : Int} (hj : j ≠ 0) (h : DQ (.int (i.fmod j))) : Is (binD .mod (.int i) (.int j)) DQ := by
  show Is (if _ then _ else _) DQ
  rw [if_pos hj]; exact ⟨h⟩
theorem Is_idx {α : Type} {enc : α → D} {l : List α} {i : Int} {a : α} (h0 : 0 ≤ i) (e : l[i.toNat]? = some a) (h : DQ (enc a)) : Is (idxD (.tuple (l.map enc)) (.int i)) DQ := by
  refine Is_s (a := enc a) ?_ h
  show atI (l.map enc) i = _
  obtain ⟨hl, rfl⟩ := List.getElem?_eq_some_iff.mp e
  rw [atI_pos h0 (by rw [List.length_map]; exact hl), List.getElem_map]
theorem Is_idxL {α : Type} {enc : α → D} {l : List α} {i : Int} {a : α} (h0 : 0 ≤ i) (e : l[i.toNat]? = some a) (h : DQ (enc a)) : Is (idxD (.list (l.map enc)) (.int i)) DQ := by
  refine Is_s (a := enc a) ?_ h
  show atI (l.map enc) i = _
  obtain ⟨hl, rfl⟩ := List.getElem?_eq_some_iff.mp e
  rw [atI_pos h0 (by rw [List.length_map]; exact hl), List.getElem_map]
theorem Is_cpL {ds : List D} [l : LFs ds] {Q : List D → Prop} (h : Q ds) : Is (cpD (.list ds)) Q := by
  show Is (if lfs ds then some ds else none) Q
  rw [if_pos l.h]; exact ⟨h⟩
theorem Is_cpT {ds : List D} [l : LFs ds] {Q : List D → Prop} (h : Q ds) : Is (cpD (.tuple ds)) Q := by
  show Is (if lfs ds then some ds else none) Q
  rw [if_pos l.h]; exact ⟨h⟩
theorem Is_scp {ds : List D} [l : LFs ds] {lo hi : Option Int} {Q : List D → Prop} (h : Q (cutD ds lo hi)) : Is (scpD (.list ds) lo hi) Q := by
  show Is (if lfs ds then some (cutD ds lo hi) else none) Q
  rw [if_pos l.h]; exact ⟨h⟩
theorem Is_lenT {xs : List D} (h : DQ (.int xs.length)) : Is (biD .len [.tuple xs]) DQ := ⟨h⟩
theorem Is_lenL {xs : List D} (h : DQ (.int xs.length)) : Is (biD .len [.list xs]) DQ := ⟨h⟩
theorem Is_lenS {x : Str} (hl : x.length ≤ LINE) (h : DQ (.int x.length)) : Is (biD .len [.str x]) DQ := by
  show Is (if _ then _ else _) DQ
  rw [if_pos hl]; exact ⟨h⟩
theorem Is_tupL {xs : List D} (h : DQ (.tuple xs)) : Is (biD .tuple [.list xs]) DQ := ⟨h⟩
theorem Is_tupT {xs : List D} (h : DQ (.tuple xs)) : Is (biD .tuple [.tuple xs]) DQ := ⟨h⟩
theorem Is_lisT {xs : List D} (h : DQ (.list xs)) : Is (biD .list [.tuple xs]) DQ := ⟨h⟩
theorem Is_lisL {xs : List D} (h : DQ (.list xs)) : Is (biD .list [.list xs]) DQ := ⟨h⟩
theorem Is_intI {i : Int} (h : DQ (.int i)) : Is (biD .int [.int i]) DQ := ⟨h⟩
theorem Is_intB {i : Bool} (h : DQ (.int (if i then 1 else 0))) : Is (biD .int [.bool i]) DQ := ⟨h⟩
theorem Is_itT {xs : List D} {Q : List D → Prop} (h : Q xs) : Is (items (.tuple xs)) Q := ⟨h⟩
theorem Is_itL {xs : List D} {Q : List D → Prop} (h : Q xs) : Is (items (.list xs)) Q := ⟨h⟩
theorem Is_itS {x : Str} {Q : List D → Prop} (hl : x.length ≤ LINE) (h : Q (strItems x)) : Is (items (.str x)) Q := by
  show Is (if _ then _ else _) Q
  rw [if_pos hl]; exact ⟨h⟩
theorem cut1 {x : D} {xs : List D} : cutD (x :: xs) (some 1) none = xs := by
  unfold cutD HT.sIx
  simp
theorem Is_cutT1 {x : D} {xs : List D} (h : DQ (.tuple xs)) : Is (slcD (.tuple (x :: xs)) (some 1) none) DQ := by
  refine ⟨?_⟩
  show DQ (.tuple (cutD (x :: xs) (some 1) none))
  rw [cut1]; exact h
theorem Is_cutL1 {x : D} {xs : List D} (h : DQ (.list xs)) : Is (slcD (.list (x :: xs)) (some 1) none) DQ := by
  refine ⟨?_⟩
  show DQ (.list (cutD (x :: xs) (some 1) none))
  rw [cut1]; exact h
/-! ### names, laid out -/
theorem frz_nil {ρ : SEnv} : frz ρ [] = ρ := rfl
theorem frz_cons {ρ : SEnv} {i : Nat} {l : List Nat} : frz ρ (i :: l) = frz (frz1 ρ i) l := rfl
theorem fz_nil {i : Nat} : frz1 [] i = [] := rfl
theorem fz_own {d : D} {ρ : SEnv} : frz1 (.own d :: ρ) 0 = .imm d :: ρ := rfl
theorem fz_imm {d : D} {ρ : SEnv} : frz1 (.imm d :: ρ) 0 = .imm d :: ρ := rfl
theorem fz_no {ρ : SEnv} : frz1 (.no :: ρ) 0 = .no :: ρ := rfl
theorem fz_row {ρ : SEnv} : frz1 (.row :: ρ) 0 = .row :: ρ := rfl
theorem fz_jk {k : List (Nat × Nat)} {ρ : SEnv} : frz1 (.jk k :: ρ) 0 = .jk k :: ρ := rfl
theorem fz_s {s : Sl} {ρ : SEnv} {i : Nat} : frz1 (s :: ρ) (i + 1) = s :: frz1 ρ i := by
  unfold frz1
  rw [List.getElem?_cons_succ]
  cases ρ[i]? with
  | none => rfl
  | some x => cases x <;> rfl
theorem st_z {s t : Sl} {ρ : SEnv} : List.set (s :: ρ) 0 t = t :: ρ := rfl
theorem st_s {s t : Sl} {ρ : SEnv} {i : Nat} : List.set (s :: ρ) (i + 1) t = s :: List.set ρ i t := rfl
/-! ### what a name is given -/
theorem put_f {ρ : SEnv} {i : Nat} {d : D} {t : Tag} [k : LF d] {ρ' : SEnv} (z : ρ.set i (.imm d) = ρ') (h : N ρ') : Is (put ρ i d t) N := by
  subst z
  refine Is_s (a := ρ.set i (.imm d)) ?_ h
  unfold put kind
  have hk := k.h
  cases d <;> first | rfl | (cases t <;> simp [kindT, hk] <;> done) | (simp [lf] at hk)
theorem put_l {ρ : SEnv} {i : Nat} {ds : List D} {t : Tag} (e : t = .fr) {ρ' : SEnv} (z : ρ.set i (.own (.list ds)) = ρ') (h : N ρ') : Is (put ρ i (.list ds) t) N := by subst e; subst z; exact ⟨h⟩
theorem put_lz {ρ : SEnv} {i : Nat} {ds : List D} {t : Tag} (e : t = .fz) {ρ' : SEnv} (z : ρ.set i (.imm (.list ds)) = ρ') (h : N ρ') : Is (put ρ i (.list ds) t) N := by subst e; subst z; exact ⟨h⟩
theorem putT1 {ρ : SEnv} {i : Nat} {d : D} {t : Tag} (h : Is (put ρ i d t) N) : Is (putT (.one i) d t ρ) N := h
theorem putT2 {ρ : SEnv} {i j : Nat} {a b : D} {t : Tag} (h : Is (put ρ i a t) fun ρ1 => Is (put ρ1 j b t) N) : Is (putT (.many [i, j]) (.tuple [a, b]) t ρ) N := by
  obtain ⟨ρ1, e1, h⟩ := Is_ex h
  obtain ⟨ρ2, e2, h⟩ := Is_ex h
  show Is (puts [i, j] [a, b] t ρ) N
  simp only [puts, e1, e2]
  exact ⟨h⟩
theorem putT3 {ρ : SEnv} {i j l : Nat} {a b c : D} {t : Tag} (h : Is (put ρ i a t) fun ρ1 => Is (put ρ1 j b t) fun ρ2 => Is (put ρ2 l c t) N) : Is (putT (.many [i, j, l]) (.tuple [a, b, c]) t ρ) N := by
  obtain ⟨ρ1, e1, h⟩ := Is_ex h
  obtain ⟨ρ2, e2, h⟩ := Is_ex h
  obtain ⟨ρ3, e3, h⟩ := Is_ex h
  show Is (puts [i, j, l] [a, b, c] t ρ) N
  simp only [puts, e1, e2, e3]
  exact ⟨h⟩
end
/-- a tag of what holds no list -/
theorem nrm_f {d : D} {t : Tag} [k : LF d] : nrm d t = .fr := by unfold nrm; rw [if_pos k.h]
theorem Nb_f {d : D} {t : Tag} {P : Prop} [k : LF d] (p : P) : Nb (nrm d t) P := Nb_fr nrm_f p
theorem ret_f {d : D} {t : Tag} {g : G} {R : D → Tag → G → Prop} (k : LF d) (h : R d .fr g) : Rt d t g R := by
  unfold Rt
  rw [nrm_f]
  exact ⟨fun h => (nomatch h), h⟩
theorem ret_l {ds : List D} {t : Tag} {g : G} {R : D → Tag → G → Prop} (e : t = .fr) (h : R (.list ds) .fr g) : Rt (.list ds) t g R := by subst e; exact ⟨nofun, h⟩
theorem ret_lz {ds : List D} {t : Tag} {g : G} {R : D → Tag → G → Prop} (e : t = .fz) (h : R (.list ds) .fz g) : Rt (.list ds) t g R := by subst e; exact ⟨nofun, h⟩
theorem nrm_list {ds : List D} {t : Tag} : nrm (.list ds) t = t := rfl
theorem fresh_f {d : D} {t : Tag} [k : LF d] : fresh d t = true := by
  unfold fresh
  cases t
  · rfl
  · exact k.h
  · exact k.h
/-! ### the data of books -/
abbrev rowD (l : Rw) : D := .tuple (l.map PyData.int)
def wordD (l : List Nat) : D := .str ⟨l.toArray⟩
def _root_.Mi.B.Cond.d : Cond → D
  | .is q v => .tuple [.str "is", .int q, .int v]
  | .not c => .tuple [.str "not", c.d]
  | .both a b => .tuple [.str "both", a.d, b.d]
def _root_.Mi.B.Part.d : Part → D
  | .fill n => .tuple [.str "fill", .int n]
  | .cite n => .tuple [.str "cite", .int n]
  | .text l => wordD l
def _root_.Mi.B.Clause.d (c : Clause) : D := .tuple [.int c.ch, .tuple (c.parts.map Part.d)]
def _root_.Mi.B.Want.d : Want → D
  | .needs i j => .tuple [.str "needs", .int i, .int j]
  | .bars i j => .tuple [.str "bars", .int i, .int j]
  | .ahead i j => .tuple [.str "ahead", .int i, .int j]
  | .one l => .tuple [.str "one", rowD l]
  | .some l => .tuple [.str "some", rowD l]
  | .when c i => .tuple [.str "when", c.d, .int i]
  | .only c i => .tuple [.str "only", c.d, .int i]
def _root_.Mi.B.Book.d (b : Book) : D := .tuple [.tuple (b.cl.map Clause.d), .tuple (b.ws.map Want.d)]
def wishD (w : Wish) : D := .tuple [.int w.1, .bool w.2]
def pairD (w : Int × Int) : D := .tuple [.int w.1, .int w.2]
theorem cond_lf : ∀ c : Cond, lf c.d = true
  | .is _ _ => rfl
  | .not c => by
    show (true && (lf c.d && true)) = true
    rw [cond_lf c]; rfl
  | .both a b => by
    show (true && (lf a.d && (lf b.d && true))) = true
    rw [cond_lf a, cond_lf b]; rfl
instance {c : Cond} : LF c.d := ⟨cond_lf c⟩
instance {l : List Nat} : LF (wordD l) := ⟨rfl⟩
instance {p : Part} : LF p.d := ⟨by cases p <;> rfl⟩
instance {c : Clause} : LF c.d := by unfold Clause.d; infer_instance
instance {w : Want} : LF w.d := by cases w <;> (unfold Want.d; infer_instance)
instance {b : Book} : LF b.d := by unfold Book.d; infer_instance
instance {w : Wish} : LF (wishD w) := by unfold wishD; infer_instance
instance {w : Int × Int} : LF (pairD w) := by unfold pairD; infer_instance
instance {l : List Nat} : Dp (wordD l) 0 := ⟨by simp [wordD, PyData.depth]⟩
instance {p : Part} : Dp p.d 1 := ⟨by cases p <;> simp [Part.d, wordD, PyData.depth, PyData.depthAll]⟩
instance {w : Wish} : Dp (wishD w) 1 := ⟨by simp [wishD, PyData.depth, PyData.depthAll]⟩
instance {w : Int × Int} : Dp (pairD w) 1 := ⟨by simp [pairD, PyData.depth, PyData.depthAll]⟩
instance : EQ wordD := ⟨fun a b => by
  unfold wordD
  rw [qss, beq_iff_eq, Str.mk.injEq]
  constructor
  · intro h; simpa using h
  · intro h; rw [h]⟩
/-! ### ranges -/
def Ri (a : Int) (n : Nat) : Rw := (List.range n).map fun (k : Nat) => a + (k : Int)
theorem rng_Ri {a : Int} {n : Nat} : rngItems a n = (Ri a n).map PyData.int := by
  unfold rngItems Ri
  rw [List.map_map]
  rfl
theorem mem_Ri {a : Int} {n : Nat} {x : Int} : x ∈ Ri a n ↔ a ≤ x ∧ x < a + n := by
  unfold Ri
  rw [List.mem_map]
  constructor
  · rintro ⟨k, hk, rfl⟩
    have := List.mem_range.mp hk
    omega
  · intro h
    exact ⟨(x - a).toNat, List.mem_range.mpr (by omega), by omega⟩
theorem Ri_len {a : Int} {n : Nat} : (Ri a n).length = n := by simp [Ri]
theorem Ri_asc {a : Int} {n : Nat} : (Ri a n).Pairwise (· < ·) := by
  unfold Ri
  rw [List.pairwise_map]
  exact List.pairwise_lt_range.imp fun h => by omega
/-! ### what a book must be -/
def _root_.Mi.B.Cond.ok : Nat → Cond → Prop
  | _, .is q v => 0 ≤ q ∧ q < 3 ∧ 0 ≤ v ∧ v < 3
  | n + 1, .not c => c.ok n
  | n + 1, .both a b => a.ok n ∧ b.ok n
  | 0, _ => False
def abc : List Nat := ("abcdefghijklmnopqrstuvwxyz" : Str).cps.toList
abbrev wordOk (l : List Nat) : Prop := 1 ≤ l.length ∧ l.length ≤ 6 ∧ ∀ c ∈ l, c ∈ abc
def _root_.Mi.B.Part.ok (m : Int) : Part → Prop
  | .fill n => 0 ≤ n ∧ n < 6
  | .cite n => 0 ≤ n ∧ n < m
  | .text l => wordOk l
def _root_.Mi.B.Clause.ok (m : Int) (c : Clause) : Prop := 0 ≤ c.ch ∧ c.ch < 4 ∧ 1 ≤ c.parts.length ∧ c.parts.length ≤ 6 ∧ ∀ p ∈ c.parts, p.ok m
abbrev two_ (m i j : Int) : Prop := 0 ≤ i ∧ i < m ∧ 0 ≤ j ∧ j < m ∧ i ≠ j
/-- a rising row of numbers below one -/
abbrev asc (m : Int) (l : Rw) : Prop := l.Pairwise (· < ·) ∧ ∀ v ∈ l, 0 ≤ v ∧ v < m
def _root_.Mi.B.Want.ok (m : Int) : Want → Prop
  | .needs i j => two_ m i j
  | .bars i j => two_ m i j
  | .ahead i j => two_ m i j
  | .one l => asc m l ∧ l ≠ []
  | .some l => asc m l ∧ l ≠ []
  | .when c i => c.ok 3 ∧ 0 ≤ i ∧ i < m
  | .only c i => c.ok 3 ∧ 0 ≤ i ∧ i < m
structure _root_.Mi.B.Book.ok (b : Book) : Prop where
  n1 : 1 ≤ b.cl.length
  n8 : b.cl.length ≤ 8
  cl : ∀ c ∈ b.cl, c.ok b.cl.length
  w16 : b.ws.length ≤ 16
  ws : ∀ w ∈ b.ws, w.ok b.cl.length
abbrev ansOk (a : Rw) : Prop := a.length = 3 ∧ ∀ v ∈ a, 0 ≤ v ∧ v < 3
end Mi
end
section
set_option maxRecDepth 100000
set_option maxHeartbeats 400000
/-! Sorted rows, least things. -/
namespace Mi
open PySem PySem.Spec PyProof.Rows L2 Mi.B
class AL {α : Type} (enc : α → D) : Prop where
  h : ∀ a b : α, PySem.W.alike (enc a) (enc b) = true
theorem alikeAll_map {α : Type} {enc : α → D} [e : AL enc] : ∀ {l m : List α}, PySem.W.alikeAll (l.map enc) (m.map enc) = true
  | [], [] => by simp [PySem.W.alikeAll]
  | [], b :: m => by simp [PySem.W.alikeAll]
  | a :: l, [] => by simp [PySem.W.alikeAll]
  | a :: l, b :: m => by
    rw [List.map_cons, List.map_cons, PySem.W.alikeAll, e.h, alikeAll_map]
    rfl
instance : AL PyData.int := ⟨fun a b => by simp [PySem.W.alike]⟩
instance : AL PyData.str := ⟨fun a b => by simp [PySem.W.alike]⟩
instance : AL PyData.bool := ⟨fun a b => by simp [PySem.W.alike]⟩
instance {α : Type} {enc : α → D} [e : AL enc] : AL fun l : List α => PyData.tuple (l.map enc) := ⟨fun a b => by
  simp only [PySem.W.alike]
  exact alikeAll_map⟩
instance {α β : Type} {enc : α → D} {enc' : β → D} [e : AL enc] [k : AL enc'] : AL fun l : α × β => PyData.tuple [enc l.1, enc' l.2] := ⟨fun a b => by
  simp only [PySem.W.alike, PySem.W.alikeAll, e.h, k.h]
  rfl⟩
theorem allAlike_map {α : Type} {enc : α → D} [e : AL enc] {l : List α} : allAlike (l.map enc) = true := by
  unfold allAlike
  simp only [List.all_eq_true, List.mem_map]
  rintro _ ⟨a, _, rfl⟩ _ ⟨b, _, rfl⟩
  exact e.h a b
/-- the order of rows -/
def leR (a b : Rw) : Bool := !decide (b < a)
theorem dle_rows (a b : Rw) : dle (rowD a) (rowD b) = leR a b := by
  unfold dle leR
  rw [PySem.W.dataLt_tuple]
  congr 1
  exact PySem.W.dataLt_ints b a
theorem sort_rows {l : List Rw} (hl : l.length ≤ LINE) : sortD (l.map rowD) = some ((l.mergeSort leR).map rowD) := by
  unfold sortD
  rw [if_pos]
  · rw [List.map_mergeSort (s := dle) fun a _ b _ => (dle_rows a b).symm]
  · have h1 : (l.map rowD).all isTup = true := by
      rw [List.all_eq_true]
      intro d hd
      obtain ⟨a, _, rfl⟩ := List.mem_map.mp hd
      rfl
    have h2 : PyData.depthAll (l.map rowD) ≤ 60 := by
      have := (inferInstance : Dps (l.map rowD) 1).h
      omega
    rw [allAlike_map (enc := fun l : List Int => PyData.tuple (l.map PyData.int)), h1, decide_eq_true h2, List.length_map, decide_eq_true hl]
    rfl
def leI (a b : Int) : Bool := !decide (b < a)
theorem sort_ints {l : Rw} (hl : l.length ≤ LINE) : sortD (l.map PyData.int) = some ((l.mergeSort leI).map PyData.int) := by
  unfold sortD
  rw [if_pos]
  · rw [List.map_mergeSort (s := dle) fun a _ b _ => by
      unfold dle leI
      rw [PySem.W.dataLt_int]]
  · have h1 : (l.map PyData.int).all (fun d => !isTup d && !isNone d) = true := by
      rw [List.all_eq_true]
      intro d hd
      obtain ⟨a, _, rfl⟩ := List.mem_map.mp hd
      rfl
    have h2 : PyData.depthAll (l.map PyData.int) ≤ 60 := by
      have := (inferInstance : Dps (l.map PyData.int) 0).h
      omega
    rw [allAlike_map, h1, decide_eq_true h2, List.length_map, decide_eq_true hl]
    simp
theorem leI_sorted {l : Rw} : (l.mergeSort leI).Pairwise (· ≤ ·) := by
  have := List.pairwise_mergeSort (le := leI) (fun a b c h k => by simp [leI] at h k ⊢; omega) (fun a b => by simp [leI]; omega) l
  exact this.imp fun h => by simpa [leI] using h
theorem sortI_eq {l : Rw} : (l = l.mergeSort leI) ↔ l.Pairwise (· ≤ ·) := by
  constructor
  · intro h
    rw [h]
    exact leI_sorted
  · intro h
    rw [List.mergeSort_of_pairwise]
    exact h.imp fun h => by simpa [leI] using h
theorem least_of {α : Type} {enc : α → D} (lt : α → α → Bool) [AL enc] (hlt : ∀ a b, PySem.W.dataLt (enc a) (enc b) = lt a b) (hn : ∀ a, isNone (enc a) = false) {n : Nat} [∀ a, Dp (enc a) n] (h60 : n ≤ 60) {x : α} {xs : List α} : leastD ((x :: xs).map enc) = some (enc (xs.foldl (fun a y => if lt y a then y else a) x)) := by
  rw [List.map_cons]
  unfold leastD
  dsimp only
  rw [if_pos]
  · unfold minL
    congr 1
    clear h60
    induction xs generalizing x with
    | nil => rfl
    | cons y ys ih =>
      rw [List.map_cons, List.foldl_cons, List.foldl_cons, hlt]
      rw [show (if lt y x = true then enc y else enc x) = enc (if lt y x then y else x) by split <;> rfl]
      exact ih
  · have h1 : allAlike (enc x :: xs.map enc) = true := allAlike_map (l := x :: xs)
    have h2 : (enc x :: xs.map enc).all (fun d => !isNone d) = true := by
      rw [List.all_eq_true]
      intro d hd
      obtain ⟨a, _, rfl⟩ := List.mem_map.mp (show d ∈ (x :: xs).map enc from hd)
      rw [hn]; rfl
    have h3 : PyData.depthAll (enc x :: xs.map enc) ≤ 60 := by
      have := (inferInstance : Dps ((x :: xs).map enc) n).h
      exact Nat.le_trans this h60
    rw [h1, h2, decide_eq_true h3]
    rfl
/-- places -/
theorem place_int {x : Int} : ∀ {l : Rw}, x ∈ l → ∃ j, SeqAt.dataPlace (l.map PyData.int) (.int x) = some j ∧ (l.map PyData.int).eraseIdx j = (l.erase x).map PyData.int
  | [], h => nomatch h
  | y :: l, h => by
    unfold SeqAt.dataPlace
    rw [List.map_cons, List.findIdx?_cons, qii]
    cases e : y == x with
    | true =>
      refine ⟨0, rfl, ?_⟩
      rw [List.erase_cons, if_pos e]
      rfl
    | false =>
      have hx : x ∈ l := by
        rcases List.mem_cons.mp h with z | z
        · rw [z] at e; simp at e
        · exact z
      obtain ⟨j, e1, e2⟩ := place_int (l := l) hx
      unfold SeqAt.dataPlace at e1
      refine ⟨j + 1, by rw [e1]; rfl, ?_⟩
      rw [List.erase_cons, if_neg (by rw [e]; simp), List.eraseIdx_cons_succ, e2]
      rfl
end Mi
end
section
set_option maxRecDepth 100000
set_option maxHeartbeats 400000
namespace Mi.L
open PySem PySem.Spec PyProof.Rows L2 Mi.B P
local macro_rules | `(tactic| fail) => `(tactic| (with_reducible refine Is_s (o := List.lookup _ _) rfl ?_))
local macro_rules | `(tactic| fail) => `(tactic| (with_reducible refine Is_s (o := slcD _ _ _) rfl ?_))
local macro_rules | `(tactic| fail) => `(tactic| (with_reducible refine Is_s (o := idxD _ _) rfl ?_))
local macro_rules | `(tactic| fail) => `(tactic| ((with_reducible refine two_f ?_ ?_); (· (first | rfl | (simp [ofs_eq]; done) | (simp; omega)))))
local macro_rules | `(tactic| fail) => `(tactic| ((with_reducible refine two_t ?_ ?_); (· (first | rfl | (simp [ofs_eq]; done) | (simp; omega)))))
local macro_rules | `(tactic| fail) => `(tactic| ((with_reducible show Ap _ _ _ _ _); refine Ap_ok (by exact rfl) (by exact fresh_f) (by (first | omega | (simp; done) | (simp; omega))) (by (try simp only [frz_nil, frz_cons, fz_nil, fz_own, fz_imm, fz_no, fz_row, fz_jk, fz_s, st_z, st_s]); rfl) ?_))
local macro_rules | `(tactic| fail) => `(tactic| ((with_reducible refine Nb_fz ?_ ?_); (· rfl)))
local macro_rules | `(tactic| fail) => `(tactic| ((with_reducible refine Nb_fr ?_ ?_); (· rfl)))
local macro_rules | `(tactic| fail) => `(tactic| (with_reducible refine Nb_f ?_))
local macro_rules | `(tactic| fail) => `(tactic| ((with_reducible refine Dn_ok ?_ ?_); (· rfl)))
local macro_rules | `(tactic| fail) => `(tactic| ((with_reducible refine Sm_ok ?_ ?_); (· (first | omega | (simp; done) | (simp; omega)))))
local macro_rules | `(tactic| fail) => `(tactic| ((with_reducible refine Ln_ok ?_ ?_); (· (first | omega | (simp; done) | (simp; omega)))))
local macro_rules | `(tactic| fail) => `(tactic| ((with_reducible refine put_lz ?_ (by (try simp only [frz_nil, frz_cons, fz_nil, fz_own, fz_imm, fz_no, fz_row, fz_jk, fz_s, st_z, st_s]); rfl) ?_); (· rfl)))
local macro_rules | `(tactic| fail) => `(tactic| ((with_reducible refine put_l ?_ (by (try simp only [frz_nil, frz_cons, fz_nil, fz_own, fz_imm, fz_no, fz_row, fz_jk, fz_s, st_z, st_s]); rfl) ?_); (· rfl)))
local macro_rules | `(tactic| fail) => `(tactic| ((with_reducible refine ret_lz ?_ ?_); (· rfl)))
local macro_rules | `(tactic| fail) => `(tactic| ((with_reducible refine ret_l ?_ ?_); (· rfl)))
local macro_rules | `(tactic| fail) => `(tactic| (with_reducible refine ret_f inferInstance ?_))
local macro_rules | `(tactic| fail) => `(tactic| ((with_reducible refine Is_lenS ?_ ?_); (· decide)))
local macro_rules | `(tactic| fail) => `(tactic| ((with_reducible refine Is_mod ?_ ?_); (· omega)))
local macro_rules | `(tactic| fail) => `(tactic| (with_reducible refine W_getG Ht.h ?_))
local macro_rules | `(tactic| fail) => `(tactic| (with_reducible refine W_inG Ht.h ?_))
local macro_rules | `(tactic| fail) => `(tactic| ((with_reducible refine W_callR ?_ ?_); (· exact rfl)))
local macro_rules | `(tactic| fail) => `(tactic| ((with_reducible show WT (turnF _ _ _ _ _ _ _ _ _) _ _); refine WT_cmp (by exact rfl) ?_))
local macro_rules | `(tactic| fail) => `(tactic| (with_reducible refine W_call0 ?_))
local macro_rules | `(tactic| fail) => `(tactic| ((with_reducible refine W_dget ?_ ?_); (· exact rfl)))
local macro_rules | `(tactic| fail) => `(tactic| ((with_reducible show W (evE _ _ _ (.var _) _) _); refine W_var (by exact rfl) (by first | exact nrm_f | exact nrm_list | exact rfl) ?_))
local macro_rules | `(tactic| fail) => `(tactic| (with_reducible refine put_f (by (try simp only [frz_nil, frz_cons, fz_nil, fz_own, fz_imm, fz_no, fz_row, fz_jk, fz_s, st_z, st_s]); rfl) ?_))
local macro_rules | `(tactic| fail) => `(tactic| (with_reducible refine X_forK (by (try simp only [frz_nil, frz_cons, fz_nil, fz_own, fz_imm, fz_no, fz_row, fz_jk, fz_s, st_z, st_s]); rfl) ?_))
local macro_rules | `(tactic| fail) => `(tactic| (with_reducible refine X_for (by (try simp only [frz_nil, frz_cons, fz_nil, fz_own, fz_imm, fz_no, fz_row, fz_jk, fz_s, st_z, st_s]); rfl) ?_))
local macro_rules | `(tactic| fail) => `(tactic| (with_reducible refine X_tup (by (try simp only [frz_nil, frz_cons, fz_nil, fz_own, fz_imm, fz_no, fz_row, fz_jk, fz_s, st_z, st_s]); rfl) ?_))
local macro_rules | `(tactic| fail) => `(tactic| (with_reducible refine X_asg (by (try simp only [frz_nil, frz_cons, fz_nil, fz_own, fz_imm, fz_no, fz_row, fz_jk, fz_s, st_z, st_s]); rfl) ?_))
local macro_rules | `(tactic| fail) => `(tactic| (with_reducible refine putT3 ?_))
local macro_rules | `(tactic| fail) => `(tactic| (with_reducible refine putT2 ?_))
local macro_rules | `(tactic| fail) => `(tactic| (with_reducible refine putT1 ?_))
local macro_rules | `(tactic| fail) => `(tactic| (with_reducible refine Is_cutL1 ?_))
local macro_rules | `(tactic| fail) => `(tactic| (with_reducible refine Is_cutT1 ?_))
local macro_rules | `(tactic| fail) => `(tactic| (with_reducible refine Is_dkey ?_))
local macro_rules | `(tactic| fail) => `(tactic| (with_reducible refine Is_itL ?_))
local macro_rules | `(tactic| fail) => `(tactic| (with_reducible refine Is_itT ?_))
local macro_rules | `(tactic| fail) => `(tactic| (with_reducible refine Is_intB ?_))
local macro_rules | `(tactic| fail) => `(tactic| (with_reducible refine Is_intI ?_))
local macro_rules | `(tactic| fail) => `(tactic| (with_reducible refine Is_lisL ?_))
local macro_rules | `(tactic| fail) => `(tactic| (with_reducible refine Is_lisT ?_))
local macro_rules | `(tactic| fail) => `(tactic| (with_reducible refine Is_tupT ?_))
local macro_rules | `(tactic| fail) => `(tactic| (with_reducible refine Is_tupL ?_))
local macro_rules | `(tactic| fail) => `(tactic| (with_reducible refine Is_lenL ?_))
local macro_rules | `(tactic| fail) => `(tactic| (with_reducible refine Is_lenT ?_))
local macro_rules | `(tactic| fail) => `(tactic| (with_reducible refine Is_subI ?_))
local macro_rules | `(tactic| fail) => `(tactic| (with_reducible refine Is_addI ?_))
local macro_rules | `(tactic| fail) => `(tactic| (with_reducible refine Is_isiL ?_))
local macro_rules | `(tactic| fail) => `(tactic| (with_reducible refine Is_isiT ?_))
local macro_rules | `(tactic| fail) => `(tactic| (with_reducible refine Is_isiS ?_))
local macro_rules | `(tactic| fail) => `(tactic| (with_reducible refine Is_isiB ?_))
local macro_rules | `(tactic| fail) => `(tactic| (with_reducible refine Is_isiI ?_))
local macro_rules | `(tactic| fail) => `(tactic| (with_reducible refine Is_nin3 ?_))
local macro_rules | `(tactic| fail) => `(tactic| (with_reducible refine Is_in3 ?_))
local macro_rules | `(tactic| fail) => `(tactic| (with_reducible refine Is_nin2 ?_))
local macro_rules | `(tactic| fail) => `(tactic| (with_reducible refine Is_in2 ?_))
local macro_rules | `(tactic| fail) => `(tactic| (with_reducible refine Is_ninL ?_))
local macro_rules | `(tactic| fail) => `(tactic| (with_reducible refine Is_nin ?_))
local macro_rules | `(tactic| fail) => `(tactic| (with_reducible refine Is_scp ?_))
local macro_rules | `(tactic| fail) => `(tactic| (with_reducible refine Is_cpT ?_))
local macro_rules | `(tactic| fail) => `(tactic| (with_reducible refine Is_cpL ?_))
local macro_rules | `(tactic| fail) => `(tactic| (with_reducible refine Is_inL ?_))
local macro_rules | `(tactic| fail) => `(tactic| (with_reducible refine Is_in ?_))
local macro_rules | `(tactic| fail) => `(tactic| (with_reducible refine Is_geI ?_))
local macro_rules | `(tactic| fail) => `(tactic| (with_reducible refine Is_leI ?_))
local macro_rules | `(tactic| fail) => `(tactic| (with_reducible refine Is_gtI ?_))
local macro_rules | `(tactic| fail) => `(tactic| (with_reducible refine Is_ltI ?_))
local macro_rules | `(tactic| fail) => `(tactic| (with_reducible refine Is_neB ?_))
local macro_rules | `(tactic| fail) => `(tactic| (with_reducible refine Is_eqB ?_))
local macro_rules | `(tactic| fail) => `(tactic| (with_reducible refine Is_neNilT ?_))
local macro_rules | `(tactic| fail) => `(tactic| (with_reducible refine Is_eqNilT ?_))
local macro_rules | `(tactic| fail) => `(tactic| (with_reducible refine Is_neNil ?_))
local macro_rules | `(tactic| fail) => `(tactic| (with_reducible refine Is_eqNil ?_))
local macro_rules | `(tactic| fail) => `(tactic| (with_reducible refine Is_neS ?_))
local macro_rules | `(tactic| fail) => `(tactic| (with_reducible refine Is_eqS ?_))
local macro_rules | `(tactic| fail) => `(tactic| (with_reducible refine Is_neI ?_))
local macro_rules | `(tactic| fail) => `(tactic| (with_reducible refine Is_eqI ?_))
local macro_rules | `(tactic| fail) => `(tactic| (with_reducible refine IS_s ?_))
local macro_rules | `(tactic| fail) => `(tactic| (with_reducible refine II_i ?_))
local macro_rules | `(tactic| fail) => `(tactic| (with_reducible refine IB_b ?_))
local macro_rules | `(tactic| fail) => `(tactic| (with_reducible refine ILs_l ?_))
local macro_rules | `(tactic| fail) => `(tactic| (with_reducible refine X_dnew ?_))
local macro_rules | `(tactic| fail) => `(tactic| (with_reducible refine X_tryR ?_))
local macro_rules | `(tactic| fail) => `(tactic| (with_reducible refine X_retX ?_))
local macro_rules | `(tactic| fail) => `(tactic| (with_reducible refine X_raiC ?_))
local macro_rules | `(tactic| fail) => `(tactic| (with_reducible refine X_sto ?_))
local macro_rules | `(tactic| fail) => `(tactic| (with_reducible refine X_ins ?_))
local macro_rules | `(tactic| fail) => `(tactic| (with_reducible refine X_apo ?_))
local macro_rules | `(tactic| fail) => `(tactic| (with_reducible refine X_pas ?_))
local macro_rules | `(tactic| fail) => `(tactic| (with_reducible refine X_spo ?_))
local macro_rules | `(tactic| fail) => `(tactic| (with_reducible refine X_ext ?_))
local macro_rules | `(tactic| fail) => `(tactic| (with_reducible refine X_rem ?_))
local macro_rules | `(tactic| fail) => `(tactic| (with_reducible refine X_app ?_))
local macro_rules | `(tactic| fail) => `(tactic| (with_reducible refine X_par3 ?_))
local macro_rules | `(tactic| fail) => `(tactic| (with_reducible refine X_par2 ?_))
local macro_rules | `(tactic| fail) => `(tactic| (with_reducible refine X_exp ?_))
local macro_rules | `(tactic| fail) => `(tactic| (with_reducible refine X_whl ?_))
local macro_rules | `(tactic| fail) => `(tactic| (with_reducible refine X_ret ?_))
local macro_rules | `(tactic| fail) => `(tactic| (with_reducible refine X_ite ?_))
local macro_rules | `(tactic| fail) => `(tactic| (with_reducible refine X_nil ?_))
local macro_rules | `(tactic| fail) => `(tactic| (with_reducible refine X_cons ?_))
local macro_rules | `(tactic| fail) => `(tactic| (with_reducible refine CL_cons ?_))
local macro_rules | `(tactic| fail) => `(tactic| (with_reducible refine CL_nil ?_))
local macro_rules | `(tactic| fail) => `(tactic| (with_reducible refine WC_evB ?_))
local macro_rules | `(tactic| fail) => `(tactic| (with_reducible refine WI_rng3 ?_))
local macro_rules | `(tactic| fail) => `(tactic| (with_reducible refine WI_rng2 ?_))
local macro_rules | `(tactic| fail) => `(tactic| (with_reducible refine WI_rng1 ?_))
local macro_rules | `(tactic| fail) => `(tactic| (with_reducible refine WI_val ?_))
local macro_rules | `(tactic| fail) => `(tactic| (with_reducible refine WC_cons ?_))
local macro_rules | `(tactic| fail) => `(tactic| (with_reducible refine WC_nil ?_))
local macro_rules | `(tactic| fail) => `(tactic| (with_reducible refine WO_cons ?_))
local macro_rules | `(tactic| fail) => `(tactic| (with_reducible refine WO_nil ?_))
local macro_rules | `(tactic| fail) => `(tactic| (with_reducible refine WL_cons ?_))
local macro_rules | `(tactic| fail) => `(tactic| (with_reducible refine WL_nil ?_))
local macro_rules | `(tactic| fail) => `(tactic| (with_reducible refine W_sset ?_))
local macro_rules | `(tactic| fail) => `(tactic| (with_reducible refine W_scp ?_))
local macro_rules | `(tactic| fail) => `(tactic| (with_reducible refine W_lcp ?_))
local macro_rules | `(tactic| fail) => `(tactic| (with_reducible refine W_lrg ?_))
local macro_rules | `(tactic| fail) => `(tactic| (with_reducible refine W_meth ?_))
local macro_rules | `(tactic| fail) => `(tactic| (with_reducible refine W_join ?_))
local macro_rules | `(tactic| fail) => `(tactic| (with_reducible refine W_isq ?_))
local macro_rules | `(tactic| fail) => `(tactic| (with_reducible refine W_neg ?_))
local macro_rules | `(tactic| fail) => `(tactic| (with_reducible refine W_slc ?_))
local macro_rules | `(tactic| fail) => `(tactic| (with_reducible refine W_noN ?_))
local macro_rules | `(tactic| fail) => `(tactic| (with_reducible refine W_isN ?_))
local macro_rules | `(tactic| fail) => `(tactic| (with_reducible refine W_chn ?_))
local macro_rules | `(tactic| fail) => `(tactic| (with_reducible refine W_isi ?_))
local macro_rules | `(tactic| fail) => `(tactic| (with_reducible refine W_bi ?_))
local macro_rules | `(tactic| fail) => `(tactic| (with_reducible refine W_comp ?_))
local macro_rules | `(tactic| fail) => `(tactic| (with_reducible refine W_lst ?_))
local macro_rules | `(tactic| fail) => `(tactic| (with_reducible refine W_tup ?_))
local macro_rules | `(tactic| fail) => `(tactic| (with_reducible refine W_ite ?_))
local macro_rules | `(tactic| fail) => `(tactic| (with_reducible refine W_not ?_))
local macro_rules | `(tactic| fail) => `(tactic| (with_reducible refine W_or ?_))
local macro_rules | `(tactic| fail) => `(tactic| (with_reducible refine W_and ?_))
local macro_rules | `(tactic| fail) => `(tactic| (with_reducible refine W_sub ?_))
local macro_rules | `(tactic| fail) => `(tactic| (with_reducible refine W_cmp ?_))
local macro_rules | `(tactic| fail) => `(tactic| (with_reducible refine W_bin ?_))
local macro_rules | `(tactic| fail) => `(tactic| (with_reducible refine W_glo ?_))
local macro_rules | `(tactic| fail) => `(tactic| (with_reducible refine W_cst ?_))
variable {tbl : TblS} {fs : List Fd} {k : Nat} {g : G}
section
variable [Hf fs f_is_whole]
theorem is_whole_run {v lo hi : Int} : run tbl fs (k + 1) "is_whole" false [.int v, .int lo, .int hi] g = some (.bool (decide (lo ≤ v) && decide (v < hi)), .fr, g) := by
  refine W_eq (R_is_whole ?_)
  unfold b_is_whole
  repeat' (first | fail | (with_reducible refine two (fun _ => ?_) (fun _ => ?_)) | done)
  all_goals (refine ⟨?_, rfl, rfl⟩; first | (simp_all; done) | (simp_all; omega))
theorem is_whole_ok {v lo hi : Int} (h0 : lo ≤ v) (h1 : v < hi) : run tbl fs (k + 1) "is_whole" false [.int v, .int lo, .int hi] g = some (.bool true, .fr, g) := by
  rw [is_whole_run]
  simp [h0, h1]
variable [Hf fs f_is_rising]
theorem is_rising_ok {l : Rw} {m : Int} (h : asc m l) (hl : l.length ≤ 1000) : run tbl fs (k + 2) "is_rising" false [rowD l, .int m] g = some (.bool true, .fr, g) := by
  refine W_eq (R_is_rising ?_)
  unfold b_is_rising
  repeat' (first | fail | done)
  refine comp_none (enc := PyData.int) (fun a ha => ?_) ?_
  · refine WT_cmp rfl ?_
    repeat' (first | fail | ((with_reducible show W (run _ _ _ _ _ _ _) _); with_reducible refine W_is (is_whole_ok (h.2 a ha).1 (h.2 a ha).2) ?_) | done)
    rfl
  repeat' (first | fail | done)
  rw [rng_Ri]
  refine comp_none (enc := PyData.int) (fun a ha => ?_) ?_
  · refine WT_cmp rfl ?_
    have ha := mem_Ri.mp ha
    simp only [List.length_map] at ha
    have h1 : (a - 1).toNat < l.length := by omega
    have h2 : a.toNat < l.length := by omega
    have h3 := List.pairwise_iff_getElem.mp h.1 _ _ h1 h2 (by omega)
    have h4 : decide (l[a.toNat] ≤ l[(a - 1).toNat]) = false := decide_eq_false (by omega)
    repeat' (first | fail | done)
    refine Is_idx (enc := PyData.int) (a := l[(a - 1).toNat]) (by omega) (by simp [h1]) ?_
    repeat' (first | fail | done)
    refine Is_idx (enc := PyData.int) (a := l[a.toNat]) (by omega) (by simp [h2]) ?_
    repeat' (first | fail | ((with_reducible refine two_t ?_ ?_); (· (first | rfl | exact h4 | (simp [ofs_eq, h4]; done) | (simp; omega)))) | ((with_reducible refine two_f ?_ ?_); (· (first | rfl | exact h4 | (simp [ofs_eq, h4]; done) | (simp; omega)))) | done)
    rfl
  repeat' (first | fail | done)
  exact ⟨rfl, rfl, rfl⟩
section
variable [Hf fs f_is_word]
theorem letter_in {c : Nat} (h : c ∈ abc) : inD (.str ⟨#[c]⟩) (.str "abcdefghijklmnopqrstuvwxyz") = some true := by
  show some (decide (c ∈ abc)) = _
  rw [decide_eq_true h]
theorem is_word_ok {l : List Nat} (h : wordOk l) : run tbl fs (k + 1) "is_word" false [wordD l] g = some (.bool true, .fr, g) := by
  have hl : ((⟨l.toArray⟩ : Str)).length = l.length := by show l.toArray.size = _; simp
  have h1 := h.1
  have h2 := h.2.1
  refine W_eq (R_is_word ?_)
  unfold b_is_word wordD
  have hL : ((⟨l.toArray⟩ : Str)).length ≤ LINE := by rw [hl]; unfold LINE; omega
  have a1 : decide ((1 : Int) ≤ ((⟨l.toArray⟩ : Str)).length) = true := by rw [hl]; simp; omega
  have a2 : decide (((⟨l.toArray⟩ : Str)).length ≤ (6 : Int)) = true := by rw [hl]; simp; omega
  repeat' (first | fail | ((with_reducible refine two_t ?_ ?_); (· (first | rfl | exact a1 | exact a2 | (simp [ofs_eq, a1, a2]; done) | (simp; omega)))) | ((with_reducible refine two_f ?_ ?_); (· (first | rfl | exact a1 | exact a2 | (simp [ofs_eq, a1, a2]; done) | (simp; omega)))) | (refine Is_lenS hL ?_) | (refine Is_itS hL ?_) | done)
  show WL (compL _ (l.map fun c => PyData.str ⟨#[c]⟩) g) _
  refine comp_none (enc := fun c => PyData.str ⟨#[c]⟩) (fun c hc => ?_) ?_
  · refine WT_cmp rfl ?_
    have e1 : cmpD .notin (.str ⟨#[c]⟩) (.str "abcdefghijklmnopqrstuvwxyz") = some false := by
      show (inD (.str ⟨#[c]⟩) (.str "abcdefghijklmnopqrstuvwxyz")).map _ = _
      rw [letter_in (h.2.2 c hc)]; rfl
    repeat' (first | fail | (refine Is_s e1 ?_) | done)
    rfl
  repeat' (first | fail | done)
  exact ⟨rfl, rfl, rfl⟩
variable [Hf fs f_is_part]
theorem is_part_ok {p : Part} {m : Int} (h : p.ok m) : run tbl fs (k + 2) "is_part" false [p.d, .int m] g = some (.bool true, .fr, g) := by
  refine W_eq (R_is_part ?_)
  unfold b_is_part
  cases p with
  | text l =>
    dsimp only [Part.d]
    have h : wordOk l := h
    repeat' (first | fail | ((with_reducible show W (run _ _ _ _ _ _ _) _); with_reducible refine W_is (is_word_ok h) ?_) | done)
    exact ⟨rfl, rfl, rfl⟩
  | fill n =>
    dsimp only [Part.d]
    have h : 0 ≤ n ∧ n < 6 := h
    repeat' (first | fail | ((with_reducible show W (run _ _ _ _ _ _ _) _); with_reducible refine W_is (is_whole_ok h.1 h.2) ?_) | done)
    exact ⟨rfl, rfl, rfl⟩
  | cite n =>
    dsimp only [Part.d]
    have h : 0 ≤ n ∧ n < m := h
    repeat' (first | fail | ((with_reducible show W (run _ _ _ _ _ _ _) _); with_reducible refine W_is (is_whole_ok h.1 h.2) ?_) | done)
    exact ⟨rfl, rfl, rfl⟩
variable [Hf fs f_is_clause]
theorem is_clause_ok {c : Clause} {m : Int} (h : c.ok m) : run tbl fs (k + 3) "is_clause" false [c.d, .int m] g = some (.bool true, .fr, g) := by
  obtain ⟨h1, h2, h3, h4, h5⟩ := h
  refine W_eq (R_is_clause ?_)
  unfold b_is_clause Clause.d
  have a1 : decide ((1 : Int) ≤ ((c.parts.map Part.d).length : Nat)) = true := by simp; omega
  have a2 : decide (((c.parts.map Part.d).length : Nat) ≤ (6 : Int)) = true := by simp; omega
  repeat' (first | fail | ((with_reducible refine two_t ?_ ?_); (· (first | rfl | exact a1 | exact a2 | (simp [ofs_eq, a1, a2]; done) | (simp; omega)))) | ((with_reducible refine two_f ?_ ?_); (· (first | rfl | exact a1 | exact a2 | (simp [ofs_eq, a1, a2]; done) | (simp; omega)))) | ((with_reducible show W (run _ _ _ _ _ _ _) _); with_reducible refine W_is (is_whole_ok h1 h2) ?_) | done)
  refine comp_none (enc := Part.d) (fun p hp => ?_) ?_
  · refine WT_cmp rfl ?_
    repeat' (first | fail | ((with_reducible show W (run _ _ _ _ _ _ _) _); with_reducible refine W_is (is_part_ok (h5 p hp)) ?_) | done)
    rfl
  repeat' (first | fail | done)
  exact ⟨rfl, rfl, rfl⟩
end
section
variable [Ht tbl "CONDITIONS" [("is", "qv"), ("not", "c"), ("both", "cc")]] [Hf fs f_is_condition]
theorem is_condition_ok : ∀ (c : Cond) {n : Nat} {d : Int} {k : Nat} {g : G}, c.ok n → 0 ≤ d → d + n ≤ 3 → run tbl fs (k + n + 2) "is_condition" false [c.d, .int d] g = some (.bool true, .fr, g)
  | .is q v, n, d, k, g, h, h0, h3 => by
    have h : 0 ≤ q ∧ q < 3 ∧ 0 ≤ v ∧ v < 3 := by cases n <;> exact h
    have a1 : decide (3 < d) = false := decide_eq_false (by omega)
    refine W_eq (R_is_condition ?_)
    unfold b_is_condition
    dsimp only [Cond.d]
    repeat' (first | fail | ((with_reducible refine two_t ?_ ?_); (· (first | rfl | exact a1 | (simp [ofs_eq, a1]; done) | (simp; omega)))) | ((with_reducible refine two_f ?_ ?_); (· (first | rfl | exact a1 | (simp [ofs_eq, a1]; done) | (simp; omega)))) | ((with_reducible show W (run _ _ _ _ _ _ _) _); with_reducible refine W_is (is_whole_ok (k := k + n) h.1 h.2.1) ?_) | ((with_reducible show W (run _ _ _ _ _ _ _) _); with_reducible refine W_is (is_whole_ok (k := k + n) h.2.2.1 h.2.2.2) ?_) | done)
    exact ⟨rfl, rfl, rfl⟩
  | .not c, n, d, k, g, h, h0, h3 => by
    cases n with
    | zero => exact h.elim
    | succ n =>
      have ih := is_condition_ok c (n := n) (d := d + 1) (k := k) (g := g) h (by omega) (by omega)
      have a1 : decide (3 < d) = false := decide_eq_false (by omega)
      refine W_eq (R_is_condition ?_)
      unfold b_is_condition
      dsimp only [Cond.d]
      repeat' (first | fail | ((with_reducible refine two_t ?_ ?_); (· (first | rfl | exact a1 | (simp [ofs_eq, a1]; done) | (simp; omega)))) | ((with_reducible refine two_f ?_ ?_); (· (first | rfl | exact a1 | (simp [ofs_eq, a1]; done) | (simp; omega)))) | ((with_reducible show W (run _ _ _ _ _ _ _) _); with_reducible refine W_is (ih) ?_) | done)
      exact ⟨rfl, rfl, rfl⟩
  | .both a b, n, d, k, g, h, h0, h3 => by
    cases n with
    | zero => exact h.elim
    | succ n =>
      have h : a.ok n ∧ b.ok n := h
      have ih1 := is_condition_ok a (n := n) (d := d + 1) (k := k) (g := g) h.1 (by omega) (by omega)
      have ih2 := is_condition_ok b (n := n) (d := d + 1) (k := k) (g := g) h.2 (by omega) (by omega)
      have a1 : decide (3 < d) = false := decide_eq_false (by omega)
      refine W_eq (R_is_condition ?_)
      unfold b_is_condition
      dsimp only [Cond.d]
      repeat' (first | fail | ((with_reducible refine two_t ?_ ?_); (· (first | rfl | exact a1 | (simp [ofs_eq, a1]; done) | (simp; omega)))) | ((with_reducible refine two_f ?_ ?_); (· (first | rfl | exact a1 | (simp [ofs_eq, a1]; done) | (simp; omega)))) | ((with_reducible show W (run _ _ _ _ _ _ _) _); with_reducible refine W_is (ih1) ?_) | ((with_reducible show W (run _ _ _ _ _ _ _) _); with_reducible refine W_is (ih2) ?_) | done)
      exact ⟨rfl, rfl, rfl⟩
end
section
variable [Ht tbl "CONDITIONS" [("is", "qv"), ("not", "c"), ("both", "cc")]] [Ht tbl "WANTS" [("needs", "aa"), ("bars", "ab"), ("ahead", "ab"), ("one", "s"), ("some", "s"), ("when", "ca"), ("only", "ca")]] [Hf fs f_is_condition] [Hf fs f_is_want]
theorem is_want_ok {w : Want} {m : Nat} (hm : m ≤ 1000) (h : w.ok m) : run tbl fs (k + 6) "is_want" false [w.d, .int m] g = some (.bool true, .fr, g) := by
  have asc_len : ∀ {l : Rw}, asc m l → l.length ≤ 1000 := fun {l} h => by
    have h1 : l.length ≤ (List.range m).length := by
      have : (l.map Int.toNat).Nodup := by
        rw [List.nodup_iff_pairwise_ne, List.pairwise_map]
        refine List.Pairwise.imp_of_mem (fun {x y} hx hy hlt => ?_) h.1
        have := h.2 x hx
        have := h.2 y hy
        omega
      have hsub : (l.map Int.toNat) ⊆ List.range m := fun x hx => by
        obtain ⟨y, hy, rfl⟩ := List.mem_map.mp hx
        have := h.2 y hy
        exact List.mem_range.mpr (by omega)
      have := List.Nodup.length_le_of_subset this hsub
      simpa using this
    simp at h1
    omega
  refine W_eq (R_is_want ?_)
  unfold b_is_want
  cases w with
  | needs i j =>
    dsimp only [Want.d]
    have ⟨h1, h2, h3, h4, h5⟩ := h
    repeat' (first | fail | ((with_reducible show W (run _ _ _ _ _ _ _) _); with_reducible refine W_is (is_whole_ok h1 h2) ?_) | ((with_reducible show W (run _ _ _ _ _ _ _) _); with_reducible refine W_is (is_whole_ok h3 h4) ?_) | done)
    exact ⟨by rw [decide_eq_false h5]; rfl, rfl, rfl⟩
  | bars i j =>
    dsimp only [Want.d]
    have ⟨h1, h2, h3, h4, h5⟩ := h
    repeat' (first | fail | ((with_reducible show W (run _ _ _ _ _ _ _) _); with_reducible refine W_is (is_whole_ok h1 h2) ?_) | ((with_reducible show W (run _ _ _ _ _ _ _) _); with_reducible refine W_is (is_whole_ok h3 h4) ?_) | done)
    exact ⟨by rw [decide_eq_false h5]; rfl, rfl, rfl⟩
  | ahead i j =>
    dsimp only [Want.d]
    have ⟨h1, h2, h3, h4, h5⟩ := h
    repeat' (first | fail | ((with_reducible show W (run _ _ _ _ _ _ _) _); with_reducible refine W_is (is_whole_ok h1 h2) ?_) | ((with_reducible show W (run _ _ _ _ _ _ _) _); with_reducible refine W_is (is_whole_ok h3 h4) ?_) | done)
    exact ⟨by rw [decide_eq_false h5]; rfl, rfl, rfl⟩
  | one l =>
    dsimp only [Want.d]
    have ⟨h1, h2⟩ := h
    repeat' (first | fail | ((with_reducible show W (run _ _ _ _ _ _ _) _); with_reducible refine W_is (is_rising_ok h1 (asc_len h1)) ?_) | done)
    exact ⟨by simp [h2], rfl, rfl⟩
  | some l =>
    dsimp only [Want.d]
    have ⟨h1, h2⟩ := h
    repeat' (first | fail | ((with_reducible show W (run _ _ _ _ _ _ _) _); with_reducible refine W_is (is_rising_ok h1 (asc_len h1)) ?_) | done)
    exact ⟨by simp [h2], rfl, rfl⟩
  | when c i =>
    dsimp only [Want.d]
    have ⟨h1, h2, h3⟩ := h
    repeat' (first | fail | ((with_reducible show W (run _ _ _ _ _ _ _) _); with_reducible refine W_is (is_condition_ok (k := k) c h1 (by omega) (by omega)) ?_) | ((with_reducible show W (run _ _ _ _ _ _ _) _); with_reducible refine W_is (is_whole_ok h2 h3) ?_) | done)
    exact ⟨rfl, rfl, rfl⟩
  | only c i =>
    dsimp only [Want.d]
    have ⟨h1, h2, h3⟩ := h
    repeat' (first | fail | ((with_reducible show W (run _ _ _ _ _ _ _) _); with_reducible refine W_is (is_condition_ok (k := k) c h1 (by omega) (by omega)) ?_) | ((with_reducible show W (run _ _ _ _ _ _ _) _); with_reducible refine W_is (is_whole_ok h2 h3) ?_) | done)
    exact ⟨rfl, rfl, rfl⟩
variable [Hf fs f_is_word] [Hf fs f_is_part] [Hf fs f_is_clause] [Hf fs f_need_book]
theorem need_book_ok {b : Book} (h : b.ok) : run tbl fs (k + 7) "need_book" false [b.d] g = some (.none, .fr, g) := by
  refine W_eq (R_need_book ?_)
  unfold b_need_book Book.d
  have n1 := h.n1
  have n8 := h.n8
  have w16 := h.w16
  have a1 : decide (((b.cl.map Clause.d).length : Int) = 0) = false := decide_eq_false (by simp; intro e; rw [e] at n1; simp at n1)
  repeat' (first | fail | ((with_reducible refine two_t ?_ ?_); (· (first | rfl | exact a1 | (simp [ofs_eq, a1]; done) | (simp; omega)))) | ((with_reducible refine two_f ?_ ?_); (· (first | rfl | exact a1 | (simp [ofs_eq, a1]; done) | (simp; omega)))) | done)
  rw [rng_Ri]
  refine for_inv (fun ρ g' => g' = g ∧ ∃ s, ρ = [.imm (.tuple [.tuple (b.cl.map Clause.d), .tuple (b.ws.map Want.d)]), .imm (.int (b.cl.map Clause.d).length), s, .imm (.tuple (b.cl.map Clause.d)), .imm (.tuple (b.ws.map Want.d)), .no]) ⟨rfl, _, rfl⟩ (fun i hi ρ g' h0 => ?_) (fun ρ g' h0 => ?_)
  · obtain ⟨rfl, s, rfl⟩ := h0
    have hi := mem_Ri.mp hi
    simp only [List.length_map] at hi
    have hl : i.toNat < b.cl.length := by omega
    have a2 : decide ((8 : Int) ≤ i) = false := decide_eq_false (by omega)
    have hc := is_clause_ok (tbl := tbl) (fs := fs) (k := k + 3) (g := g') (h.cl _ (List.getElem_mem hl))
    repeat' (first | fail | ((with_reducible refine two_t ?_ ?_); (· (first | rfl | exact a2 | (simp [ofs_eq, a2]; done) | (simp; omega)))) | ((with_reducible refine two_f ?_ ?_); (· (first | rfl | exact a2 | (simp [ofs_eq, a2]; done) | (simp; omega)))) | (refine Is_idx (enc := Clause.d) (a := b.cl[i.toNat]) (by omega) (by simp [hl]) ?_) | done)
    rw [List.length_map]
    repeat' (first | fail | ((with_reducible show W (run _ _ _ _ _ _ _) _); with_reducible refine W_is (hc) ?_) | done)
    exact ⟨rfl, _, rfl⟩
  · obtain ⟨rfl, s, rfl⟩ := h0
    repeat' (first | fail | done)
    rw [rng_Ri]
    refine for_inv (fun ρ g2 => g2 = g' ∧ ∃ s, ρ = [.imm (.tuple [.tuple (b.cl.map Clause.d), .tuple (b.ws.map Want.d)]), .imm (.int (b.cl.map Clause.d).length), s, .imm (.tuple (b.cl.map Clause.d)), .imm (.tuple (b.ws.map Want.d)), .no]) ⟨rfl, _, rfl⟩ (fun i hi ρ g2 h0 => ?_) (fun ρ g2 h0 => ?_)
    · obtain ⟨rfl, s, rfl⟩ := h0
      have hi := mem_Ri.mp hi
      simp only [List.length_map] at hi
      have hl : i.toNat < b.ws.length := by omega
      have a2 : decide ((16 : Int) ≤ i) = false := decide_eq_false (by omega)
      have hc := is_want_ok (tbl := tbl) (fs := fs) (k := k) (g := g2) (by omega) (h.ws _ (List.getElem_mem hl))
      repeat' (first | fail | ((with_reducible refine two_t ?_ ?_); (· (first | rfl | exact a2 | (simp [ofs_eq, a2]; done) | (simp; omega)))) | ((with_reducible refine two_f ?_ ?_); (· (first | rfl | exact a2 | (simp [ofs_eq, a2]; done) | (simp; omega)))) | (refine Is_idx (enc := Want.d) (a := b.ws[i.toNat]) (by omega) (by simp [hl]) ?_) | done)
      rw [List.length_map]
      repeat' (first | fail | ((with_reducible show W (run _ _ _ _ _ _ _) _); with_reducible refine W_is (hc) ?_) | done)
      exact ⟨rfl, _, rfl⟩
    · obtain ⟨rfl, s, rfl⟩ := h0
      repeat' (first | fail | done)
      exact ⟨rfl, rfl, rfl⟩
end
section
variable [Hf fs f_need_answers]
theorem need_answers_ok {a : Rw} (h : ansOk a) : run tbl fs (k + 2) "need_answers" false [rowD a] g = some (.none, .fr, g) := by
  refine W_eq (R_need_answers ?_)
  unfold b_need_answers
  have h1 := h.1
  have a1 : decide (((a.map PyData.int).length : Int) = 3) = true := decide_eq_true (by simp [h1])
  repeat' (first | fail | ((with_reducible refine two_t ?_ ?_); (· (first | rfl | exact a1 | (simp [ofs_eq, a1]; done) | (simp; omega)))) | ((with_reducible refine two_f ?_ ?_); (· (first | rfl | exact a1 | (simp [ofs_eq, a1]; done) | (simp; omega)))) | done)
  refine comp_none (enc := PyData.int) (fun v hv => ?_) ?_
  · refine WT_cmp rfl ?_
    repeat' (first | fail | ((with_reducible show W (run _ _ _ _ _ _ _) _); with_reducible refine W_is (is_whole_ok (h.2 v hv).1 (h.2 v hv).2) ?_) | done)
    rfl
  repeat' (first | fail | done)
  exact ⟨rfl, rfl, rfl⟩
end
section
variable [Hf fs f_need_paper]
end
/-- wishes that can be -/
abbrev wishesOk (m : Nat) (ws : List Wish) : Prop := ws.length ≤ 10 ∧ ∀ w ∈ ws, 0 ≤ w.1 ∧ w.1 < m
section
variable [Hf fs f_need_wishes]
theorem need_wishes_ok {b : Book} {ws : List Wish} (h : wishesOk b.cl.length ws) : run tbl fs (k + 2) "need_wishes" false [b.d, .list (ws.map wishD)] g = some (.none, .fr, g) := by
  refine W_eq (R_need_wishes ?_)
  unfold b_need_wishes Book.d
  have h1 := h.1
  repeat' (first | fail | done)
  rw [rng_Ri]
  refine for_inv (fun ρ g' => g' = g ∧ ∃ s s', ρ = [.imm (.tuple [.tuple (b.cl.map Clause.d), .tuple (b.ws.map Want.d)]), .imm (.list (ws.map wishD)), s, s']) ⟨rfl, _, _, rfl⟩ (fun i hi ρ g' h0 => ?_) (fun ρ g' h0 => ?_)
  · obtain ⟨rfl, s, s', rfl⟩ := h0
    have hi := mem_Ri.mp hi
    simp only [List.length_map] at hi
    have hl : i.toNat < ws.length := by omega
    have a2 : decide ((10 : Int) ≤ i) = false := decide_eq_false (by omega)
    have hw := h.2 _ (List.getElem_mem hl)
    repeat' (first | fail | ((with_reducible refine two_t ?_ ?_); (· (first | rfl | exact a2 | (simp [ofs_eq, a2]; done) | (simp; omega)))) | ((with_reducible refine two_f ?_ ?_); (· (first | rfl | exact a2 | (simp [ofs_eq, a2]; done) | (simp; omega)))) | (refine Is_idxL (enc := wishD) (a := ws[i.toNat]) (by omega) (by simp [hl]) ?_) | done)
    generalize ws[i.toNat] = w at hw
    unfold wishD
    repeat' (first | fail | ((with_reducible refine two_t ?_ ?_); (· (first | rfl | exact a2 | (simp [ofs_eq, a2]; done) | (simp; omega)))) | ((with_reducible refine two_f ?_ ?_); (· (first | rfl | exact a2 | (simp [ofs_eq, a2]; done) | (simp; omega)))) | done)
    rw [List.length_map]
    repeat' (first | fail | ((with_reducible show W (run _ _ _ _ _ _ _) _); with_reducible refine W_is (is_whole_ok hw.1 hw.2) ?_) | done)
    exact ⟨rfl, _, _, rfl⟩
  · obtain ⟨rfl, s, s', rfl⟩ := h0
    repeat' (first | fail | done)
    exact ⟨rfl, rfl, rfl⟩
end
end
end Mi.L
end
section
set_option maxRecDepth 100000
set_option maxHeartbeats 4000000
namespace Mi.L
open PySem PySem.Spec PyProof.Rows L2 Mi.B P
local macro_rules | `(tactic| fail) => `(tactic| (with_reducible refine Is_s (o := List.lookup _ _) rfl ?_))
local macro_rules | `(tactic| fail) => `(tactic| (with_reducible refine Is_s (o := slcD _ _ _) rfl ?_))
local macro_rules | `(tactic| fail) => `(tactic| (with_reducible refine Is_s (o := idxD _ _) rfl ?_))
local macro_rules | `(tactic| fail) => `(tactic| ((with_reducible refine two_f ?_ ?_); (· (first | rfl | (simp [ofs_eq]; done) | (simp; omega)))))
local macro_rules | `(tactic| fail) => `(tactic| ((with_reducible refine two_t ?_ ?_); (· (first | rfl | (simp [ofs_eq]; done) | (simp; omega)))))
local macro_rules | `(tactic| fail) => `(tactic| ((with_reducible show Ap _ _ _ _ _); refine Ap_ok (by exact rfl) (by exact fresh_f) (by (first | omega | (simp; done) | (simp; omega))) (by (try simp only [frz_nil, frz_cons, fz_nil, fz_own, fz_imm, fz_no, fz_row, fz_jk, fz_s, st_z, st_s]); rfl) ?_))
local macro_rules | `(tactic| fail) => `(tactic| ((with_reducible refine Nb_fz ?_ ?_); (· rfl)))
local macro_rules | `(tactic| fail) => `(tactic| ((with_reducible refine Nb_fr ?_ ?_); (· rfl)))
local macro_rules | `(tactic| fail) => `(tactic| (with_reducible refine Nb_f ?_))
local macro_rules | `(tactic| fail) => `(tactic| ((with_reducible refine Dn_ok ?_ ?_); (· rfl)))
local macro_rules | `(tactic| fail) => `(tactic| ((with_reducible refine Sm_ok ?_ ?_); (· (first | omega | (simp; done) | (simp; omega)))))
local macro_rules | `(tactic| fail) => `(tactic| ((with_reducible refine Ln_ok ?_ ?_); (· (first | omega | (simp; done) | (simp; omega)))))
local macro_rules | `(tactic| fail) => `(tactic| ((with_reducible refine put_lz ?_ (by (try simp only [frz_nil, frz_cons, fz_nil, fz_own, fz_imm, fz_no, fz_row, fz_jk, fz_s, st_z, st_s]); rfl) ?_); (· rfl)))
local macro_rules | `(tactic| fail) => `(tactic| ((with_reducible refine put_l ?_ (by (try simp only [frz_nil, frz_cons, fz_nil, fz_own, fz_imm, fz_no, fz_row, fz_jk, fz_s, st_z, st_s]); rfl) ?_); (· rfl)))
local macro_rules | `(tactic| fail) => `(tactic| ((with_reducible refine ret_lz ?_ ?_); (· rfl)))
local macro_rules | `(tactic| fail) => `(tactic| ((with_reducible refine ret_l ?_ ?_); (· rfl)))
local macro_rules | `(tactic| fail) => `(tactic| (with_reducible refine ret_f inferInstance ?_))
local macro_rules | `(tactic| fail) => `(tactic| ((with_reducible refine Is_lenS ?_ ?_); (· decide)))
local macro_rules | `(tactic| fail) => `(tactic| ((with_reducible refine Is_mod ?_ ?_); (· omega)))
local macro_rules | `(tactic| fail) => `(tactic| (with_reducible refine W_getG Ht.h ?_))
local macro_rules | `(tactic| fail) => `(tactic| (with_reducible refine W_inG Ht.h ?_))
local macro_rules | `(tactic| fail) => `(tactic| ((with_reducible refine W_callR ?_ ?_); (· exact rfl)))
local macro_rules | `(tactic| fail) => `(tactic| ((with_reducible show WT (turnF _ _ _ _ _ _ _ _ _) _ _); refine WT_cmp (by exact rfl) ?_))
local macro_rules | `(tactic| fail) => `(tactic| (with_reducible refine W_call0 ?_))
local macro_rules | `(tactic| fail) => `(tactic| ((with_reducible refine W_dget ?_ ?_); (· exact rfl)))
local macro_rules | `(tactic| fail) => `(tactic| ((with_reducible show W (evE _ _ _ (.var _) _) _); refine W_var (by exact rfl) (by first | exact nrm_f | exact nrm_list | exact rfl) ?_))
local macro_rules | `(tactic| fail) => `(tactic| (with_reducible refine put_f (by (try simp only [frz_nil, frz_cons, fz_nil, fz_own, fz_imm, fz_no, fz_row, fz_jk, fz_s, st_z, st_s]); rfl) ?_))
local macro_rules | `(tactic| fail) => `(tactic| (with_reducible refine X_forK (by (try simp only [frz_nil, frz_cons, fz_nil, fz_own, fz_imm, fz_no, fz_row, fz_jk, fz_s, st_z, st_s]); rfl) ?_))
local macro_rules | `(tactic| fail) => `(tactic| (with_reducible refine X_for (by (try simp only [frz_nil, frz_cons, fz_nil, fz_own, fz_imm, fz_no, fz_row, fz_jk, fz_s, st_z, st_s]); rfl) ?_))
local macro_rules | `(tactic| fail) => `(tactic| (with_reducible refine X_tup (by (try simp only [frz_nil, frz_cons, fz_nil, fz_own, fz_imm, fz_no, fz_row, fz_jk, fz_s, st_z, st_s]); rfl) ?_))
local macro_rules | `(tactic| fail) => `(tactic| (with_reducible refine X_asg (by (try simp only [frz_nil, frz_cons, fz_nil, fz_own, fz_imm, fz_no, fz_row, fz_jk, fz_s, st_z, st_s]); rfl) ?_))
local macro_rules | `(tactic| fail) => `(tactic| (with_reducible refine putT3 ?_))
local macro_rules | `(tactic| fail) => `(tactic| (with_reducible refine putT2 ?_))
local macro_rules | `(tactic| fail) => `(tactic| (with_reducible refine putT1 ?_))
local macro_rules | `(tactic| fail) => `(tactic| (with_reducible refine Is_cutL1 ?_))
local macro_rules | `(tactic| fail) => `(tactic| (with_reducible refine Is_cutT1 ?_))
local macro_rules | `(tactic| fail) => `(tactic| (with_reducible refine Is_dkey ?_))
local macro_rules | `(tactic| fail) => `(tactic| (with_reducible refine Is_itL ?_))
local macro_rules | `(tactic| fail) => `(tactic| (with_reducible refine Is_itT ?_))
local macro_rules | `(tactic| fail) => `(tactic| (with_reducible refine Is_intB ?_))
local macro_rules | `(tactic| fail) => `(tactic| (with_reducible refine Is_intI ?_))
local macro_rules | `(tactic| fail) => `(tactic| (with_reducible refine Is_lisL ?_))
local macro_rules | `(tactic| fail) => `(tactic| (with_reducible refine Is_lisT ?_))
local macro_rules | `(tactic| fail) => `(tactic| (with_reducible refine Is_tupT ?_))
local macro_rules | `(tactic| fail) => `(tactic| (with_reducible refine Is_tupL ?_))
local macro_rules | `(tactic| fail) => `(tactic| (with_reducible refine Is_lenL ?_))
local macro_rules | `(tactic| fail) => `(tactic| (with_reducible refine Is_lenT ?_))
local macro_rules | `(tactic| fail) => `(tactic| (with_reducible refine Is_subI ?_))
local macro_rules | `(tactic| fail) => `(tactic| (with_reducible refine Is_addI ?_))
local macro_rules | `(tactic| fail) => `(tactic| (with_reducible refine Is_isiL ?_))
local macro_rules | `(tactic| fail) => `(tactic| (with_reducible refine Is_isiT ?_))
local macro_rules | `(tactic| fail) => `(tactic| (with_reducible refine Is_isiS ?_))
local macro_rules | `(tactic| fail) => `(tactic| (with_reducible refine Is_isiB ?_))
local macro_rules | `(tactic| fail) => `(tactic| (with_reducible refine Is_isiI ?_))
local macro_rules | `(tactic| fail) => `(tactic| (with_reducible refine Is_nin3 ?_))
local macro_rules | `(tactic| fail) => `(tactic| (with_reducible refine Is_in3 ?_))
local macro_rules | `(tactic| fail) => `(tactic| (with_reducible refine Is_nin2 ?_))
local macro_rules | `(tactic| fail) => `(tactic| (with_reducible refine Is_in2 ?_))
local macro_rules | `(tactic| fail) => `(tactic| (with_reducible refine Is_ninL ?_))
local macro_rules | `(tactic| fail) => `(tactic| (with_reducible refine Is_nin ?_))
local macro_rules | `(tactic| fail) => `(tactic| (with_reducible refine Is_scp ?_))
local macro_rules | `(tactic| fail) => `(tactic| (with_reducible refine Is_cpT ?_))
local macro_rules | `(tactic| fail) => `(tactic| (with_reducible refine Is_cpL ?_))
local macro_rules | `(tactic| fail) => `(tactic| (with_reducible refine Is_inL ?_))
local macro_rules | `(tactic| fail) => `(tactic| (with_reducible refine Is_in ?_))
local macro_rules | `(tactic| fail) => `(tactic| (with_reducible refine Is_geI ?_))
local macro_rules | `(tactic| fail) => `(tactic| (with_reducible refine Is_leI ?_))
local macro_rules | `(tactic| fail) => `(tactic| (with_reducible refine Is_gtI ?_))
local macro_rules | `(tactic| fail) => `(tactic| (with_reducible refine Is_ltI ?_))
local macro_rules | `(tactic| fail) => `(tactic| (with_reducible refine Is_neB ?_))
local macro_rules | `(tactic| fail) => `(tactic| (with_reducible refine Is_eqB ?_))
local macro_rules | `(tactic| fail) => `(tactic| (with_reducible refine Is_neNilT ?_))
local macro_rules | `(tactic| fail) => `(tactic| (with_reducible refine Is_eqNilT ?_))
local macro_rules | `(tactic| fail) => `(tactic| (with_reducible refine Is_neNil ?_))
local macro_rules | `(tactic| fail) => `(tactic| (with_reducible refine Is_eqNil ?_))
local macro_rules | `(tactic| fail) => `(tactic| (with_reducible refine Is_neS ?_))
local macro_rules | `(tactic| fail) => `(tactic| (with_reducible refine Is_eqS ?_))
local macro_rules | `(tactic| fail) => `(tactic| (with_reducible refine Is_neI ?_))
local macro_rules | `(tactic| fail) => `(tactic| (with_reducible refine Is_eqI ?_))
local macro_rules | `(tactic| fail) => `(tactic| (with_reducible refine IS_s ?_))
local macro_rules | `(tactic| fail) => `(tactic| (with_reducible refine II_i ?_))
local macro_rules | `(tactic| fail) => `(tactic| (with_reducible refine IB_b ?_))
local macro_rules | `(tactic| fail) => `(tactic| (with_reducible refine ILs_l ?_))
local macro_rules | `(tactic| fail) => `(tactic| (with_reducible refine X_dnew ?_))
local macro_rules | `(tactic| fail) => `(tactic| (with_reducible refine X_tryR ?_))
local macro_rules | `(tactic| fail) => `(tactic| (with_reducible refine X_retX ?_))
local macro_rules | `(tactic| fail) => `(tactic| (with_reducible refine X_raiC ?_))
local macro_rules | `(tactic| fail) => `(tactic| (with_reducible refine X_sto ?_))
local macro_rules | `(tactic| fail) => `(tactic| (with_reducible refine X_ins ?_))
local macro_rules | `(tactic| fail) => `(tactic| (with_reducible refine X_apo ?_))
local macro_rules | `(tactic| fail) => `(tactic| (with_reducible refine X_pas ?_))
local macro_rules | `(tactic| fail) => `(tactic| (with_reducible refine X_spo ?_))
local macro_rules | `(tactic| fail) => `(tactic| (with_reducible refine X_ext ?_))
local macro_rules | `(tactic| fail) => `(tactic| (with_reducible refine X_rem ?_))
local macro_rules | `(tactic| fail) => `(tactic| (with_reducible refine X_app ?_))
local macro_rules | `(tactic| fail) => `(tactic| (with_reducible refine X_par3 ?_))
local macro_rules | `(tactic| fail) => `(tactic| (with_reducible refine X_par2 ?_))
local macro_rules | `(tactic| fail) => `(tactic| (with_reducible refine X_exp ?_))
local macro_rules | `(tactic| fail) => `(tactic| (with_reducible refine X_whl ?_))
local macro_rules | `(tactic| fail) => `(tactic| (with_reducible refine X_ret ?_))
local macro_rules | `(tactic| fail) => `(tactic| (with_reducible refine X_ite ?_))
local macro_rules | `(tactic| fail) => `(tactic| (with_reducible refine X_nil ?_))
local macro_rules | `(tactic| fail) => `(tactic| (with_reducible refine X_cons ?_))
local macro_rules | `(tactic| fail) => `(tactic| (with_reducible refine CL_cons ?_))
local macro_rules | `(tactic| fail) => `(tactic| (with_reducible refine CL_nil ?_))
local macro_rules | `(tactic| fail) => `(tactic| (with_reducible refine WC_evB ?_))
local macro_rules | `(tactic| fail) => `(tactic| (with_reducible refine WI_rng3 ?_))
local macro_rules | `(tactic| fail) => `(tactic| (with_reducible refine WI_rng2 ?_))
local macro_rules | `(tactic| fail) => `(tactic| (with_reducible refine WI_rng1 ?_))
local macro_rules | `(tactic| fail) => `(tactic| (with_reducible refine WI_val ?_))
local macro_rules | `(tactic| fail) => `(tactic| (with_reducible refine WC_cons ?_))
local macro_rules | `(tactic| fail) => `(tactic| (with_reducible refine WC_nil ?_))
local macro_rules | `(tactic| fail) => `(tactic| (with_reducible refine WO_cons ?_))
local macro_rules | `(tactic| fail) => `(tactic| (with_reducible refine WO_nil ?_))
local macro_rules | `(tactic| fail) => `(tactic| (with_reducible refine WL_cons ?_))
local macro_rules | `(tactic| fail) => `(tactic| (with_reducible refine WL_nil ?_))
local macro_rules | `(tactic| fail) => `(tactic| (with_reducible refine W_sset ?_))
local macro_rules | `(tactic| fail) => `(tactic| (with_reducible refine W_scp ?_))
local macro_rules | `(tactic| fail) => `(tactic| (with_reducible refine W_lcp ?_))
local macro_rules | `(tactic| fail) => `(tactic| (with_reducible refine W_lrg ?_))
local macro_rules | `(tactic| fail) => `(tactic| (with_reducible refine W_meth ?_))
local macro_rules | `(tactic| fail) => `(tactic| (with_reducible refine W_join ?_))
local macro_rules | `(tactic| fail) => `(tactic| (with_reducible refine W_isq ?_))
local macro_rules | `(tactic| fail) => `(tactic| (with_reducible refine W_neg ?_))
local macro_rules | `(tactic| fail) => `(tactic| (with_reducible refine W_slc ?_))
local macro_rules | `(tactic| fail) => `(tactic| (with_reducible refine W_noN ?_))
local macro_rules | `(tactic| fail) => `(tactic| (with_reducible refine W_isN ?_))
local macro_rules | `(tactic| fail) => `(tactic| (with_reducible refine W_chn ?_))
local macro_rules | `(tactic| fail) => `(tactic| (with_reducible refine W_isi ?_))
local macro_rules | `(tactic| fail) => `(tactic| (with_reducible refine W_bi ?_))
local macro_rules | `(tactic| fail) => `(tactic| (with_reducible refine W_comp ?_))
local macro_rules | `(tactic| fail) => `(tactic| (with_reducible refine W_lst ?_))
local macro_rules | `(tactic| fail) => `(tactic| (with_reducible refine W_tup ?_))
local macro_rules | `(tactic| fail) => `(tactic| (with_reducible refine W_ite ?_))
local macro_rules | `(tactic| fail) => `(tactic| (with_reducible refine W_not ?_))
local macro_rules | `(tactic| fail) => `(tactic| (with_reducible refine W_or ?_))
local macro_rules | `(tactic| fail) => `(tactic| (with_reducible refine W_and ?_))
local macro_rules | `(tactic| fail) => `(tactic| (with_reducible refine W_sub ?_))
local macro_rules | `(tactic| fail) => `(tactic| (with_reducible refine W_cmp ?_))
local macro_rules | `(tactic| fail) => `(tactic| (with_reducible refine W_bin ?_))
local macro_rules | `(tactic| fail) => `(tactic| (with_reducible refine W_glo ?_))
local macro_rules | `(tactic| fail) => `(tactic| (with_reducible refine W_cst ?_))
variable {tbl : TblS} {fs : List Fd} {k : Nat} {g : G}
theorem at0_some {a : Rw} {i : Int} {n : Nat} (hl : a.length = n) (h0 : 0 ≤ i) (h1 : i < n) : a[i.toNat]? = some (at0 a i) := by
  have : i.toNat < a.length := by omega
  unfold at0
  rw [List.getElem?_eq_getElem this]
  rfl
theorem cond_ok_le : ∀ {c : Cond} {n m : Nat}, n ≤ m → c.ok n → c.ok m
  | .is q v, n, m, _, h => by cases n <;> cases m <;> exact h
  | .not c, 0, m, _, h => h.elim
  | .not c, n + 1, 0, h, _ => by omega
  | .not c, n + 1, m + 1, hl, h => cond_ok_le (c := c) (by omega) (show c.ok n from h)
  | .both a b, 0, m, _, h => h.elim
  | .both a b, n + 1, 0, h, _ => by omega
  | .both a b, n + 1, m + 1, hl, h => ⟨cond_ok_le (c := a) (by omega) h.1, cond_ok_le (c := b) (by omega) h.2⟩
section
variable [Hf fs f_is_so]
theorem is_so_run : ∀ (c : Cond) {n : Nat} {a : Rw} {k : Nat} {g : G}, c.ok n → ansOk a → run tbl fs (k + n + 1) "is_so" false [c.d, rowD a] g = some (.bool (c.so a), .fr, g)
  | .is q v, n, a, k, g, h, ha => by
    have h : 0 ≤ q ∧ q < 3 ∧ 0 ≤ v ∧ v < 3 := by cases n <;> exact h
    refine W_eq (R_is_so ?_)
    unfold b_is_so
    dsimp only [Cond.d]
    repeat' (first | fail | (refine Is_idx (enc := PyData.int) (a := at0 a q) h.1 (at0_some ha.1 h.1 h.2.1) ?_) | done)
    exact ⟨rfl, rfl, rfl⟩
  | .not c, n, a, k, g, h, ha => by
    cases n with
    | zero => exact h.elim
    | succ n =>
      have ih := is_so_run c (n := n) (k := k) (g := g) h ha
      refine W_eq (R_is_so ?_)
      unfold b_is_so
      dsimp only [Cond.d]
      repeat' (first | fail | ((with_reducible show W (run _ _ _ _ _ _ _) _); with_reducible refine W_is (ih) ?_) | done)
      exact ⟨rfl, rfl, rfl⟩
  | .both c d, n, a, k, g, h, ha => by
    cases n with
    | zero => exact h.elim
    | succ n =>
      have h : c.ok n ∧ d.ok n := h
      have ih1 := is_so_run c (n := n) (k := k) (g := g) h.1 ha
      have ih2 := is_so_run d (n := n) (k := k) (g := g) h.2 ha
      refine W_eq (R_is_so ?_)
      unfold b_is_so
      dsimp only [Cond.d]
      repeat' (first | fail | ((with_reducible show W (run _ _ _ _ _ _ _) _); with_reducible refine W_is (ih1) ?_) | ((with_reducible show W (run _ _ _ _ _ _ _) _); with_reducible refine W_is (ih2) ?_) | (with_reducible refine two (fun _ => ?_) (fun _ => ?_)) | done)
      all_goals (refine ⟨?_, rfl, rfl⟩; simp_all [Cond.so])
variable [Hf fs f_keeps]
theorem keeps_run {w : Want} {m : Int} {a p : Rw} (h : w.ok m) (ha : ansOk a) : run tbl fs (k + 5) "keeps" false [w.d, rowD a, rowD p] g = some (.bool (w.keeps a p), .fr, g) := by
  refine W_eq (R_keeps ?_)
  unfold b_keeps
  cases w with
  | needs i j =>
    dsimp only [Want.d]
    repeat' (first | fail | (with_reducible refine two (fun _ => ?_) (fun _ => ?_)) | done)
    all_goals (refine ⟨?_, rfl, rfl⟩; unfold Want.keeps; simp_all [ofs_eq])
  | bars i j =>
    dsimp only [Want.d]
    repeat' (first | fail | (with_reducible refine two (fun _ => ?_) (fun _ => ?_)) | done)
    all_goals (refine ⟨?_, rfl, rfl⟩; unfold Want.keeps; simp_all [ofs_eq])
  | ahead i j =>
    dsimp only [Want.d]
    repeat' (first | fail | done)
    exact ⟨rfl, rfl, rfl⟩
  | one l =>
    dsimp only [Want.d]
    repeat' (first | fail | done)
    refine comp_filter (enc := PyData.int) (has p) (fun x hx => ?_) ?_
    · refine WT_cmp rfl ?_
      repeat' (first | fail | (with_reducible refine two (fun _ => ?_) (fun _ => ?_)) | done)
      · exact ⟨by assumption, rfl, rfl, rfl⟩
      · exact ⟨by assumption, rfl⟩
    · repeat' (first | fail | done)
      refine ⟨?_, rfl, rfl⟩
      unfold Want.keeps
      rw [List.length_map]
      congr 1
      rw [Bool.eq_iff_iff]
      simp
      omega
  | some l =>
    dsimp only [Want.d]
    repeat' (first | fail | done)
    refine comp_filter (enc := PyData.int) (has p) (fun x hx => ?_) ?_
    · refine WT_cmp rfl ?_
      repeat' (first | fail | (with_reducible refine two (fun _ => ?_) (fun _ => ?_)) | done)
      · exact ⟨by assumption, rfl, rfl, rfl⟩
      · exact ⟨by assumption, rfl⟩
    · repeat' (first | fail | done)
      refine ⟨?_, rfl, rfl⟩
      unfold Want.keeps
      rw [List.length_map]
      congr 1
      rw [Bool.eq_iff_iff]
      simp
  | when c i =>
    dsimp only [Want.d]
    have h : c.ok 3 ∧ 0 ≤ i ∧ i < m := h
    repeat' (first | fail | ((with_reducible show W (run _ _ _ _ _ _ _) _); with_reducible refine W_is (is_so_run (k := k) c h.1 ha) ?_) | (with_reducible refine two (fun _ => ?_) (fun _ => ?_)) | done)
    all_goals (refine ⟨?_, rfl, rfl⟩; unfold Want.keeps; simp_all [ofs_eq])
  | only c i =>
    dsimp only [Want.d]
    have h : c.ok 3 ∧ 0 ≤ i ∧ i < m := h
    repeat' (first | fail | ((with_reducible show W (run _ _ _ _ _ _ _) _); with_reducible refine W_is (is_so_run (k := k) c h.1 ha) ?_) | (with_reducible refine two (fun _ => ?_) (fun _ => ?_)) | done)
    all_goals (refine ⟨?_, rfl, rfl⟩; unfold Want.keeps; simp_all [ofs_eq])
end
section
variable [Hf fs f_cites]
theorem cl_at {b : Book} {i : Int} (h0 : 0 ≤ i) (h1 : i < b.cl.length) : ∃ c, b.cl[i.toNat]? = some c ∧ c ∈ b.cl ∧ b.cites i = c.cites ∧ b.ch i = c.ch := by
  have : i.toNat < b.cl.length := by omega
  refine ⟨b.cl[i.toNat], List.getElem?_eq_getElem this, List.getElem_mem this, ?_, ?_⟩
  · unfold Book.cites
    rw [List.getElem?_eq_getElem this]; rfl
  · unfold Book.ch
    rw [List.getElem?_eq_getElem this]; rfl
theorem cites_run {b : Book} {i : Int} (h0 : 0 ≤ i) (h1 : i < b.cl.length) : run tbl fs (k + 1) "cites" false [b.d, .int i] g = some (.list ((b.cites i).map PyData.int), .fr, g) := by
  obtain ⟨c, e, _, e2, _⟩ := cl_at h0 h1
  rw [e2]
  refine W_eq (R_cites ?_)
  unfold b_cites Book.d
  repeat' (first | fail | (refine Is_idx (enc := Clause.d) (a := c) h0 e ?_) | done)
  dsimp only [Clause.d]
  repeat' (first | fail | done)
  refine comp_fm (enc := Part.d) (fun q : Part => q.cites.map PyData.int) (fun q hq => ?_) ?_
  · refine WT_cmp rfl ?_
    cases q with
    | fill n =>
      dsimp only [Part.d]
      repeat' (first | fail | done)
      exact ⟨rfl, rfl⟩
    | cite n =>
      dsimp only [Part.d]
      repeat' (first | fail | done)
      exact ⟨rfl, rfl, rfl⟩
    | text l =>
      dsimp only [Part.d, wordD]
      repeat' (first | fail | done)
      exact ⟨rfl, rfl⟩
  · repeat' (first | fail | done)
    refine ⟨?_, rfl, rfl⟩
    unfold Clause.cites
    rw [List.map_filterMap]
theorem any_filter {α : Type} {f : α → Bool} {l : List α} : (!(l.filter f).isEmpty) = l.any f := by
  induction l with
  | nil => rfl
  | cons a l ih =>
    rw [List.filter_cons, List.any_cons]
    cases f a with
    | true => rfl
    | false => simpa using ih
/-- the clauses of a paper that cite one that isn't there -/
theorem uncited_ask {b : Book} {p : Rw} {i : Int} : (!(((b.cites i).filter fun j => !has p j).map PyData.int).isEmpty) = b.uncited p i := by
  rw [List.isEmpty_map, any_filter]
  rfl
end
section
variable [Hf fs f_cites] [Hf fs f_all_cited]
theorem all_cited_run {b : Book} {p : Rw} (h : asc b.cl.length p) : run tbl fs (k + 2) "all_cited" false [b.d, rowD p] g = some (.bool (b.cited p), .fr, g) := by
  refine W_eq (R_all_cited ?_)
  unfold b_all_cited
  repeat' (first | fail | done)
  refine for_gen (enc := PyData.int) (fun pre ρ g' => g' = g ∧ b.cited p = (p.drop pre.length).all (fun i => !b.uncited p i) ∧ ∃ s s', ρ = [.imm b.d, .imm (rowD p), s, s']) ⟨rfl, rfl, _, _, rfl⟩ (fun pre i post e ρ g' h0 => ?_) (fun ρ g' h0 => ?_)
  · obtain ⟨rfl, h1, s, s', rfl⟩ := h0
    have hi : i ∈ p := by rw [e]; simp
    have hb := h.2 i hi
    have hd : p.drop pre.length = i :: post := by rw [e]; simp
    rw [hd, List.all_cons] at h1
    repeat' (first | fail | ((with_reducible show W (run _ _ _ _ _ _ _) _); with_reducible refine W_is (cites_run hb.1 hb.2) ?_) | done)
    refine comp_filter (enc := PyData.int) (fun j => !has p j) (fun x hx => ?_) ?_
    · refine WT_cmp rfl ?_
      repeat' (first | fail | (with_reducible refine two (fun _ => ?_) (fun _ => ?_)) | done)
      · exact ⟨by assumption, rfl, rfl, rfl⟩
      · exact ⟨by assumption, rfl⟩
    · repeat' (first | fail | done)
      rw [uncited_ask]
      refine two (fun hu => ?_) (fun hu => ?_)
      · rw [hu] at h1
        repeat' (first | fail | done)
        exact ⟨by rw [h1]; rfl, rfl, rfl⟩
      · rw [hu] at h1
        repeat' (first | fail | done)
        refine ⟨rfl, ?_, _, _, rfl⟩
        rw [h1, e]
        simp
  · obtain ⟨rfl, h1, s, s', rfl⟩ := h0
    repeat' (first | fail | done)
    exact ⟨by rw [h1]; simp, rfl, rfl⟩
end
section
variable [Hf fs f_pairs_ahead]
theorem pairs_ahead_run {b : Book} {p : Rw} (hw : b.ws.length ≤ 1000) : run tbl fs (k + 1) "pairs_ahead" false [b.d, rowD p] g = some (.list ((b.pairs p).map pairD), .fr, g) := by
  refine W_eq (R_pairs_ahead ?_)
  unfold b_pairs_ahead
  repeat' (first | fail | done)
  refine for_gen (enc := Want.d) (fun pre ρ g' => g' = g ∧ ∃ s, ρ = [.imm b.d, .imm (rowD p), .own (.list ((pre.filterMap (Book.aheadOf p)).map pairD)), s]) ⟨rfl, _, rfl⟩ (fun pre w post e ρ g' h0 => ?_) (fun ρ g' h0 => ?_)
  · obtain ⟨rfl, s, rfl⟩ := h0
    have hlen : (pre.filterMap (Book.aheadOf p)).length ≤ 1000 := by
      have h1 := List.length_filterMap_le (Book.aheadOf p) pre
      have h2 : pre.length ≤ b.ws.length := by rw [e]; simp
      omega
    rw [List.filterMap_append]
    cases w with
    | ahead i j =>
      dsimp only [Want.d]
      repeat' (first | fail | (with_reducible refine two (fun _ => ?_) (fun _ => ?_)) | done)
      · rename_i h1 h2
        rw [show [Want.ahead i j].filterMap (Book.aheadOf p) = [(i, j)] by simp [Book.aheadOf, h1, h2], List.map_append]
        exact ⟨rfl, _, rfl⟩
      · rename_i h1 h2
        rw [show [Want.ahead i j].filterMap (Book.aheadOf p) = [] by simp [Book.aheadOf, h2], List.append_nil]
        exact ⟨rfl, _, rfl⟩
      · rename_i h1
        rw [show [Want.ahead i j].filterMap (Book.aheadOf p) = [] by simp [Book.aheadOf, h1], List.append_nil]
        exact ⟨rfl, _, rfl⟩
    | _ =>
      dsimp only [Want.d]
      repeat' (first | fail | done)
      simp only [List.filterMap_cons, List.filterMap_nil, Book.aheadOf, List.append_nil]
      exact ⟨trivial, _, rfl⟩
  · obtain ⟨rfl, s, rfl⟩ := h0
    repeat' (first | fail | done)
    exact ⟨rfl, rfl, rfl⟩
end
section
variable [Hf fs f_pairs_ahead] [Hf fs f_order]
/-- the least of some of a book's clauses, by chapter and number -/
theorem best_run {b : Book} {x : Int} {xs : Rw} : leastD ((x :: xs).map fun o => PyData.tuple [.int (b.ch o), .int o]) = some (.tuple [.int (b.ch (b.best x xs)), .int (b.best x xs)]) := by
  have := least_of (enc := fun q : Int × Int => PyData.tuple [.int q.1, .int q.2]) (fun q r => decide (q.1 < r.1 ∨ (q.1 = r.1 ∧ q.2 < r.2))) (fun a b => PySem.W.dataLt_ii a.1 a.2 b.1 b.2) (fun _ => rfl) (n := 1) (by decide) (x := (b.ch x, x)) (xs := xs.map fun o => (b.ch o, o))
  have e : ((b.ch x, x) :: xs.map fun o => (b.ch o, o)).map (fun q : Int × Int => PyData.tuple [.int q.1, .int q.2]) = (x :: xs).map fun o => PyData.tuple [.int (b.ch o), .int o] := by
    rw [List.map_cons, List.map_map, List.map_cons]
    rfl
  rw [← e, this]
  congr 1
  have key : ∀ (xs : Rw) (x : Int), (xs.map fun o => (b.ch o, o)).foldl (fun a y => if decide (y.1 < a.1 ∨ (y.1 = a.1 ∧ y.2 < a.2)) = true then y else a) (b.ch x, x) = (b.ch (b.best x xs), b.best x xs) := by
    intro xs
    induction xs with
    | nil => intro x; rfl
    | cons y ys ih =>
      intro x
      rw [List.map_cons, List.foldl_cons]
      have : (if decide ((b.ch y, y).1 < (b.ch x, x).1 ∨ ((b.ch y, y).1 = (b.ch x, x).1 ∧ (b.ch y, y).2 < (b.ch x, x).2)) = true then (b.ch y, y) else (b.ch x, x)) = (b.ch (if b.lt y x then y else x), if b.lt y x then y else x) := by
        have h1 : b.lt y x = decide (b.ch y < b.ch x ∨ (b.ch y = b.ch x ∧ y < x)) := by
          rw [Bool.eq_iff_iff, Book.lt_iff, decide_eq_true_iff]
        rw [h1]
        split <;> rfl
      rw [this, ih]
      rfl
  rw [key]
def orderD (o : Option Rw) : D := match o with
  | some f => .list (f.map PyData.int)
  | none => .none
def orderT (o : Option Rw) : Tag := match o with
  | some _ => .fz
  | none => .fr
theorem order_run {b : Book} {p : Rw} (h : asc b.cl.length p) (hp : p.length ≤ 900) (hw : b.ws.length ≤ 1000) : run tbl fs (k + 2) "order" false [b.d, rowD p] g = some (orderD (b.order p), orderT (b.order p), g) := by
  refine W_eq (R_order ?_)
  unfold b_order
  repeat' (first | fail | ((with_reducible show W (run _ _ _ _ _ _ _) _); with_reducible refine W_is (pairs_ahead_run hw) ?_) | done)
  refine while_gen (fun n ρ g' => g' = g ∧ ∃ (left found : Rw) (s3 s5 s6 s7 : Sl), n = left.length ∧ b.goO (b.pairs p) p.length p [] = b.goO (b.pairs p) left.length left found ∧ (∀ x ∈ left, x ∈ p) ∧ (∀ x ∈ found, x ∈ p) ∧ found.length + left.length = p.length ∧ (s3 = .own (.list ((b.pairs p).map pairD)) ∨ s3 = .imm (.list ((b.pairs p).map pairD))) ∧ ρ = [.imm b.d, .imm (rowD p), .own (.list (left.map PyData.int)), s3, .own (.list (found.map PyData.int)), s5, s6, s7, .no, .no]) ?_ _ p.length (by omega) ⟨rfl, p, [], _, _, _, _, rfl, rfl, fun _ h => h, by simp, by simp, .inl rfl, rfl⟩
  rintro n ρ g' ⟨rfl, left, found, s3, s5, s6, s7, rfl, hgo, hleft, hfound, hlen, h3, rfl⟩
  repeat' (first | fail | done)
  cases left with
  | nil =>
    refine two_f rfl ?_
    have ef : b.order p = b.fin (some found) := by
      unfold Book.order
      rw [hgo]
      rfl
    repeat' (first | fail | done)
    refine comp_map (enc := PyData.int) (fun o => PyData.int (b.ch o)) (fun o ho => ?_) ?_
    · refine WT_cmp rfl ?_
      have hb := h.2 o (hfound o ho)
      obtain ⟨c, e1, e2, e3, e4⟩ := cl_at hb.1 hb.2
      rw [e4]
      unfold Book.d
      repeat' (first | fail | (refine Is_idx (enc := Clause.d) (a := c) hb.1 e1 ?_) | done)
      dsimp only [Clause.d]
      repeat' (first | fail | done)
      exact ⟨rfl, rfl, rfl⟩
    · have hs : biD .sorted [.list ((found.map b.ch).map PyData.int)] = some (.list (((found.map b.ch).mergeSort leI).map PyData.int)) := by
        show (sortD _).map PyData.list = _
        rw [sort_ints (by simp at hlen ⊢; unfold LINE; omega)]
        rfl
      have e1 : found.map (fun o => PyData.int (b.ch o)) = (found.map b.ch).map PyData.int := by rw [List.map_map]; rfl
      rw [e1]
      repeat' (first | fail | (refine Is_s hs ?_) | (refine Is_eqE (enc := fun l : List Int => PyData.list (l.map PyData.int)) (a := found.map b.ch) (b := (found.map b.ch).mergeSort leI) (by decide) ?_) | done)
      refine two (fun hu => ?_) (fun hu => ?_)
      · have hr : Book.rises (found.map b.ch) = true := by
          rw [rises_iff]
          exact sortI_eq.mp (of_decide_eq_true hu)
        repeat' (first | fail | done)
        have ef : b.order p = some found := ef.trans (if_pos hr)
        rw [ef]
        exact ⟨rfl, rfl, rfl⟩
      · have hr : ¬ Book.rises (found.map b.ch) = true := by
          rw [rises_iff]
          intro hh
          exact (of_decide_eq_false hu) (sortI_eq.mpr hh)
        repeat' (first | fail | done)
        have ef : b.order p = none := ef.trans (if_neg hr)
        rw [ef]
        exact ⟨rfl, rfl, rfl⟩
  | cons z zs =>
    refine two_t rfl ?_
    have main : ∀ s3, (s3 = Sl.own (.list ((b.pairs p).map pairD)) ∨ s3 = Sl.imm (.list ((b.pairs p).map pairD))) → frz [.imm b.d, .imm (rowD p), .own (.list ((z :: zs).map PyData.int)), s3, .own (.list (found.map PyData.int)), s5, s6, s7, .no, .no] [8, 9, 3] = [.imm b.d, .imm (rowD p), .own (.list ((z :: zs).map PyData.int)), .imm (.list ((b.pairs p).map pairD)), .own (.list (found.map PyData.int)), s5, s6, s7, .no, .no] := by
      rintro s3 (rfl | rfl) <;> rfl
    refine X_cons (X_asg (main s3 h3) ?_)
    repeat' (first | fail | done)
    refine comp_filter (enc := PyData.int) (fun o => !((b.pairs p).any fun q => q.2 == o && has (z :: zs) q.1)) (fun o ho => ?_) ?_
    · refine WT_cmp rfl ?_
      repeat' (first | fail | done)
      refine comp_filter (enc := pairD) (fun q => q.2 == o && has (z :: zs) q.1) (fun q hq => ?_) ?_
      · refine WT_cmp rfl ?_
        unfold pairD
        repeat' (first | fail | (with_reducible refine two (fun _ => ?_) (fun _ => ?_)) | done)
        · exact ⟨by simp_all, rfl, rfl, rfl⟩
        · refine ⟨?_, rfl⟩
          simp_all
        · refine ⟨?_, rfl⟩
          simp_all
      · repeat' (first | fail | done)
        rw [List.isEmpty_map]
        have e1 := any_filter (f := fun q : Int × Int => q.2 == o && has (z :: zs) q.1) (l := b.pairs p)
        refine two (fun hu => ?_) (fun hu => ?_)
        · rw [hu] at e1
          repeat' (first | fail | done)
          exact ⟨by rw [← e1]; rfl, rfl, rfl, rfl⟩
        · rw [hu] at e1
          exact ⟨by rw [← e1]; rfl, rfl⟩
    · have ef : (z :: zs).filter (fun o => !((b.pairs p).any fun q => q.2 == o && has (z :: zs) q.1)) = Book.free (b.pairs p) (z :: zs) := rfl
      rw [ef]
      repeat' (first | fail | done)
      have hg : b.goO (b.pairs p) (z :: zs).length (z :: zs) found = (match Book.free (b.pairs p) (z :: zs) with
        | [] => none
        | x :: xs => b.goO (b.pairs p) zs.length ((z :: zs).erase (b.best x xs)) (found ++ [b.best x xs])) := rfl
      cases hF : Book.free (b.pairs p) (z :: zs) with
      | nil =>
        have eo : b.order p = none := by
          unfold Book.order
          rw [hgo, hg, hF]
          rfl
        refine two_t rfl ?_
        repeat' (first | fail | done)
        rw [eo]
        exact ⟨rfl, rfl, rfl⟩
      | cons x xs =>
        refine two_f rfl ?_
        repeat' (first | fail | done)
        have hsub : ∀ o ∈ x :: xs, o ∈ z :: zs := fun o ho => by
          rw [← hF] at ho
          exact (List.mem_filter.mp ho).1
        refine comp_map (enc := PyData.int) (fun o => PyData.tuple [.int (b.ch o), .int o]) (fun o ho => ?_) ?_
        · refine WT_cmp rfl ?_
          have hb := h.2 o (hleft o (hsub o ho))
          obtain ⟨c, e1, e2, e3, e4⟩ := cl_at hb.1 hb.2
          rw [e4]
          unfold Book.d
          repeat' (first | fail | (refine Is_idx (enc := Clause.d) (a := c) hb.1 e1 ?_) | done)
          dsimp only [Clause.d]
          repeat' (first | fail | done)
          exact ⟨rfl, rfl, rfl⟩
        · have hm : biD .min [.list ((x :: xs).map fun o => PyData.tuple [.int (b.ch o), .int o])] = some (.tuple [.int (b.ch (b.best x xs)), .int (b.best x xs)]) := best_run
          have hbm : b.best x xs ∈ z :: zs := hsub _ (Book.best_mem ..)
          obtain ⟨j, p1, p2⟩ := place_int hbm
          repeat' (first | fail | (refine Is_s hm ?_) | done)
          have d0 := (inferInstance : Dps ((z :: zs).map PyData.int) 0).h
          have d1 : min (PyData.depthAll ((z :: zs).map PyData.int)) (PyData.depth (.int (b.best x xs))) ≤ 60 := by omega
          have hl : ((z :: zs).erase (b.best x xs)).length = zs.length := by
            rw [List.length_erase_of_mem hbm]; rfl
          refine Re_ok (ds := (z :: zs).map PyData.int) rfl d1 p1 ?_
          rw [p2]
          refine X_nil ⟨zs.length, by simp, rfl, (z :: zs).erase (b.best x xs), found ++ [b.best x xs], .imm (.list ((b.pairs p).map pairD)), s5, .imm (.list ((x :: xs).map PyData.int)), .imm (.int (b.best x xs)), hl.symm, ?_, ?_, ?_, ?_, .inr rfl, ?_⟩
          · rw [hl, hgo, hg, hF]
          · intro o ho
            exact hleft o (List.mem_of_mem_erase ho)
          · intro o ho
            rcases List.mem_append.mp ho with q | q
            · exact hfound o q
            · rw [List.mem_singleton.mp q]
              exact hleft _ hbm
          · rw [hl, List.length_append]
            simp only [List.length_cons, List.length_nil] at hlen ⊢
            omega
          · rw [List.map_append]
            rfl
end
end Mi.L
end
section
set_option maxRecDepth 100000
set_option maxHeartbeats 1000000
namespace Mi.L
open PySem PySem.Spec PyProof.Rows L2 Mi.B P
local macro_rules | `(tactic| fail) => `(tactic| (with_reducible refine Is_s (o := List.lookup _ _) rfl ?_))
local macro_rules | `(tactic| fail) => `(tactic| (with_reducible refine Is_s (o := slcD _ _ _) rfl ?_))
local macro_rules | `(tactic| fail) => `(tactic| (with_reducible refine Is_s (o := idxD _ _) rfl ?_))
local macro_rules | `(tactic| fail) => `(tactic| ((with_reducible refine two_f ?_ ?_); (· (first | rfl | (simp [ofs_eq]; done) | (simp; omega)))))
local macro_rules | `(tactic| fail) => `(tactic| ((with_reducible refine two_t ?_ ?_); (· (first | rfl | (simp [ofs_eq]; done) | (simp; omega)))))
local macro_rules | `(tactic| fail) => `(tactic| ((with_reducible show Ap _ _ _ _ _); refine Ap_ok (by exact rfl) (by exact fresh_f) (by (first | omega | (simp; done) | (simp; omega))) (by (try simp only [frz_nil, frz_cons, fz_nil, fz_own, fz_imm, fz_no, fz_row, fz_jk, fz_s, st_z, st_s]); rfl) ?_))
local macro_rules | `(tactic| fail) => `(tactic| ((with_reducible refine Nb_fz ?_ ?_); (· rfl)))
local macro_rules | `(tactic| fail) => `(tactic| ((with_reducible refine Nb_fr ?_ ?_); (· rfl)))
local macro_rules | `(tactic| fail) => `(tactic| (with_reducible refine Nb_f ?_))
local macro_rules | `(tactic| fail) => `(tactic| ((with_reducible refine Dn_ok ?_ ?_); (· rfl)))
local macro_rules | `(tactic| fail) => `(tactic| ((with_reducible refine Sm_ok ?_ ?_); (· (first | omega | (simp; done) | (simp; omega)))))
local macro_rules | `(tactic| fail) => `(tactic| ((with_reducible refine Ln_ok ?_ ?_); (· (first | omega | (simp; done) | (simp; omega)))))
local macro_rules | `(tactic| fail) => `(tactic| ((with_reducible refine put_lz ?_ (by (try simp only [frz_nil, frz_cons, fz_nil, fz_own, fz_imm, fz_no, fz_row, fz_jk, fz_s, st_z, st_s]); rfl) ?_); (· rfl)))
local macro_rules | `(tactic| fail) => `(tactic| ((with_reducible refine put_l ?_ (by (try simp only [frz_nil, frz_cons, fz_nil, fz_own, fz_imm, fz_no, fz_row, fz_jk, fz_s, st_z, st_s]); rfl) ?_); (· rfl)))
local macro_rules | `(tactic| fail) => `(tactic| ((with_reducible refine ret_lz ?_ ?_); (· rfl)))
local macro_rules | `(tactic| fail) => `(tactic| ((with_reducible refine ret_l ?_ ?_); (· rfl)))
local macro_rules | `(tactic| fail) => `(tactic| (with_reducible refine ret_f inferInstance ?_))
local macro_rules | `(tactic| fail) => `(tactic| ((with_reducible refine Is_lenS ?_ ?_); (· decide)))
local macro_rules | `(tactic| fail) => `(tactic| ((with_reducible refine Is_mod ?_ ?_); (· omega)))
local macro_rules | `(tactic| fail) => `(tactic| (with_reducible refine W_getG Ht.h ?_))
local macro_rules | `(tactic| fail) => `(tactic| (with_reducible refine W_inG Ht.h ?_))
local macro_rules | `(tactic| fail) => `(tactic| ((with_reducible refine W_callR ?_ ?_); (· exact rfl)))
local macro_rules | `(tactic| fail) => `(tactic| ((with_reducible show WT (turnF _ _ _ _ _ _ _ _ _) _ _); refine WT_cmp (by exact rfl) ?_))
local macro_rules | `(tactic| fail) => `(tactic| (with_reducible refine W_call0 ?_))
local macro_rules | `(tactic| fail) => `(tactic| ((with_reducible refine W_dget ?_ ?_); (· exact rfl)))
local macro_rules | `(tactic| fail) => `(tactic| ((with_reducible show W (evE _ _ _ (.var _) _) _); refine W_var (by exact rfl) (by first | exact nrm_f | exact nrm_list | exact rfl) ?_))
local macro_rules | `(tactic| fail) => `(tactic| (with_reducible refine put_f (by (try simp only [frz_nil, frz_cons, fz_nil, fz_own, fz_imm, fz_no, fz_row, fz_jk, fz_s, st_z, st_s]); rfl) ?_))
local macro_rules | `(tactic| fail) => `(tactic| (with_reducible refine X_forK (by (try simp only [frz_nil, frz_cons, fz_nil, fz_own, fz_imm, fz_no, fz_row, fz_jk, fz_s, st_z, st_s]); rfl) ?_))
local macro_rules | `(tactic| fail) => `(tactic| (with_reducible refine X_for (by (try simp only [frz_nil, frz_cons, fz_nil, fz_own, fz_imm, fz_no, fz_row, fz_jk, fz_s, st_z, st_s]); rfl) ?_))
local macro_rules | `(tactic| fail) => `(tactic| (with_reducible refine X_tup (by (try simp only [frz_nil, frz_cons, fz_nil, fz_own, fz_imm, fz_no, fz_row, fz_jk, fz_s, st_z, st_s]); rfl) ?_))
local macro_rules | `(tactic| fail) => `(tactic| (with_reducible refine X_asg (by (try simp only [frz_nil, frz_cons, fz_nil, fz_own, fz_imm, fz_no, fz_row, fz_jk, fz_s, st_z, st_s]); rfl) ?_))
local macro_rules | `(tactic| fail) => `(tactic| (with_reducible refine putT3 ?_))
local macro_rules | `(tactic| fail) => `(tactic| (with_reducible refine putT2 ?_))
local macro_rules | `(tactic| fail) => `(tactic| (with_reducible refine putT1 ?_))
local macro_rules | `(tactic| fail) => `(tactic| (with_reducible refine Is_cutL1 ?_))
local macro_rules | `(tactic| fail) => `(tactic| (with_reducible refine Is_cutT1 ?_))
local macro_rules | `(tactic| fail) => `(tactic| (with_reducible refine Is_dkey ?_))
local macro_rules | `(tactic| fail) => `(tactic| (with_reducible refine Is_itL ?_))
local macro_rules | `(tactic| fail) => `(tactic| (with_reducible refine Is_itT ?_))
local macro_rules | `(tactic| fail) => `(tactic| (with_reducible refine Is_intB ?_))
local macro_rules | `(tactic| fail) => `(tactic| (with_reducible refine Is_intI ?_))
local macro_rules | `(tactic| fail) => `(tactic| (with_reducible refine Is_lisL ?_))
local macro_rules | `(tactic| fail) => `(tactic| (with_reducible refine Is_lisT ?_))
local macro_rules | `(tactic| fail) => `(tactic| (with_reducible refine Is_tupT ?_))
local macro_rules | `(tactic| fail) => `(tactic| (with_reducible refine Is_tupL ?_))
local macro_rules | `(tactic| fail) => `(tactic| (with_reducible refine Is_lenL ?_))
local macro_rules | `(tactic| fail) => `(tactic| (with_reducible refine Is_lenT ?_))
local macro_rules | `(tactic| fail) => `(tactic| (with_reducible refine Is_subI ?_))
local macro_rules | `(tactic| fail) => `(tactic| (with_reducible refine Is_addI ?_))
local macro_rules | `(tactic| fail) => `(tactic| (with_reducible refine Is_isiL ?_))
local macro_rules | `(tactic| fail) => `(tactic| (with_reducible refine Is_isiT ?_))
local macro_rules | `(tactic| fail) => `(tactic| (with_reducible refine Is_isiS ?_))
local macro_rules | `(tactic| fail) => `(tactic| (with_reducible refine Is_isiB ?_))
local macro_rules | `(tactic| fail) => `(tactic| (with_reducible refine Is_isiI ?_))
local macro_rules | `(tactic| fail) => `(tactic| (with_reducible refine Is_nin3 ?_))
local macro_rules | `(tactic| fail) => `(tactic| (with_reducible refine Is_in3 ?_))
local macro_rules | `(tactic| fail) => `(tactic| (with_reducible refine Is_nin2 ?_))
local macro_rules | `(tactic| fail) => `(tactic| (with_reducible refine Is_in2 ?_))
local macro_rules | `(tactic| fail) => `(tactic| (with_reducible refine Is_ninL ?_))
local macro_rules | `(tactic| fail) => `(tactic| (with_reducible refine Is_nin ?_))
local macro_rules | `(tactic| fail) => `(tactic| (with_reducible refine Is_scp ?_))
local macro_rules | `(tactic| fail) => `(tactic| (with_reducible refine Is_cpT ?_))
local macro_rules | `(tactic| fail) => `(tactic| (with_reducible refine Is_cpL ?_))
local macro_rules | `(tactic| fail) => `(tactic| (with_reducible refine Is_inL ?_))
local macro_rules | `(tactic| fail) => `(tactic| (with_reducible refine Is_in ?_))
local macro_rules | `(tactic| fail) => `(tactic| (with_reducible refine Is_geI ?_))
local macro_rules | `(tactic| fail) => `(tactic| (with_reducible refine Is_leI ?_))
local macro_rules | `(tactic| fail) => `(tactic| (with_reducible refine Is_gtI ?_))
local macro_rules | `(tactic| fail) => `(tactic| (with_reducible refine Is_ltI ?_))
local macro_rules | `(tactic| fail) => `(tactic| (with_reducible refine Is_neB ?_))
local macro_rules | `(tactic| fail) => `(tactic| (with_reducible refine Is_eqB ?_))
local macro_rules | `(tactic| fail) => `(tactic| (with_reducible refine Is_neNilT ?_))
local macro_rules | `(tactic| fail) => `(tactic| (with_reducible refine Is_eqNilT ?_))
local macro_rules | `(tactic| fail) => `(tactic| (with_reducible refine Is_neNil ?_))
local macro_rules | `(tactic| fail) => `(tactic| (with_reducible refine Is_eqNil ?_))
local macro_rules | `(tactic| fail) => `(tactic| (with_reducible refine Is_neS ?_))
local macro_rules | `(tactic| fail) => `(tactic| (with_reducible refine Is_eqS ?_))
local macro_rules | `(tactic| fail) => `(tactic| (with_reducible refine Is_neI ?_))
local macro_rules | `(tactic| fail) => `(tactic| (with_reducible refine Is_eqI ?_))
local macro_rules | `(tactic| fail) => `(tactic| (with_reducible refine IS_s ?_))
local macro_rules | `(tactic| fail) => `(tactic| (with_reducible refine II_i ?_))
local macro_rules | `(tactic| fail) => `(tactic| (with_reducible refine IB_b ?_))
local macro_rules | `(tactic| fail) => `(tactic| (with_reducible refine ILs_l ?_))
local macro_rules | `(tactic| fail) => `(tactic| (with_reducible refine X_dnew ?_))
local macro_rules | `(tactic| fail) => `(tactic| (with_reducible refine X_tryR ?_))
local macro_rules | `(tactic| fail) => `(tactic| (with_reducible refine X_retX ?_))
local macro_rules | `(tactic| fail) => `(tactic| (with_reducible refine X_raiC ?_))
local macro_rules | `(tactic| fail) => `(tactic| (with_reducible refine X_sto ?_))
local macro_rules | `(tactic| fail) => `(tactic| (with_reducible refine X_ins ?_))
local macro_rules | `(tactic| fail) => `(tactic| (with_reducible refine X_apo ?_))
local macro_rules | `(tactic| fail) => `(tactic| (with_reducible refine X_pas ?_))
local macro_rules | `(tactic| fail) => `(tactic| (with_reducible refine X_spo ?_))
local macro_rules | `(tactic| fail) => `(tactic| (with_reducible refine X_ext ?_))
local macro_rules | `(tactic| fail) => `(tactic| (with_reducible refine X_rem ?_))
local macro_rules | `(tactic| fail) => `(tactic| (with_reducible refine X_app ?_))
local macro_rules | `(tactic| fail) => `(tactic| (with_reducible refine X_par3 ?_))
local macro_rules | `(tactic| fail) => `(tactic| (with_reducible refine X_par2 ?_))
local macro_rules | `(tactic| fail) => `(tactic| (with_reducible refine X_exp ?_))
local macro_rules | `(tactic| fail) => `(tactic| (with_reducible refine X_whl ?_))
local macro_rules | `(tactic| fail) => `(tactic| (with_reducible refine X_ret ?_))
local macro_rules | `(tactic| fail) => `(tactic| (with_reducible refine X_ite ?_))
local macro_rules | `(tactic| fail) => `(tactic| (with_reducible refine X_nil ?_))
local macro_rules | `(tactic| fail) => `(tactic| (with_reducible refine X_cons ?_))
local macro_rules | `(tactic| fail) => `(tactic| (with_reducible refine CL_cons ?_))
local macro_rules | `(tactic| fail) => `(tactic| (with_reducible refine CL_nil ?_))
local macro_rules | `(tactic| fail) => `(tactic| (with_reducible refine WC_evB ?_))
local macro_rules | `(tactic| fail) => `(tactic| (with_reducible refine WI_rng3 ?_))
local macro_rules | `(tactic| fail) => `(tactic| (with_reducible refine WI_rng2 ?_))
local macro_rules | `(tactic| fail) => `(tactic| (with_reducible refine WI_rng1 ?_))
local macro_rules | `(tactic| fail) => `(tactic| (with_reducible refine WI_val ?_))
local macro_rules | `(tactic| fail) => `(tactic| (with_reducible refine WC_cons ?_))
local macro_rules | `(tactic| fail) => `(tactic| (with_reducible refine WC_nil ?_))
local macro_rules | `(tactic| fail) => `(tactic| (with_reducible refine WO_cons ?_))
local macro_rules | `(tactic| fail) => `(tactic| (with_reducible refine WO_nil ?_))
local macro_rules | `(tactic| fail) => `(tactic| (with_reducible refine WL_cons ?_))
local macro_rules | `(tactic| fail) => `(tactic| (with_reducible refine WL_nil ?_))
local macro_rules | `(tactic| fail) => `(tactic| (with_reducible refine W_sset ?_))
local macro_rules | `(tactic| fail) => `(tactic| (with_reducible refine W_scp ?_))
local macro_rules | `(tactic| fail) => `(tactic| (with_reducible refine W_lcp ?_))
local macro_rules | `(tactic| fail) => `(tactic| (with_reducible refine W_lrg ?_))
local macro_rules | `(tactic| fail) => `(tactic| (with_reducible refine W_meth ?_))
local macro_rules | `(tactic| fail) => `(tactic| (with_reducible refine W_join ?_))
local macro_rules | `(tactic| fail) => `(tactic| (with_reducible refine W_isq ?_))
local macro_rules | `(tactic| fail) => `(tactic| (with_reducible refine W_neg ?_))
local macro_rules | `(tactic| fail) => `(tactic| (with_reducible refine W_slc ?_))
local macro_rules | `(tactic| fail) => `(tactic| (with_reducible refine W_noN ?_))
local macro_rules | `(tactic| fail) => `(tactic| (with_reducible refine W_isN ?_))
local macro_rules | `(tactic| fail) => `(tactic| (with_reducible refine W_chn ?_))
local macro_rules | `(tactic| fail) => `(tactic| (with_reducible refine W_isi ?_))
local macro_rules | `(tactic| fail) => `(tactic| (with_reducible refine W_bi ?_))
local macro_rules | `(tactic| fail) => `(tactic| (with_reducible refine W_comp ?_))
local macro_rules | `(tactic| fail) => `(tactic| (with_reducible refine W_lst ?_))
local macro_rules | `(tactic| fail) => `(tactic| (with_reducible refine W_tup ?_))
local macro_rules | `(tactic| fail) => `(tactic| (with_reducible refine W_ite ?_))
local macro_rules | `(tactic| fail) => `(tactic| (with_reducible refine W_not ?_))
local macro_rules | `(tactic| fail) => `(tactic| (with_reducible refine W_or ?_))
local macro_rules | `(tactic| fail) => `(tactic| (with_reducible refine W_and ?_))
local macro_rules | `(tactic| fail) => `(tactic| (with_reducible refine W_sub ?_))
local macro_rules | `(tactic| fail) => `(tactic| (with_reducible refine W_cmp ?_))
local macro_rules | `(tactic| fail) => `(tactic| (with_reducible refine W_bin ?_))
local macro_rules | `(tactic| fail) => `(tactic| (with_reducible refine W_glo ?_))
local macro_rules | `(tactic| fail) => `(tactic| (with_reducible refine W_cst ?_))
variable {tbl : TblS} {fs : List Fd} {k : Nat} {g : G}
section
variable [Hf fs f_is_so] [Hf fs f_keeps] [Hf fs f_cites] [Hf fs f_all_cited] [Hf fs f_pairs_ahead] [Hf fs f_order] [Hf fs f_is_fit]
theorem asc_len {m : Nat} {l : Rw} (h : asc m l) : l.length ≤ m := by
  have h1 : l.length ≤ (List.range m).length := by
    have : (l.map Int.toNat).Nodup := by
      rw [List.nodup_iff_pairwise_ne, List.pairwise_map]
      refine List.Pairwise.imp_of_mem (fun {x y} hx hy hlt => ?_) h.1
      have := h.2 x hx
      have := h.2 y hy
      omega
    have hsub : (l.map Int.toNat) ⊆ List.range m := fun x hx => by
      obtain ⟨y, hy, rfl⟩ := List.mem_map.mp hx
      have := h.2 y hy
      exact List.mem_range.mpr (by omega)
    have := List.Nodup.length_le_of_subset this hsub
    simpa using this
  simpa using h1
/-- an order's answer, asked for None -/
theorem orderD_none {o : Option Rw} : isNone (orderD o) = !o.isSome := by cases o <;> rfl
theorem is_fit_run {b : Book} {a p : Rw} (hb : b.ok) (ha : ansOk a) (h : asc b.cl.length p) : run tbl fs (k + 6) "is_fit" false [b.d, rowD a, rowD p] g = some (.bool (b.fit a p), .fr, g) := by
  have n8 := hb.n8
  have w16 := hb.w16
  have hpl := asc_len h
  refine W_eq (R_is_fit ?_)
  unfold b_is_fit
  repeat' (first | fail | done)
  refine for_gen (enc := Want.d) (fun pre ρ g' => g' = g ∧ (b.ws.all (Want.keeps a p)) = (b.ws.drop pre.length).all (Want.keeps a p) ∧ ∃ s, ρ = [.imm b.d, .imm (rowD a), .imm (rowD p), s]) ⟨rfl, rfl, _, rfl⟩ (fun pre w post e ρ g' h0 => ?_) (fun ρ g' h0 => ?_)
  · obtain ⟨rfl, h1, s, rfl⟩ := h0
    have hd : b.ws.drop pre.length = w :: post := by rw [e]; simp
    rw [hd, List.all_cons] at h1
    repeat' (first | fail | ((with_reducible show W (run _ _ _ _ _ _ _) _); with_reducible refine W_is (keeps_run (k := k) (hb.ws w (by rw [e]; simp)) ha) ?_) | done)
    refine two (fun hu => ?_) (fun hu => ?_)
    · rw [Bool.not_eq_true'] at hu
      rw [hu] at h1
      repeat' (first | fail | done)
      refine ⟨?_, rfl, rfl⟩
      unfold Book.fit
      rw [h1]
      rfl
    · rw [Bool.not_eq_false'] at hu
      rw [hu] at h1
      repeat' (first | fail | done)
      refine ⟨rfl, ?_, _, rfl⟩
      rw [h1, e]
      simp
  · obtain ⟨rfl, h1, s, rfl⟩ := h0
    have h1 : (b.ws.all (Want.keeps a p)) = true := by rw [h1]; simp
    repeat' (first | fail | ((with_reducible show W (run _ _ _ _ _ _ _) _); with_reducible refine W_is (all_cited_run h) ?_) | ((with_reducible show W (run _ _ _ _ _ _ _) _); with_reducible refine W_is (order_run h (by omega) (by omega)) ?_) | done)
    refine two (fun hu => ?_) (fun hu => ?_)
    · repeat' (first | fail | ((with_reducible show W (run _ _ _ _ _ _ _) _); with_reducible refine W_is (order_run h (by omega) (by omega)) ?_) | done)
      refine ⟨?_, rfl, rfl⟩
      unfold Book.fit
      rw [h1, hu, orderD_none]
      simp
    · repeat' (first | fail | done)
      refine ⟨?_, rfl, rfl⟩
      unfold Book.fit
      rw [h1, hu]
      rfl
end
section
variable [Ht tbl "CONDITIONS" [("is", "qv"), ("not", "c"), ("both", "cc")]] [Ht tbl "WANTS" [("needs", "aa"), ("bars", "ab"), ("ahead", "ab"), ("one", "s"), ("some", "s"), ("when", "ca"), ("only", "ca")]]
variable [Hf fs f_is_whole] [Hf fs f_is_rising] [Hf fs f_is_word] [Hf fs f_is_part] [Hf fs f_is_clause] [Hf fs f_is_condition] [Hf fs f_is_want] [Hf fs f_need_book] [Hf fs f_need_answers] [Hf fs f_need_paper]
variable [Hf fs f_is_so] [Hf fs f_keeps] [Hf fs f_cites] [Hf fs f_pairs_ahead] [Hf fs f_order] [Hf fs f_broken]
end
end Mi.L
end
section
set_option maxRecDepth 100000
set_option maxHeartbeats 1000000
namespace Mi.L
open PySem PySem.Spec PyProof.Rows L2 Mi.B P
local macro_rules | `(tactic| fail) => `(tactic| (with_reducible refine Is_s (o := List.lookup _ _) rfl ?_))
local macro_rules | `(tactic| fail) => `(tactic| (with_reducible refine Is_s (o := slcD _ _ _) rfl ?_))
local macro_rules | `(tactic| fail) => `(tactic| (with_reducible refine Is_s (o := idxD _ _) rfl ?_))
local macro_rules | `(tactic| fail) => `(tactic| ((with_reducible refine two_f ?_ ?_); (· (first | rfl | (simp [ofs_eq]; done) | (simp; omega)))))
local macro_rules | `(tactic| fail) => `(tactic| ((with_reducible refine two_t ?_ ?_); (· (first | rfl | (simp [ofs_eq]; done) | (simp; omega)))))
local macro_rules | `(tactic| fail) => `(tactic| ((with_reducible show Ap _ _ _ _ _); refine Ap_ok (by exact rfl) (by exact fresh_f) (by (first | omega | (simp; done) | (simp; omega))) (by (try simp only [frz_nil, frz_cons, fz_nil, fz_own, fz_imm, fz_no, fz_row, fz_jk, fz_s, st_z, st_s]); rfl) ?_))
local macro_rules | `(tactic| fail) => `(tactic| ((with_reducible refine Nb_fz ?_ ?_); (· rfl)))
local macro_rules | `(tactic| fail) => `(tactic| ((with_reducible refine Nb_fr ?_ ?_); (· rfl)))
local macro_rules | `(tactic| fail) => `(tactic| (with_reducible refine Nb_f ?_))
local macro_rules | `(tactic| fail) => `(tactic| ((with_reducible refine Dn_ok ?_ ?_); (· rfl)))
local macro_rules | `(tactic| fail) => `(tactic| ((with_reducible refine Sm_ok ?_ ?_); (· (first | omega | (simp; done) | (simp; omega)))))
local macro_rules | `(tactic| fail) => `(tactic| ((with_reducible refine Ln_ok ?_ ?_); (· (first | omega | (simp; done) | (simp; omega)))))
local macro_rules | `(tactic| fail) => `(tactic| ((with_reducible refine put_lz ?_ (by (try simp only [frz_nil, frz_cons, fz_nil, fz_own, fz_imm, fz_no, fz_row, fz_jk, fz_s, st_z, st_s]); rfl) ?_); (· rfl)))
local macro_rules | `(tactic| fail) => `(tactic| ((with_reducible refine put_l ?_ (by (try simp only [frz_nil, frz_cons, fz_nil, fz_own, fz_imm, fz_no, fz_row, fz_jk, fz_s, st_z, st_s]); rfl) ?_); (· rfl)))
local macro_rules | `(tactic| fail) => `(tactic| ((with_reducible refine ret_lz ?_ ?_); (· rfl)))
local macro_rules | `(tactic| fail) => `(tactic| ((with_reducible refine ret_l ?_ ?_); (· rfl)))
local macro_rules | `(tactic| fail) => `(tactic| (with_reducible refine ret_f inferInstance ?_))
local macro_rules | `(tactic| fail) => `(tactic| ((with_reducible refine Is_lenS ?_ ?_); (· decide)))
local macro_rules | `(tactic| fail) => `(tactic| ((with_reducible refine Is_mod ?_ ?_); (· omega)))
local macro_rules | `(tactic| fail) => `(tactic| (with_reducible refine W_getG Ht.h ?_))
local macro_rules | `(tactic| fail) => `(tactic| (with_reducible refine W_inG Ht.h ?_))
local macro_rules | `(tactic| fail) => `(tactic| ((with_reducible refine W_callR ?_ ?_); (· exact rfl)))
local macro_rules | `(tactic| fail) => `(tactic| ((with_reducible show WT (turnF _ _ _ _ _ _ _ _ _) _ _); refine WT_cmp (by exact rfl) ?_))
local macro_rules | `(tactic| fail) => `(tactic| (with_reducible refine W_call0 ?_))
local macro_rules | `(tactic| fail) => `(tactic| ((with_reducible refine W_dget ?_ ?_); (· exact rfl)))
local macro_rules | `(tactic| fail) => `(tactic| ((with_reducible show W (evE _ _ _ (.var _) _) _); refine W_var (by exact rfl) (by first | exact nrm_f | exact nrm_list | exact rfl) ?_))
local macro_rules | `(tactic| fail) => `(tactic| (with_reducible refine put_f (by (try simp only [frz_nil, frz_cons, fz_nil, fz_own, fz_imm, fz_no, fz_row, fz_jk, fz_s, st_z, st_s]); rfl) ?_))
local macro_rules | `(tactic| fail) => `(tactic| (with_reducible refine X_forK (by (try simp only [frz_nil, frz_cons, fz_nil, fz_own, fz_imm, fz_no, fz_row, fz_jk, fz_s, st_z, st_s]); rfl) ?_))
local macro_rules | `(tactic| fail) => `(tactic| (with_reducible refine X_for (by (try simp only [frz_nil, frz_cons, fz_nil, fz_own, fz_imm, fz_no, fz_row, fz_jk, fz_s, st_z, st_s]); rfl) ?_))
local macro_rules | `(tactic| fail) => `(tactic| (with_reducible refine X_tup (by (try simp only [frz_nil, frz_cons, fz_nil, fz_own, fz_imm, fz_no, fz_row, fz_jk, fz_s, st_z, st_s]); rfl) ?_))
local macro_rules | `(tactic| fail) => `(tactic| (with_reducible refine X_asg (by (try simp only [frz_nil, frz_cons, fz_nil, fz_own, fz_imm, fz_no, fz_row, fz_jk, fz_s, st_z, st_s]); rfl) ?_))
local macro_rules | `(tactic| fail) => `(tactic| (with_reducible refine putT3 ?_))
local macro_rules | `(tactic| fail) => `(tactic| (with_reducible refine putT2 ?_))
local macro_rules | `(tactic| fail) => `(tactic| (with_reducible refine putT1 ?_))
local macro_rules | `(tactic| fail) => `(tactic| (with_reducible refine Is_cutL1 ?_))
local macro_rules | `(tactic| fail) => `(tactic| (with_reducible refine Is_cutT1 ?_))
local macro_rules | `(tactic| fail) => `(tactic| (with_reducible refine Is_dkey ?_))
local macro_rules | `(tactic| fail) => `(tactic| (with_reducible refine Is_itL ?_))
local macro_rules | `(tactic| fail) => `(tactic| (with_reducible refine Is_itT ?_))
local macro_rules | `(tactic| fail) => `(tactic| (with_reducible refine Is_intB ?_))
local macro_rules | `(tactic| fail) => `(tactic| (with_reducible refine Is_intI ?_))
local macro_rules | `(tactic| fail) => `(tactic| (with_reducible refine Is_lisL ?_))
local macro_rules | `(tactic| fail) => `(tactic| (with_reducible refine Is_lisT ?_))
local macro_rules | `(tactic| fail) => `(tactic| (with_reducible refine Is_tupT ?_))
local macro_rules | `(tactic| fail) => `(tactic| (with_reducible refine Is_tupL ?_))
local macro_rules | `(tactic| fail) => `(tactic| (with_reducible refine Is_lenL ?_))
local macro_rules | `(tactic| fail) => `(tactic| (with_reducible refine Is_lenT ?_))
local macro_rules | `(tactic| fail) => `(tactic| (with_reducible refine Is_subI ?_))
local macro_rules | `(tactic| fail) => `(tactic| (with_reducible refine Is_addI ?_))
local macro_rules | `(tactic| fail) => `(tactic| (with_reducible refine Is_isiL ?_))
local macro_rules | `(tactic| fail) => `(tactic| (with_reducible refine Is_isiT ?_))
local macro_rules | `(tactic| fail) => `(tactic| (with_reducible refine Is_isiS ?_))
local macro_rules | `(tactic| fail) => `(tactic| (with_reducible refine Is_isiB ?_))
local macro_rules | `(tactic| fail) => `(tactic| (with_reducible refine Is_isiI ?_))
local macro_rules | `(tactic| fail) => `(tactic| (with_reducible refine Is_nin3 ?_))
local macro_rules | `(tactic| fail) => `(tactic| (with_reducible refine Is_in3 ?_))
local macro_rules | `(tactic| fail) => `(tactic| (with_reducible refine Is_nin2 ?_))
local macro_rules | `(tactic| fail) => `(tactic| (with_reducible refine Is_in2 ?_))
local macro_rules | `(tactic| fail) => `(tactic| (with_reducible refine Is_ninL ?_))
local macro_rules | `(tactic| fail) => `(tactic| (with_reducible refine Is_nin ?_))
local macro_rules | `(tactic| fail) => `(tactic| (with_reducible refine Is_scp ?_))
local macro_rules | `(tactic| fail) => `(tactic| (with_reducible refine Is_cpT ?_))
local macro_rules | `(tactic| fail) => `(tactic| (with_reducible refine Is_cpL ?_))
local macro_rules | `(tactic| fail) => `(tactic| (with_reducible refine Is_inL ?_))
local macro_rules | `(tactic| fail) => `(tactic| (with_reducible refine Is_in ?_))
local macro_rules | `(tactic| fail) => `(tactic| (with_reducible refine Is_geI ?_))
local macro_rules | `(tactic| fail) => `(tactic| (with_reducible refine Is_leI ?_))
local macro_rules | `(tactic| fail) => `(tactic| (with_reducible refine Is_gtI ?_))
local macro_rules | `(tactic| fail) => `(tactic| (with_reducible refine Is_ltI ?_))
local macro_rules | `(tactic| fail) => `(tactic| (with_reducible refine Is_neB ?_))
local macro_rules | `(tactic| fail) => `(tactic| (with_reducible refine Is_eqB ?_))
local macro_rules | `(tactic| fail) => `(tactic| (with_reducible refine Is_neNilT ?_))
local macro_rules | `(tactic| fail) => `(tactic| (with_reducible refine Is_eqNilT ?_))
local macro_rules | `(tactic| fail) => `(tactic| (with_reducible refine Is_neNil ?_))
local macro_rules | `(tactic| fail) => `(tactic| (with_reducible refine Is_eqNil ?_))
local macro_rules | `(tactic| fail) => `(tactic| (with_reducible refine Is_neS ?_))
local macro_rules | `(tactic| fail) => `(tactic| (with_reducible refine Is_eqS ?_))
local macro_rules | `(tactic| fail) => `(tactic| (with_reducible refine Is_neI ?_))
local macro_rules | `(tactic| fail) => `(tactic| (with_reducible refine Is_eqI ?_))
local macro_rules | `(tactic| fail) => `(tactic| (with_reducible refine IS_s ?_))
local macro_rules | `(tactic| fail) => `(tactic| (with_reducible refine II_i ?_))
local macro_rules | `(tactic| fail) => `(tactic| (with_reducible refine IB_b ?_))
local macro_rules | `(tactic| fail) => `(tactic| (with_reducible refine ILs_l ?_))
local macro_rules | `(tactic| fail) => `(tactic| (with_reducible refine X_dnew ?_))
local macro_rules | `(tactic| fail) => `(tactic| (with_reducible refine X_tryR ?_))
local macro_rules | `(tactic| fail) => `(tactic| (with_reducible refine X_retX ?_))
local macro_rules | `(tactic| fail) => `(tactic| (with_reducible refine X_raiC ?_))
local macro_rules | `(tactic| fail) => `(tactic| (with_reducible refine X_sto ?_))
local macro_rules | `(tactic| fail) => `(tactic| (with_reducible refine X_ins ?_))
local macro_rules | `(tactic| fail) => `(tactic| (with_reducible refine X_apo ?_))
local macro_rules | `(tactic| fail) => `(tactic| (with_reducible refine X_pas ?_))
local macro_rules | `(tactic| fail) => `(tactic| (with_reducible refine X_spo ?_))
local macro_rules | `(tactic| fail) => `(tactic| (with_reducible refine X_ext ?_))
local macro_rules | `(tactic| fail) => `(tactic| (with_reducible refine X_rem ?_))
local macro_rules | `(tactic| fail) => `(tactic| (with_reducible refine X_app ?_))
local macro_rules | `(tactic| fail) => `(tactic| (with_reducible refine X_par3 ?_))
local macro_rules | `(tactic| fail) => `(tactic| (with_reducible refine X_par2 ?_))
local macro_rules | `(tactic| fail) => `(tactic| (with_reducible refine X_exp ?_))
local macro_rules | `(tactic| fail) => `(tactic| (with_reducible refine X_whl ?_))
local macro_rules | `(tactic| fail) => `(tactic| (with_reducible refine X_ret ?_))
local macro_rules | `(tactic| fail) => `(tactic| (with_reducible refine X_ite ?_))
local macro_rules | `(tactic| fail) => `(tactic| (with_reducible refine X_nil ?_))
local macro_rules | `(tactic| fail) => `(tactic| (with_reducible refine X_cons ?_))
local macro_rules | `(tactic| fail) => `(tactic| (with_reducible refine CL_cons ?_))
local macro_rules | `(tactic| fail) => `(tactic| (with_reducible refine CL_nil ?_))
local macro_rules | `(tactic| fail) => `(tactic| (with_reducible refine WC_evB ?_))
local macro_rules | `(tactic| fail) => `(tactic| (with_reducible refine WI_rng3 ?_))
local macro_rules | `(tactic| fail) => `(tactic| (with_reducible refine WI_rng2 ?_))
local macro_rules | `(tactic| fail) => `(tactic| (with_reducible refine WI_rng1 ?_))
local macro_rules | `(tactic| fail) => `(tactic| (with_reducible refine WI_val ?_))
local macro_rules | `(tactic| fail) => `(tactic| (with_reducible refine WC_cons ?_))
local macro_rules | `(tactic| fail) => `(tactic| (with_reducible refine WC_nil ?_))
local macro_rules | `(tactic| fail) => `(tactic| (with_reducible refine WO_cons ?_))
local macro_rules | `(tactic| fail) => `(tactic| (with_reducible refine WO_nil ?_))
local macro_rules | `(tactic| fail) => `(tactic| (with_reducible refine WL_cons ?_))
local macro_rules | `(tactic| fail) => `(tactic| (with_reducible refine WL_nil ?_))
local macro_rules | `(tactic| fail) => `(tactic| (with_reducible refine W_sset ?_))
local macro_rules | `(tactic| fail) => `(tactic| (with_reducible refine W_scp ?_))
local macro_rules | `(tactic| fail) => `(tactic| (with_reducible refine W_lcp ?_))
local macro_rules | `(tactic| fail) => `(tactic| (with_reducible refine W_lrg ?_))
local macro_rules | `(tactic| fail) => `(tactic| (with_reducible refine W_meth ?_))
local macro_rules | `(tactic| fail) => `(tactic| (with_reducible refine W_join ?_))
local macro_rules | `(tactic| fail) => `(tactic| (with_reducible refine W_isq ?_))
local macro_rules | `(tactic| fail) => `(tactic| (with_reducible refine W_neg ?_))
local macro_rules | `(tactic| fail) => `(tactic| (with_reducible refine W_slc ?_))
local macro_rules | `(tactic| fail) => `(tactic| (with_reducible refine W_noN ?_))
local macro_rules | `(tactic| fail) => `(tactic| (with_reducible refine W_isN ?_))
local macro_rules | `(tactic| fail) => `(tactic| (with_reducible refine W_chn ?_))
local macro_rules | `(tactic| fail) => `(tactic| (with_reducible refine W_isi ?_))
local macro_rules | `(tactic| fail) => `(tactic| (with_reducible refine W_bi ?_))
local macro_rules | `(tactic| fail) => `(tactic| (with_reducible refine W_comp ?_))
local macro_rules | `(tactic| fail) => `(tactic| (with_reducible refine W_lst ?_))
local macro_rules | `(tactic| fail) => `(tactic| (with_reducible refine W_tup ?_))
local macro_rules | `(tactic| fail) => `(tactic| (with_reducible refine W_ite ?_))
local macro_rules | `(tactic| fail) => `(tactic| (with_reducible refine W_not ?_))
local macro_rules | `(tactic| fail) => `(tactic| (with_reducible refine W_or ?_))
local macro_rules | `(tactic| fail) => `(tactic| (with_reducible refine W_and ?_))
local macro_rules | `(tactic| fail) => `(tactic| (with_reducible refine W_sub ?_))
local macro_rules | `(tactic| fail) => `(tactic| (with_reducible refine W_cmp ?_))
local macro_rules | `(tactic| fail) => `(tactic| (with_reducible refine W_bin ?_))
local macro_rules | `(tactic| fail) => `(tactic| (with_reducible refine W_glo ?_))
local macro_rules | `(tactic| fail) => `(tactic| (with_reducible refine W_cst ?_))
variable {tbl : TblS} {fs : List Fd} {k : Nat} {g : G} {Q : D → Tag → G → Prop}
section
theorem taken_ok [h : Hf fs f__law_taken] {m : Int} (hp : 0 ≤ g.p) (hm : 0 < m) (hm2 : m < 1000000) : ∃ v g', run tbl fs (k + 1) "_law_taken" true [.int m] g = some (.int v, .fr, g') ∧ 0 ≤ v ∧ v < m ∧ 0 ≤ g'.p := by
  have hm0 : m ≠ 0 := by omega
  have hm3 : m.natAbs < 1073741824 := by omega
  rw [run_eq (x := "_law_taken") (row := true) h.h rfl]
  unfold f__law_taken b__law_taken
  by_cases h1 : 0 < g.r
  · refine ⟨_, { g with r := g.r.fdiv m }, ?_, (fmod_lt hm).1, (fmod_lt (a := g.r) hm).2, hp⟩
    simp [execs, exec, evE, evEs, evB, entry, SEnv.x, SEnv.y, Sl.x, Sl.y, cmpD, gtD, geD, binD, addD, subD, mulD, powD, modD, fdivD, put, kind, frz, frz1, nrm, lf, biD, Tag.mx, h1, hm0, hm3]
  · by_cases h2 : (g.ns.length : Int) < g.p + 1
    · refine ⟨_, { g with p := g.p + 1, m := (g.m * 48271 + 11).fmod 2147483647 }, ?_, (fmod_lt hm).1, (fmod_lt (a := ((g.m * 48271 + 11).fmod 2147483647).fdiv 7) hm).2, by show 0 ≤ g.p + 1; omega⟩
      simp [execs, exec, evE, evEs, evB, entry, SEnv.x, SEnv.y, Sl.x, Sl.y, cmpD, gtD, geD, binD, addD, subD, mulD, powD, modD, fdivD, put, kind, frz, frz1, nrm, lf, biD, Tag.mx, h1, h2, hm0, hm3]
    · have h3 : g.p.toNat < g.ns.length := by omega
      have h4 : atI g.ns g.p = some g.ns[g.p.toNat] := atI_pos hp h3
      have h5 : g.p + 1 - 1 = g.p := by omega
      by_cases h6 : (10 : Int) ^ 18 ≤ g.ns[g.p.toNat]
      · refine ⟨_, { g with p := g.p + 1, m := (g.m * 48271 + g.ns[g.p.toNat] + 11).fmod 2147483647, r := g.ns[g.p.toNat].fdiv m }, ?_, (fmod_lt hm).1, (fmod_lt (a := g.ns[g.p.toNat]) hm).2, by show 0 ≤ g.p + 1; omega⟩
        have h6' : (1000000000000000000 : Int) ≤ g.ns[g.p.toNat] := by simpa using h6
        simp [execs, exec, evE, evEs, evB, entry, SEnv.x, SEnv.y, Sl.x, Sl.y, cmpD, gtD, geD, binD, addD, subD, mulD, powD, modD, fdivD, put, kind, frz, frz1, nrm, lf, biD, Tag.mx, h1, h2, hm0, hm3, h4, h5, h6']
      · refine ⟨_, { g with p := g.p + 1, m := (g.m * 48271 + g.ns[g.p.toNat] + 11).fmod 2147483647 }, ?_, (fmod_lt hm).1, (fmod_lt (a := g.ns[g.p.toNat]) hm).2, by show 0 ≤ g.p + 1; omega⟩
        have h6' : ¬ (1000000000000000000 : Int) ≤ g.ns[g.p.toNat] := by simpa using h6
        simp [execs, exec, evE, evEs, evB, entry, SEnv.x, SEnv.y, Sl.x, Sl.y, cmpD, gtD, geD, binD, addD, subD, mulD, powD, modD, fdivD, put, kind, frz, frz1, nrm, lf, biD, Tag.mx, h1, h2, hm0, hm3, h4, h5, h6']

theorem taken_ok1 [h : Hf fs f__law_taken'1] {m : Int} (hp : 0 ≤ g.p) (hm : 0 < m) (hm2 : m < 1000000) : ∃ v g', run tbl fs (k + 1) "_law_taken" true [.int m] g = some (.int v, .fr, g') ∧ 0 ≤ v ∧ v < m ∧ 0 ≤ g'.p := by
  have hm0 : m ≠ 0 := by omega
  have hm3 : m.natAbs < 1073741824 := by omega
  rw [run_eq (x := "_law_taken") (row := true) h.h rfl]
  unfold f__law_taken'1 b__law_taken'1
  by_cases h1 : 0 < g.r
  · refine ⟨_, { g with r := g.r.fdiv m }, ?_, (fmod_lt hm).1, (fmod_lt (a := g.r) hm).2, hp⟩
    simp [execs, exec, evE, evEs, evB, entry, SEnv.x, SEnv.y, Sl.x, Sl.y, cmpD, gtD, geD, binD, addD, subD, mulD, powD, modD, fdivD, put, kind, frz, frz1, nrm, lf, biD, Tag.mx, h1, hm0, hm3]
  · by_cases h2 : (g.ns.length : Int) < g.p + 1
    · refine ⟨_, { g with p := g.p + 1, m := (g.m * 48271 + 11).fmod 2147483647 }, ?_, (fmod_lt hm).1, (fmod_lt (a := ((g.m * 48271 + 11).fmod 2147483647).fdiv 7) hm).2, by show 0 ≤ g.p + 1; omega⟩
      simp [execs, exec, evE, evEs, evB, entry, SEnv.x, SEnv.y, Sl.x, Sl.y, cmpD, gtD, geD, binD, addD, subD, mulD, powD, modD, fdivD, put, kind, frz, frz1, nrm, lf, biD, Tag.mx, h1, h2, hm0, hm3]
    · have h3 : g.p.toNat < g.ns.length := by omega
      have h4 : atI g.ns g.p = some g.ns[g.p.toNat] := atI_pos hp h3
      have h5 : g.p + 1 - 1 = g.p := by omega
      by_cases h6 : (10 : Int) ^ 18 ≤ g.ns[g.p.toNat]
      · refine ⟨_, { g with p := g.p + 1, m := (g.m * 48271 + g.ns[g.p.toNat] + 11).fmod 2147483647, r := g.ns[g.p.toNat].fdiv m }, ?_, (fmod_lt hm).1, (fmod_lt (a := g.ns[g.p.toNat]) hm).2, by show 0 ≤ g.p + 1; omega⟩
        have h6' : (1000000000000000000 : Int) ≤ g.ns[g.p.toNat] := by simpa using h6
        simp [execs, exec, evE, evEs, evB, entry, SEnv.x, SEnv.y, Sl.x, Sl.y, cmpD, gtD, geD, binD, addD, subD, mulD, powD, modD, fdivD, put, kind, frz, frz1, nrm, lf, biD, Tag.mx, h1, h2, hm0, hm3, h4, h5, h6']
      · refine ⟨_, { g with p := g.p + 1, m := (g.m * 48271 + g.ns[g.p.toNat] + 11).fmod 2147483647 }, ?_, (fmod_lt hm).1, (fmod_lt (a := g.ns[g.p.toNat]) hm).2, by show 0 ≤ g.p + 1; omega⟩
        have h6' : ¬ (1000000000000000000 : Int) ≤ g.ns[g.p.toNat] := by simpa using h6
        simp [execs, exec, evE, evEs, evB, entry, SEnv.x, SEnv.y, Sl.x, Sl.y, cmpD, gtD, geD, binD, addD, subD, mulD, powD, modD, fdivD, put, kind, frz, frz1, nrm, lf, biD, Tag.mx, h1, h2, hm0, hm3, h4, h5, h6']

/-- the row is whole -/
abbrev Gk (g : G) : Prop := 0 ≤ g.p
/-- the law's draws -/
class Tk (tbl : TblS) (fs : List Fd) : Prop where
  h : ∀ {k : Nat} {g : G} {m : Int}, Gk g → 0 < m → m < 1000000 → ∃ v g', run tbl fs (k + 1) "_law_taken" true [.int m] g = some (.int v, .fr, g') ∧ 0 ≤ v ∧ v < m ∧ Gk g'
instance [Hf fs f__law_taken] : Tk tbl fs := ⟨fun hg h0 h1 => taken_ok hg h0 h1⟩
instance [Hf fs f__law_taken'1] : Tk tbl fs := ⟨fun hg h0 h1 => taken_ok1 hg h0 h1⟩
theorem taken_W [t : Tk tbl fs] {m : Int} (hg : Gk g) (h0 : 0 < m) (h1 : m < 1000000) (q : ∀ v g', 0 ≤ v → v < m → Gk g' → Q (.int v) .fr g') : W (run tbl fs (k + 1) "_law_taken" true [.int m] g) Q := by
  obtain ⟨v, g', e, h2, h3, h4⟩ := t.h (k := k) hg h0 h1
  exact W_is e (q v g' h2 h3 h4)
/-! one of a few -/
theorem pick2 {a b v : Int} {DQ : D → Prop} (h0 : 0 ≤ v) (h1 : v < 2) (q : ∀ o, (o = a ∨ o = b) → DQ (.int o)) : Is (idxD (.list [.int a, .int b]) (.int v)) DQ := by
  have : v = 0 ∨ v = 1 := by omega
  rcases this with rfl | rfl
  · exact ⟨q a (.inl rfl)⟩
  · exact ⟨q b (.inr rfl)⟩
theorem pick3 {a b c v : Int} {DQ : D → Prop} (h0 : 0 ≤ v) (h1 : v < 3) (q : ∀ o, (o = a ∨ o = b ∨ o = c) → DQ (.int o)) : Is (idxD (.list [.int a, .int b, .int c]) (.int v)) DQ := by
  have : v = 0 ∨ v = 1 ∨ v = 2 := by omega
  rcases this with rfl | rfl | rfl
  · exact ⟨q a (.inl rfl)⟩
  · exact ⟨q b (.inr (.inl rfl))⟩
  · exact ⟨q c (.inr (.inr rfl))⟩
variable [Tk tbl fs]
section
variable [Hf fs f__law_answers]
theorem answers_W (hg : Gk g) (q : ∀ (a : Rw) g', ansOk a → Gk g' → Q (rowD a) .fr g') : W (run tbl fs (k + 2) "_law_answers" true [] g) Q := by
  refine R__law_answers ?_
  unfold b__law_answers
  repeat' (first | fail | ((with_reducible refine taken_W ?_ ?_ ?_ (fun _ _ _ _ _ => ?_)); (· assumption); (· (first | omega | (simp; done) | (simp; omega))); (· (first | omega | (simp; done) | (simp; omega)))) | done)
  rw [rng_Ri]
  refine comp_draw (enc := PyData.int) (enc' := PyData.int) Gk (fun v => 0 ≤ v ∧ v < 3) hg (fun x hx g hg => ?_) (fun ys g' hg' hl hc => ?_)
  · repeat' (first | fail | ((with_reducible refine taken_W ?_ ?_ ?_ (fun _ _ _ _ _ => ?_)); (· assumption); (· (first | omega | (simp; done) | (simp; omega))); (· (first | omega | (simp; done) | (simp; omega)))) | done)
    exact ⟨⟨_, rfl, by assumption, by assumption⟩, rfl, by assumption⟩
  · repeat' (first | fail | ((with_reducible refine taken_W ?_ ?_ ?_ (fun _ _ _ _ _ => ?_)); (· assumption); (· (first | omega | (simp; done) | (simp; omega))); (· (first | omega | (simp; done) | (simp; omega)))) | done)
    exact q ys g' ⟨hl, hc⟩ hg'
end
section
variable [Hf fs f__law_some]
theorem sub_asc {l ys : Rw} {m : Int} (h : l.Sublist ys) (hy : asc m ys) : asc m l := ⟨hy.1.sublist h, fun v hv => hy.2 v (h.subset hv)⟩
theorem Ri_asc0 {n : Nat} : asc n (Ri 0 n) := ⟨Ri_asc, fun v hv => by have := mem_Ri.mp hv; omega⟩
end
section
variable [Hf fs f__law_letters]
theorem str_join_chars : ∀ l : List Nat, Str.join ("" : Str) (l.map fun c => (⟨#[c]⟩ : Str)) = ⟨l.toArray⟩
  | [] => rfl
  | [c] => rfl
  | c :: d :: r => by
    have ih := str_join_chars (d :: r)
    show (⟨#[c]⟩ : Str) ++ ("" : Str) ++ Str.join ("" : Str) ((d :: r).map fun c => (⟨#[c]⟩ : Str)) = _
    rw [ih]
    apply congrArg Str.mk
    show (#[c] ++ #[]) ++ (d :: r).toArray = (c :: d :: r).toArray
    simp
theorem join_chars (l : List Nat) : Txt.join ("" : Str) (l.map fun c => (⟨#[c]⟩ : Str)) = ⟨l.toArray⟩ := by
  show Builtin.Str.glued ("" : Str) _ = _
  rw [StrLaws.glued_eq_join]
  exact str_join_chars l
theorem strsD_map : ∀ l : List Str, strsD (l.map PyData.str) = some l
  | [] => rfl
  | c :: r => by
    show (strsD (r.map PyData.str)).map _ = _
    rw [strsD_map r]
    rfl
theorem joinD_chars (l : List Nat) (h : l.length ≤ 1000) : joinD ("" : Str) (.list (l.map fun c => PyData.str ⟨#[c]⟩)) = some (.str ⟨l.toArray⟩) := by
  show joinL _ _ = _
  unfold joinL
  have e0 : (l.map fun c => PyData.str ⟨#[c]⟩) = (l.map fun c => (⟨#[c]⟩ : Str)).map PyData.str := by rw [List.map_map]; rfl
  rw [e0, strsD_map]
  have : ((l.map fun c => (⟨#[c]⟩ : Str)).map (·.length)).sum = l.length := by
    clear e0
    induction l with
    | nil => rfl
    | cons c r ih =>
      have := ih (by simp at h; omega)
      simp only [List.map_cons, List.sum_cons, this, List.length_cons]
      show 1 + r.length = _
      omega
  dsimp only
  rw [this, if_pos (by rw [List.length_map]; show l.length + l.length * 0 ≤ LINE; unfold LINE; omega), join_chars]
theorem abc_len : abc.length = 26 := by decide
theorem letters_W (hg : Gk g) (q : ∀ (l : List Nat) g', wordOk l → Gk g' → Q (wordD l) .fr g') : W (run tbl fs (k + 2) "_law_letters" true [] g) Q := by
  refine R__law_letters ?_
  unfold b__law_letters
  repeat' (first | fail | ((with_reducible refine taken_W ?_ ?_ ?_ (fun _ _ _ _ _ => ?_)); (· assumption); (· (first | omega | (simp; done) | (simp; omega))); (· (first | omega | (simp; done) | (simp; omega)))) | done)
  rename_i v g1 h1 h2 h3
  refine pick2 h1 h2 (fun o ho => ?_)
  have ho0 : 0 < o := by omega
  have ho1 : o < 1000000 := by omega
  repeat' (first | fail | ((with_reducible refine taken_W ?_ ?_ ?_ (fun _ _ _ _ _ => ?_)); (· assumption); (· (first | omega | (simp; done) | (simp; omega))); (· (first | omega | (simp; done) | (simp; omega)))) | done)
  rename_i v g1 h1 h2 h3
  rw [rng_Ri]
  refine comp_draw (enc := PyData.int) (enc' := fun c => PyData.str ⟨#[c]⟩) Gk (fun c => c ∈ abc) h3 (fun x hx g hg => ?_) (fun ys g' hg' hl hc => ?_)
  · repeat' (first | fail | ((with_reducible refine taken_W ?_ ?_ ?_ (fun _ _ _ _ _ => ?_)); (· assumption); (· (first | omega | (simp; done) | (simp; omega))); (· (first | omega | (simp; done) | (simp; omega)))) | done)
    rename_i v g1 h1 h2 h3
    have h4 : v.toNat < abc.length := by rw [abc_len]; omega
    have e5 : idxD (.str "abcdefghijklmnopqrstuvwxyz") (.int v) = some (.str ⟨#[abc[v.toNat]]⟩) := by
      show (if ("abcdefghijklmnopqrstuvwxyz" : Str).length ≤ LINE then (atI abc v).map (fun c => PyData.str ⟨#[c]⟩) else none) = _
      rw [if_pos (by decide)]
      rw [atI_pos h1 h4]
      rfl
    repeat' (first | fail | ((with_reducible refine taken_W ?_ ?_ ?_ (fun _ _ _ _ _ => ?_)); (· assumption); (· (first | omega | (simp; done) | (simp; omega))); (· (first | omega | (simp; done) | (simp; omega)))) | (refine Is_s e5 ?_) | done)
    exact ⟨⟨_, rfl, List.getElem_mem h4⟩, rfl, h3⟩
  · rw [Ri_len] at hl
    repeat' (first | fail | ((with_reducible refine taken_W ?_ ?_ ?_ (fun _ _ _ _ _ => ?_)); (· assumption); (· (first | omega | (simp; done) | (simp; omega))); (· (first | omega | (simp; done) | (simp; omega)))) | (refine Is_s (joinD_chars ys (by omega)) ?_) | done)
    exact q ys g' ⟨by omega, by omega, hc⟩ hg'
end
section
variable [Hf fs f__law_condition]
theorem condition_W : ∀ (n : Nat) {k : Nat} {g : G} {Q : D → Tag → G → Prop}, n ≤ 3 → Gk g → (∀ (c : Cond) g', c.ok n → Gk g' → Q c.d .fr g') → W (run tbl fs (k + n + 2) "_law_condition" true [.int n] g) Q
  | 0, k, g, Q, hn, hg, q => by
    refine R__law_condition ?_
    unfold b__law_condition
    repeat' (first | fail | ((with_reducible refine taken_W ?_ ?_ ?_ (fun _ _ _ _ _ => ?_)); (· assumption); (· (first | omega | (simp; done) | (simp; omega))); (· (first | omega | (simp; done) | (simp; omega)))) | done)
    rename_i v g1 h1 h2 h3
    refine two (fun hv => ?_) (fun hv => ?_)
    all_goals
      repeat' (first | fail | ((with_reducible refine taken_W ?_ ?_ ?_ (fun _ _ _ _ _ => ?_)); (· assumption); (· (first | omega | (simp; done) | (simp; omega))); (· (first | omega | (simp; done) | (simp; omega)))) | done)
      exact q (.is _ _) _ ⟨by assumption, by assumption, by assumption, by assumption⟩ (by assumption)
  | n + 1, k, g, Q, hn, hg, q => by
    refine R__law_condition ?_
    unfold b__law_condition
    have hz : decide (((n + 1 : Nat) : Int) = 0) = false := decide_eq_false (by omega)
    have hs : ((n + 1 : Nat) : Int) - 1 = (n : Nat) := by omega
    repeat' (first | fail | ((with_reducible refine two_t ?_ ?_); (· (first | rfl | exact hz | (simp [ofs_eq, hz]; done) | (simp; omega)))) | ((with_reducible refine two_f ?_ ?_); (· (first | rfl | exact hz | (simp [ofs_eq, hz]; done) | (simp; omega)))) | ((with_reducible refine taken_W ?_ ?_ ?_ (fun _ _ _ _ _ => ?_)); (· assumption); (· (first | omega | (simp; done) | (simp; omega))); (· (first | omega | (simp; done) | (simp; omega)))) | done)
    rename_i v g1 h1 h2 h3
    refine two (fun hv => ?_) (fun hv => ?_)
    · repeat' (first | fail | ((with_reducible refine taken_W ?_ ?_ ?_ (fun _ _ _ _ _ => ?_)); (· assumption); (· (first | omega | (simp; done) | (simp; omega))); (· (first | omega | (simp; done) | (simp; omega)))) | done)
      exact q (.is _ _) _ (by rw [show (Cond.is _ _).ok (n + 1) = _ from rfl]; exact ⟨by assumption, by assumption, by assumption, by assumption⟩) (by assumption)
    · repeat' (first | fail | ((with_reducible refine two_t ?_ ?_); (· (first | rfl | exact hz | (simp [ofs_eq, hz]; done) | (simp; omega)))) | ((with_reducible refine two_f ?_ ?_); (· (first | rfl | exact hz | (simp [ofs_eq, hz]; done) | (simp; omega)))) | ((with_reducible refine taken_W ?_ ?_ ?_ (fun _ _ _ _ _ => ?_)); (· assumption); (· (first | omega | (simp; done) | (simp; omega))); (· (first | omega | (simp; done) | (simp; omega)))) | done)
      refine two (fun hw => ?_) (fun hw => ?_)
      · repeat' (first | fail | ((with_reducible refine taken_W ?_ ?_ ?_ (fun _ _ _ _ _ => ?_)); (· assumption); (· (first | omega | (simp; done) | (simp; omega))); (· (first | omega | (simp; done) | (simp; omega)))) | done)
        rw [hs]
        refine condition_W n (k := k) (by omega) h3 (fun c g' hc hg' => ?_)
        repeat' (first | fail | ((with_reducible refine taken_W ?_ ?_ ?_ (fun _ _ _ _ _ => ?_)); (· assumption); (· (first | omega | (simp; done) | (simp; omega))); (· (first | omega | (simp; done) | (simp; omega)))) | done)
        exact q (.not c) _ hc hg'
      · repeat' (first | fail | ((with_reducible refine taken_W ?_ ?_ ?_ (fun _ _ _ _ _ => ?_)); (· assumption); (· (first | omega | (simp; done) | (simp; omega))); (· (first | omega | (simp; done) | (simp; omega)))) | done)
        rw [hs]
        refine condition_W n (k := k) (by omega) h3 (fun c g' hc hg' => ?_)
        repeat' (first | fail | ((with_reducible refine taken_W ?_ ?_ ?_ (fun _ _ _ _ _ => ?_)); (· assumption); (· (first | omega | (simp; done) | (simp; omega))); (· (first | omega | (simp; done) | (simp; omega)))) | done)
        rw [hs]
        refine condition_W n (k := k) (by omega) hg' (fun c' g2 hc' hg2 => ?_)
        repeat' (first | fail | ((with_reducible refine taken_W ?_ ?_ ?_ (fun _ _ _ _ _ => ?_)); (· assumption); (· (first | omega | (simp; done) | (simp; omega))); (· (first | omega | (simp; done) | (simp; omega)))) | done)
        exact q (.both c c') _ ⟨hc, hc'⟩ hg2
theorem condition3_W {v : Int} (h0 : 0 ≤ v) (h1 : v < 4) (hg : Gk g) (q : ∀ (c : Cond) g', c.ok 3 → Gk g' → Q c.d .fr g') : W (run tbl fs (k + 5) "_law_condition" true [.int v] g) Q := by
  obtain ⟨n, rfl⟩ : ∃ n : Nat, v = n := ⟨v.toNat, by omega⟩
  have := condition_W (tbl := tbl) (fs := fs) n (k := k + 3 - n) (g := g) (Q := Q) (by omega) hg (fun c g' hc => q c g' (cond_ok_le (by omega) hc))
  rwa [show k + 3 - n + n + 2 = k + 5 by omega] at this
end
section
variable [Hf fs f__law_letters] [Hf fs f__law_clause]
theorem clause_W {m : Int} (hg : Gk g) (hm : 0 < m) (hm2 : m < 1000) (q : ∀ (c : Clause) g', c.ok m → Gk g' → Q c.d .fr g') : W (run tbl fs (k + 3) "_law_clause" true [.int m] g) Q := by
  refine R__law_clause ?_
  unfold b__law_clause
  repeat' (first | fail | ((with_reducible refine taken_W ?_ ?_ ?_ (fun _ _ _ _ _ => ?_)); (· assumption); (· (first | omega | (simp; done) | (simp; omega))); (· (first | omega | (simp; done) | (simp; omega)))) | done)
  rename_i v g1 h1 h2 h3
  refine two (fun hv => ?_) (fun hv => ?_)
  · repeat' (first | fail | ((with_reducible refine taken_W ?_ ?_ ?_ (fun _ _ _ _ _ => ?_)); (· assumption); (· (first | omega | (simp; done) | (simp; omega))); (· (first | omega | (simp; done) | (simp; omega)))) | done)
    rename_i w g2 w1 w2 w3 c g3 c1 c2 c3
    rw [rng_Ri]
    refine comp_draw (enc := PyData.int) (enc' := Part.d) Gk (Part.ok m) c3 (fun x hx g hg => ?_) (fun ys g' hg' hl hc => ?_)
    · repeat' (first | fail | ((with_reducible refine taken_W ?_ ?_ ?_ (fun _ _ _ _ _ => ?_)); (· assumption); (· (first | omega | (simp; done) | (simp; omega))); (· (first | omega | (simp; done) | (simp; omega)))) | done)
      rename_i v g1 h1 h2 h3
      exact ⟨⟨.cite v, rfl, h1, h2⟩, rfl, h3⟩
    · rw [Ri_len] at hl
      repeat' (first | fail | ((with_reducible refine taken_W ?_ ?_ ?_ (fun _ _ _ _ _ => ?_)); (· assumption); (· (first | omega | (simp; done) | (simp; omega))); (· (first | omega | (simp; done) | (simp; omega)))) | done)
      exact q ⟨w, ys⟩ _ ⟨w1, w2, by show 1 ≤ ys.length; omega, by show ys.length ≤ 6; omega, hc⟩ hg'
  · repeat' (first | fail | ((with_reducible refine taken_W ?_ ?_ ?_ (fun _ _ _ _ _ => ?_)); (· assumption); (· (first | omega | (simp; done) | (simp; omega))); (· (first | omega | (simp; done) | (simp; omega)))) | done)
    rename_i c g3 c1 c2 c3 w g2 w1 w2 w3
    refine pick3 w1 w2 (fun o ho => ?_)
    have o1 : 1 ≤ o := by omega
    have o6 : o ≤ 6 := by omega
    repeat' (first | fail | ((with_reducible refine taken_W ?_ ?_ ?_ (fun _ _ _ _ _ => ?_)); (· assumption); (· (first | omega | (simp; done) | (simp; omega))); (· (first | omega | (simp; done) | (simp; omega)))) | done)
    rw [rng_Ri]
    refine for_gen (enc := PyData.int) (fun pre ρ g' => Gk g' ∧ ∃ (ps : List Part) (a b c : Sl), ps.length = pre.length ∧ (∀ x ∈ ps, x.ok m) ∧ ρ = [.row, .imm (.int m), .own (.list (ps.map Part.d)), a, b, c]) ⟨w3, [], _, _, _, rfl, by simp, rfl⟩ (fun pre x post e ρ g' h0 => ?_) (fun ρ g' h0 => ?_)
    · obtain ⟨hg', ps, a, b, c, hl, hps, rfl⟩ := h0
      have hpl : pre.length ≤ 6 := by
        have := congrArg List.length e
        rw [Ri_len] at this
        simp at this
        omega
      repeat' (first | fail | ((with_reducible refine taken_W ?_ ?_ ?_ (fun _ _ _ _ _ => ?_)); (· assumption); (· (first | omega | (simp; done) | (simp; omega))); (· (first | omega | (simp; done) | (simp; omega)))) | done)
      rename_i v g1 h1 h2 h3 u1 g4 u2 u3 u4 u5 g5 u6 u7 u8
      refine two (fun hv => ?_) (fun hv => ?_)
      · have hv2 : v = 0 ∨ v = 1 := by have := of_decide_eq_true hv; omega
        rcases hv2 with rfl | rfl
        · repeat' (first | fail | ((with_reducible refine taken_W ?_ ?_ ?_ (fun _ _ _ _ _ => ?_)); (· assumption); (· (first | omega | (simp; done) | (simp; omega))); (· (first | omega | (simp; done) | (simp; omega)))) | done)
          refine ⟨u8, ps ++ [.fill u1], _, _, _, by simp [hl], ?_, by rw [List.map_append]; rfl⟩
          intro x hx
          rcases List.mem_append.mp hx with z | z
          · exact hps x z
          · rw [List.mem_singleton.mp z]; exact ⟨u2, u3⟩
        · repeat' (first | fail | ((with_reducible refine taken_W ?_ ?_ ?_ (fun _ _ _ _ _ => ?_)); (· assumption); (· (first | omega | (simp; done) | (simp; omega))); (· (first | omega | (simp; done) | (simp; omega)))) | done)
          refine ⟨u8, ps ++ [.cite u5], _, _, _, by simp [hl], ?_, by rw [List.map_append]; rfl⟩
          intro x hx
          rcases List.mem_append.mp hx with z | z
          · exact hps x z
          · rw [List.mem_singleton.mp z]; exact ⟨u6, u7⟩
      · repeat' (first | fail | ((with_reducible refine taken_W ?_ ?_ ?_ (fun _ _ _ _ _ => ?_)); (· assumption); (· (first | omega | (simp; done) | (simp; omega))); (· (first | omega | (simp; done) | (simp; omega)))) | done)
        refine letters_W u8 (fun l g' hlw hg' => ?_)
        repeat' (first | fail | ((with_reducible refine taken_W ?_ ?_ ?_ (fun _ _ _ _ _ => ?_)); (· assumption); (· (first | omega | (simp; done) | (simp; omega))); (· (first | omega | (simp; done) | (simp; omega)))) | done)
        refine ⟨hg', ps ++ [.text l], _, _, _, by simp [hl], ?_, by rw [List.map_append]; rfl⟩
        intro x hx
        rcases List.mem_append.mp hx with z | z
        · exact hps x z
        · rw [List.mem_singleton.mp z]; exact hlw
    · obtain ⟨hg', ps, a, b, c, hl, hps, rfl⟩ := h0
      rw [Ri_len] at hl
      repeat' (first | fail | ((with_reducible refine taken_W ?_ ?_ ?_ (fun _ _ _ _ _ => ?_)); (· assumption); (· (first | omega | (simp; done) | (simp; omega))); (· (first | omega | (simp; done) | (simp; omega)))) | done)
      rename_i v g1 h1 h2 h3
      refine pick3 h1 h2 (fun o' ho' => ?_)
      have o1 : 0 < o' := by omega
      have o6 : o' ≤ 4 := by omega
      repeat' (first | fail | ((with_reducible refine taken_W ?_ ?_ ?_ (fun _ _ _ _ _ => ?_)); (· assumption); (· (first | omega | (simp; done) | (simp; omega))); (· (first | omega | (simp; done) | (simp; omega)))) | done)
      rename_i v g1 h1 h2 h3
      exact q ⟨v, ps⟩ _ ⟨h1, by show v < 4; omega, by show 1 ≤ ps.length; omega, by show ps.length ≤ 6; omega, hps⟩ h3
end

theorem pick10 {v : Int} {DQ : D → Prop} (h0 : 0 ≤ v) (h1 : v < 10) (q : ∀ o, (o = ("needs" : Str) ∨ o = ("bars" : Str) ∨ o = ("ahead" : Str) ∨ o = ("when" : Str) ∨ o = ("only" : Str) ∨ o = ("one" : Str) ∨ o = ("some" : Str)) → DQ (.str o)) : Is (idxD (.list [.str "needs", .str "needs", .str "bars", .str "bars", .str "ahead", .str "ahead", .str "when", .str "only", .str "one", .str "some"]) (.int v)) DQ := by
  have : v = 0 ∨ v = 1 ∨ v = 2 ∨ v = 3 ∨ v = 4 ∨ v = 5 ∨ v = 6 ∨ v = 7 ∨ v = 8 ∨ v = 9 := by omega
  rcases this with rfl | rfl | rfl | rfl | rfl | rfl | rfl | rfl | rfl | rfl
  · exact ⟨q _ (.inl rfl)⟩
  · exact ⟨q _ (.inl rfl)⟩
  · exact ⟨q _ (.inr (.inl rfl))⟩
  · exact ⟨q _ (.inr (.inl rfl))⟩
  · exact ⟨q _ (.inr (.inr (.inl rfl)))⟩
  · exact ⟨q _ (.inr (.inr (.inl rfl)))⟩
  · exact ⟨q _ (.inr (.inr (.inr (.inl rfl))))⟩
  · exact ⟨q _ (.inr (.inr (.inr (.inr (.inl rfl)))))⟩
  · exact ⟨q _ (.inr (.inr (.inr (.inr (.inr (.inl rfl))))))⟩
  · exact ⟨q _ (.inr (.inr (.inr (.inr (.inr (.inr rfl))))))⟩
theorem want_pair {m a b : Int} (hm : 1 < m) (h1 : 0 ≤ a) (h2 : a < m) (h3 : 0 ≤ b) (h4 : b < m - 1) : two_ m a ((a + 1 + b).fmod m) := by
  have p1 := fmod_lt (a := a + 1 + b) (m := m) (by omega)
  refine ⟨h1, h2, p1.1, p1.2, fun e => ?_⟩
  have : (a + 1 + b).fmod m = a + 1 + b ∨ (a + 1 + b).fmod m = a + 1 + b - m := by
    rw [Int.fmod_eq_emod_of_nonneg _ (by omega)]
    by_cases h : a + 1 + b < m
    · exact .inl (Int.emod_eq_of_lt (by omega) h)
    · right
      rw [← Int.sub_emod_right]
      exact Int.emod_eq_of_lt (by omega) (by omega)
  omega

section
variable [Hf fs f__law_condition] [Hf fs f__law_want]
theorem want_W0 {m : Nat} (hg : Gk g) (hm : 0 < m) (hm2 : m < 1000) (q : ∀ (w : Want) g', w.ok m → Gk g' → Q w.d .fr g') : W (run tbl fs (k + 6) "_law_want" true [.int m] g) Q := by
  refine R__law_want ?_
  unfold b__law_want
  repeat' (first | fail | ((with_reducible refine taken_W ?_ ?_ ?_ (fun _ _ _ _ _ => ?_)); (· assumption); (· (first | omega | (simp; done) | (simp; omega))); (· (first | omega | (simp; done) | (simp; omega)))) | done)
  rename_i v g1 h1 h2 h3
  refine pick10 h1 h2 (fun o ho => ?_)
  clear hg
  have hg := h3
  clear h1 h2 h3
  rcases ho with rfl | rfl | rfl | rfl | rfl | rfl | rfl
  · by_cases h1 : (m : Int) = 1
    · have hm1 : decide ((m : Int) = 1) = true := decide_eq_true h1
      repeat' (first | fail | ((with_reducible refine two_t ?_ ?_); (· (first | rfl | exact hm1 | (simp [ofs_eq, hm1]; done) | (simp; omega)))) | ((with_reducible refine two_f ?_ ?_); (· (first | rfl | exact hm1 | (simp [ofs_eq, hm1]; done) | (simp; omega)))) | ((with_reducible refine taken_W ?_ ?_ ?_ (fun _ _ _ _ _ => ?_)); (· assumption); (· (first | omega | (simp; done) | (simp; omega))); (· (first | omega | (simp; done) | (simp; omega)))) | done)
      rename_i v g1 h1 h2 h3
      refine condition3_W (k := k) h1 h2 h3 (fun c g2 hc hg2 => ?_)
      repeat' (first | fail | ((with_reducible refine taken_W ?_ ?_ ?_ (fun _ _ _ _ _ => ?_)); (· assumption); (· (first | omega | (simp; done) | (simp; omega))); (· (first | omega | (simp; done) | (simp; omega)))) | done)
      rename_i u g3 u1 u2 u3
      exact q (.only c u) _ ⟨hc, u1, u2⟩ u3
    · have hm1 : decide ((m : Int) = 1) = false := decide_eq_false h1
      repeat' (first | fail | ((with_reducible refine two_t ?_ ?_); (· (first | rfl | exact hm1 | (simp [ofs_eq, hm1]; done) | (simp; omega)))) | ((with_reducible refine two_f ?_ ?_); (· (first | rfl | exact hm1 | (simp [ofs_eq, hm1]; done) | (simp; omega)))) | ((with_reducible refine taken_W ?_ ?_ ?_ (fun _ _ _ _ _ => ?_)); (· assumption); (· (first | omega | (simp; done) | (simp; omega))); (· (first | omega | (simp; done) | (simp; omega)))) | done)
      rename_i v g1 h1 h2 h3 u g2 u1 u2 u3
      exact q (.needs v _) _ (want_pair (by omega) h1 h2 u1 u2) u3
  · by_cases h1 : (m : Int) = 1
    · have hm1 : decide ((m : Int) = 1) = true := decide_eq_true h1
      repeat' (first | fail | ((with_reducible refine two_t ?_ ?_); (· (first | rfl | exact hm1 | (simp [ofs_eq, hm1]; done) | (simp; omega)))) | ((with_reducible refine two_f ?_ ?_); (· (first | rfl | exact hm1 | (simp [ofs_eq, hm1]; done) | (simp; omega)))) | ((with_reducible refine taken_W ?_ ?_ ?_ (fun _ _ _ _ _ => ?_)); (· assumption); (· (first | omega | (simp; done) | (simp; omega))); (· (first | omega | (simp; done) | (simp; omega)))) | done)
      rename_i v g1 h1 h2 h3
      refine condition3_W (k := k) h1 h2 h3 (fun c g2 hc hg2 => ?_)
      repeat' (first | fail | ((with_reducible refine taken_W ?_ ?_ ?_ (fun _ _ _ _ _ => ?_)); (· assumption); (· (first | omega | (simp; done) | (simp; omega))); (· (first | omega | (simp; done) | (simp; omega)))) | done)
      rename_i u g3 u1 u2 u3
      exact q (.only c u) _ ⟨hc, u1, u2⟩ u3
    · have hm1 : decide ((m : Int) = 1) = false := decide_eq_false h1
      repeat' (first | fail | ((with_reducible refine two_t ?_ ?_); (· (first | rfl | exact hm1 | (simp [ofs_eq, hm1]; done) | (simp; omega)))) | ((with_reducible refine two_f ?_ ?_); (· (first | rfl | exact hm1 | (simp [ofs_eq, hm1]; done) | (simp; omega)))) | ((with_reducible refine taken_W ?_ ?_ ?_ (fun _ _ _ _ _ => ?_)); (· assumption); (· (first | omega | (simp; done) | (simp; omega))); (· (first | omega | (simp; done) | (simp; omega)))) | done)
      rename_i v g1 h1 h2 h3 u g2 u1 u2 u3
      exact q (.bars v _) _ (want_pair (by omega) h1 h2 u1 u2) u3
  · by_cases h1 : (m : Int) = 1
    · have hm1 : decide ((m : Int) = 1) = true := decide_eq_true h1
      repeat' (first | fail | ((with_reducible refine two_t ?_ ?_); (· (first | rfl | exact hm1 | (simp [ofs_eq, hm1]; done) | (simp; omega)))) | ((with_reducible refine two_f ?_ ?_); (· (first | rfl | exact hm1 | (simp [ofs_eq, hm1]; done) | (simp; omega)))) | ((with_reducible refine taken_W ?_ ?_ ?_ (fun _ _ _ _ _ => ?_)); (· assumption); (· (first | omega | (simp; done) | (simp; omega))); (· (first | omega | (simp; done) | (simp; omega)))) | done)
      rename_i v g1 h1 h2 h3
      refine condition3_W (k := k) h1 h2 h3 (fun c g2 hc hg2 => ?_)
      repeat' (first | fail | ((with_reducible refine taken_W ?_ ?_ ?_ (fun _ _ _ _ _ => ?_)); (· assumption); (· (first | omega | (simp; done) | (simp; omega))); (· (first | omega | (simp; done) | (simp; omega)))) | done)
      rename_i u g3 u1 u2 u3
      exact q (.only c u) _ ⟨hc, u1, u2⟩ u3
    · have hm1 : decide ((m : Int) = 1) = false := decide_eq_false h1
      repeat' (first | fail | ((with_reducible refine two_t ?_ ?_); (· (first | rfl | exact hm1 | (simp [ofs_eq, hm1]; done) | (simp; omega)))) | ((with_reducible refine two_f ?_ ?_); (· (first | rfl | exact hm1 | (simp [ofs_eq, hm1]; done) | (simp; omega)))) | ((with_reducible refine taken_W ?_ ?_ ?_ (fun _ _ _ _ _ => ?_)); (· assumption); (· (first | omega | (simp; done) | (simp; omega))); (· (first | omega | (simp; done) | (simp; omega)))) | done)
      rename_i v g1 h1 h2 h3 u g2 u1 u2 u3
      exact q (.ahead v _) _ (want_pair (by omega) h1 h2 u1 u2) u3
  · by_cases h1 : (m : Int) = 1
    all_goals
      have hm1 : decide ((m : Int) = 1) = decide ((m : Int) = 1) := rfl
      first
        | rw [decide_eq_true h1] at hm1
        | rw [decide_eq_false h1] at hm1
      repeat' (first | fail | ((with_reducible refine two_t ?_ ?_); (· (first | rfl | exact hm1 | (simp [ofs_eq, hm1]; done) | (simp; omega)))) | ((with_reducible refine two_f ?_ ?_); (· (first | rfl | exact hm1 | (simp [ofs_eq, hm1]; done) | (simp; omega)))) | ((with_reducible refine taken_W ?_ ?_ ?_ (fun _ _ _ _ _ => ?_)); (· assumption); (· (first | omega | (simp; done) | (simp; omega))); (· (first | omega | (simp; done) | (simp; omega)))) | done)
      rename_i v g1 h1 h2 h3
      refine condition3_W (k := k) h1 h2 h3 (fun c g2 hc hg2 => ?_)
      repeat' (first | fail | ((with_reducible refine taken_W ?_ ?_ ?_ (fun _ _ _ _ _ => ?_)); (· assumption); (· (first | omega | (simp; done) | (simp; omega))); (· (first | omega | (simp; done) | (simp; omega)))) | done)
      rename_i u g3 u1 u2 u3
      exact q (.when c u) _ ⟨hc, u1, u2⟩ u3
  · by_cases h1 : (m : Int) = 1
    all_goals
      have hm1 : decide ((m : Int) = 1) = decide ((m : Int) = 1) := rfl
      first
        | rw [decide_eq_true h1] at hm1
        | rw [decide_eq_false h1] at hm1
      repeat' (first | fail | ((with_reducible refine two_t ?_ ?_); (· (first | rfl | exact hm1 | (simp [ofs_eq, hm1]; done) | (simp; omega)))) | ((with_reducible refine two_f ?_ ?_); (· (first | rfl | exact hm1 | (simp [ofs_eq, hm1]; done) | (simp; omega)))) | ((with_reducible refine taken_W ?_ ?_ ?_ (fun _ _ _ _ _ => ?_)); (· assumption); (· (first | omega | (simp; done) | (simp; omega))); (· (first | omega | (simp; done) | (simp; omega)))) | done)
      rename_i v g1 h1 h2 h3
      refine condition3_W (k := k) h1 h2 h3 (fun c g2 hc hg2 => ?_)
      repeat' (first | fail | ((with_reducible refine taken_W ?_ ?_ ?_ (fun _ _ _ _ _ => ?_)); (· assumption); (· (first | omega | (simp; done) | (simp; omega))); (· (first | omega | (simp; done) | (simp; omega)))) | done)
      rename_i u g3 u1 u2 u3
      exact q (.only c u) _ ⟨hc, u1, u2⟩ u3
  · by_cases h1 : (m : Int) = 1
    all_goals
      have hm1 : decide ((m : Int) = 1) = decide ((m : Int) = 1) := rfl
      first
        | rw [decide_eq_true h1] at hm1
        | rw [decide_eq_false h1] at hm1
      repeat' (first | fail | ((with_reducible refine two_t ?_ ?_); (· (first | rfl | exact hm1 | (simp [ofs_eq, hm1]; done) | (simp; omega)))) | ((with_reducible refine two_f ?_ ?_); (· (first | rfl | exact hm1 | (simp [ofs_eq, hm1]; done) | (simp; omega)))) | ((with_reducible refine taken_W ?_ ?_ ?_ (fun _ _ _ _ _ => ?_)); (· assumption); (· (first | omega | (simp; done) | (simp; omega))); (· (first | omega | (simp; done) | (simp; omega)))) | done)
      rw [rng_Ri]
      refine comp_sieve (enc := PyData.int) Gk hg (fun x hx g hg => ?_) (fun ys g' hg' hs => ?_)
      · repeat' (first | fail | ((with_reducible refine taken_W ?_ ?_ ?_ (fun _ _ _ _ _ => ?_)); (· assumption); (· (first | omega | (simp; done) | (simp; omega))); (· (first | omega | (simp; done) | (simp; omega)))) | done)
        refine two (fun _ => ?_) (fun _ => ?_)
        · repeat' (first | fail | ((with_reducible refine taken_W ?_ ?_ ?_ (fun _ _ _ _ _ => ?_)); (· assumption); (· (first | omega | (simp; done) | (simp; omega))); (· (first | omega | (simp; done) | (simp; omega)))) | done)
          exact ⟨rfl, rfl, by assumption⟩
        · assumption
      · have ha : asc m ys := sub_asc hs (by rw [Int.toNat_natCast]; exact Ri_asc0)
        cases ys with
        | nil =>
          repeat' (first | fail | ((with_reducible refine taken_W ?_ ?_ ?_ (fun _ _ _ _ _ => ?_)); (· assumption); (· (first | omega | (simp; done) | (simp; omega))); (· (first | omega | (simp; done) | (simp; omega)))) | done)
          rename_i v g1 h1 h2 h3
          exact q (.one [v]) _ ⟨⟨List.pairwise_singleton _ _, fun u hu => by rw [List.mem_singleton.mp hu]; exact ⟨h1, h2⟩⟩, by simp⟩ h3
        | cons y ys =>
          repeat' (first | fail | ((with_reducible refine taken_W ?_ ?_ ?_ (fun _ _ _ _ _ => ?_)); (· assumption); (· (first | omega | (simp; done) | (simp; omega))); (· (first | omega | (simp; done) | (simp; omega)))) | done)
          exact q (.one (y :: ys)) _ ⟨ha, by simp⟩ hg'
  · by_cases h1 : (m : Int) = 1
    all_goals
      have hm1 : decide ((m : Int) = 1) = decide ((m : Int) = 1) := rfl
      first
        | rw [decide_eq_true h1] at hm1
        | rw [decide_eq_false h1] at hm1
      repeat' (first | fail | ((with_reducible refine two_t ?_ ?_); (· (first | rfl | exact hm1 | (simp [ofs_eq, hm1]; done) | (simp; omega)))) | ((with_reducible refine two_f ?_ ?_); (· (first | rfl | exact hm1 | (simp [ofs_eq, hm1]; done) | (simp; omega)))) | ((with_reducible refine taken_W ?_ ?_ ?_ (fun _ _ _ _ _ => ?_)); (· assumption); (· (first | omega | (simp; done) | (simp; omega))); (· (first | omega | (simp; done) | (simp; omega)))) | done)
      rw [rng_Ri]
      refine comp_sieve (enc := PyData.int) Gk hg (fun x hx g hg => ?_) (fun ys g' hg' hs => ?_)
      · repeat' (first | fail | ((with_reducible refine taken_W ?_ ?_ ?_ (fun _ _ _ _ _ => ?_)); (· assumption); (· (first | omega | (simp; done) | (simp; omega))); (· (first | omega | (simp; done) | (simp; omega)))) | done)
        refine two (fun _ => ?_) (fun _ => ?_)
        · repeat' (first | fail | ((with_reducible refine taken_W ?_ ?_ ?_ (fun _ _ _ _ _ => ?_)); (· assumption); (· (first | omega | (simp; done) | (simp; omega))); (· (first | omega | (simp; done) | (simp; omega)))) | done)
          exact ⟨rfl, rfl, by assumption⟩
        · assumption
      · have ha : asc m ys := sub_asc hs (by rw [Int.toNat_natCast]; exact Ri_asc0)
        cases ys with
        | nil =>
          repeat' (first | fail | ((with_reducible refine taken_W ?_ ?_ ?_ (fun _ _ _ _ _ => ?_)); (· assumption); (· (first | omega | (simp; done) | (simp; omega))); (· (first | omega | (simp; done) | (simp; omega)))) | done)
          rename_i v g1 h1 h2 h3
          exact q (.some [v]) _ ⟨⟨List.pairwise_singleton _ _, fun u hu => by rw [List.mem_singleton.mp hu]; exact ⟨h1, h2⟩⟩, by simp⟩ h3
        | cons y ys =>
          repeat' (first | fail | ((with_reducible refine taken_W ?_ ?_ ?_ (fun _ _ _ _ _ => ?_)); (· assumption); (· (first | omega | (simp; done) | (simp; omega))); (· (first | omega | (simp; done) | (simp; omega)))) | done)
          exact q (.some (y :: ys)) _ ⟨ha, by simp⟩ hg'
end

section
variable [Hf fs f__law_condition] [Hf fs f__law_want'1]
theorem want_W01 {m : Nat} (hg : Gk g) (hm : 0 < m) (hm2 : m < 1000) (q : ∀ (w : Want) g', w.ok m → Gk g' → Q w.d .fr g') : W (run tbl fs (k + 6) "_law_want" true [.int m] g) Q := by
  refine R__law_want'1 ?_
  unfold b__law_want'1
  repeat' (first | fail | ((with_reducible refine taken_W ?_ ?_ ?_ (fun _ _ _ _ _ => ?_)); (· assumption); (· (first | omega | (simp; done) | (simp; omega))); (· (first | omega | (simp; done) | (simp; omega)))) | done)
  rename_i v g1 h1 h2 h3
  refine pick10 h1 h2 (fun o ho => ?_)
  clear hg
  have hg := h3
  clear h1 h2 h3
  rcases ho with rfl | rfl | rfl | rfl | rfl | rfl | rfl
  · by_cases h1 : (m : Int) = 1
    · have hm1 : decide ((m : Int) = 1) = true := decide_eq_true h1
      repeat' (first | fail | ((with_reducible refine two_t ?_ ?_); (· (first | rfl | exact hm1 | (simp [ofs_eq, hm1]; done) | (simp; omega)))) | ((with_reducible refine two_f ?_ ?_); (· (first | rfl | exact hm1 | (simp [ofs_eq, hm1]; done) | (simp; omega)))) | ((with_reducible refine taken_W ?_ ?_ ?_ (fun _ _ _ _ _ => ?_)); (· assumption); (· (first | omega | (simp; done) | (simp; omega))); (· (first | omega | (simp; done) | (simp; omega)))) | done)
      rename_i v g1 h1 h2 h3
      refine condition3_W (k := k) h1 h2 h3 (fun c g2 hc hg2 => ?_)
      repeat' (first | fail | ((with_reducible refine taken_W ?_ ?_ ?_ (fun _ _ _ _ _ => ?_)); (· assumption); (· (first | omega | (simp; done) | (simp; omega))); (· (first | omega | (simp; done) | (simp; omega)))) | done)
      rename_i u g3 u1 u2 u3
      exact q (.only c u) _ ⟨hc, u1, u2⟩ u3
    · have hm1 : decide ((m : Int) = 1) = false := decide_eq_false h1
      repeat' (first | fail | ((with_reducible refine two_t ?_ ?_); (· (first | rfl | exact hm1 | (simp [ofs_eq, hm1]; done) | (simp; omega)))) | ((with_reducible refine two_f ?_ ?_); (· (first | rfl | exact hm1 | (simp [ofs_eq, hm1]; done) | (simp; omega)))) | ((with_reducible refine taken_W ?_ ?_ ?_ (fun _ _ _ _ _ => ?_)); (· assumption); (· (first | omega | (simp; done) | (simp; omega))); (· (first | omega | (simp; done) | (simp; omega)))) | done)
      rename_i v g1 h1 h2 h3 u g2 u1 u2 u3
      exact q (.needs v _) _ (want_pair (by omega) h1 h2 u1 u2) u3
  · by_cases h1 : (m : Int) = 1
    · have hm1 : decide ((m : Int) = 1) = true := decide_eq_true h1
      repeat' (first | fail | ((with_reducible refine two_t ?_ ?_); (· (first | rfl | exact hm1 | (simp [ofs_eq, hm1]; done) | (simp; omega)))) | ((with_reducible refine two_f ?_ ?_); (· (first | rfl | exact hm1 | (simp [ofs_eq, hm1]; done) | (simp; omega)))) | ((with_reducible refine taken_W ?_ ?_ ?_ (fun _ _ _ _ _ => ?_)); (· assumption); (· (first | omega | (simp; done) | (simp; omega))); (· (first | omega | (simp; done) | (simp; omega)))) | done)
      rename_i v g1 h1 h2 h3
      refine condition3_W (k := k) h1 h2 h3 (fun c g2 hc hg2 => ?_)
      repeat' (first | fail | ((with_reducible refine taken_W ?_ ?_ ?_ (fun _ _ _ _ _ => ?_)); (· assumption); (· (first | omega | (simp; done) | (simp; omega))); (· (first | omega | (simp; done) | (simp; omega)))) | done)
      rename_i u g3 u1 u2 u3
      exact q (.only c u) _ ⟨hc, u1, u2⟩ u3
    · have hm1 : decide ((m : Int) = 1) = false := decide_eq_false h1
      repeat' (first | fail | ((with_reducible refine two_t ?_ ?_); (· (first | rfl | exact hm1 | (simp [ofs_eq, hm1]; done) | (simp; omega)))) | ((with_reducible refine two_f ?_ ?_); (· (first | rfl | exact hm1 | (simp [ofs_eq, hm1]; done) | (simp; omega)))) | ((with_reducible refine taken_W ?_ ?_ ?_ (fun _ _ _ _ _ => ?_)); (· assumption); (· (first | omega | (simp; done) | (simp; omega))); (· (first | omega | (simp; done) | (simp; omega)))) | done)
      rename_i v g1 h1 h2 h3 u g2 u1 u2 u3
      exact q (.bars v _) _ (want_pair (by omega) h1 h2 u1 u2) u3
  · by_cases h1 : (m : Int) = 1
    · have hm1 : decide ((m : Int) = 1) = true := decide_eq_true h1
      repeat' (first | fail | ((with_reducible refine two_t ?_ ?_); (· (first | rfl | exact hm1 | (simp [ofs_eq, hm1]; done) | (simp; omega)))) | ((with_reducible refine two_f ?_ ?_); (· (first | rfl | exact hm1 | (simp [ofs_eq, hm1]; done) | (simp; omega)))) | ((with_reducible refine taken_W ?_ ?_ ?_ (fun _ _ _ _ _ => ?_)); (· assumption); (· (first | omega | (simp; done) | (simp; omega))); (· (first | omega | (simp; done) | (simp; omega)))) | done)
      rename_i v g1 h1 h2 h3
      refine condition3_W (k := k) h1 h2 h3 (fun c g2 hc hg2 => ?_)
      repeat' (first | fail | ((with_reducible refine taken_W ?_ ?_ ?_ (fun _ _ _ _ _ => ?_)); (· assumption); (· (first | omega | (simp; done) | (simp; omega))); (· (first | omega | (simp; done) | (simp; omega)))) | done)
      rename_i u g3 u1 u2 u3
      exact q (.only c u) _ ⟨hc, u1, u2⟩ u3
    · have hm1 : decide ((m : Int) = 1) = false := decide_eq_false h1
      repeat' (first | fail | ((with_reducible refine two_t ?_ ?_); (· (first | rfl | exact hm1 | (simp [ofs_eq, hm1]; done) | (simp; omega)))) | ((with_reducible refine two_f ?_ ?_); (· (first | rfl | exact hm1 | (simp [ofs_eq, hm1]; done) | (simp; omega)))) | ((with_reducible refine taken_W ?_ ?_ ?_ (fun _ _ _ _ _ => ?_)); (· assumption); (· (first | omega | (simp; done) | (simp; omega))); (· (first | omega | (simp; done) | (simp; omega)))) | done)
      rename_i v g1 h1 h2 h3 u g2 u1 u2 u3
      exact q (.ahead v _) _ (want_pair (by omega) h1 h2 u1 u2) u3
  · by_cases h1 : (m : Int) = 1
    all_goals
      have hm1 : decide ((m : Int) = 1) = decide ((m : Int) = 1) := rfl
      first
        | rw [decide_eq_true h1] at hm1
        | rw [decide_eq_false h1] at hm1
      repeat' (first | fail | ((with_reducible refine two_t ?_ ?_); (· (first | rfl | exact hm1 | (simp [ofs_eq, hm1]; done) | (simp; omega)))) | ((with_reducible refine two_f ?_ ?_); (· (first | rfl | exact hm1 | (simp [ofs_eq, hm1]; done) | (simp; omega)))) | ((with_reducible refine taken_W ?_ ?_ ?_ (fun _ _ _ _ _ => ?_)); (· assumption); (· (first | omega | (simp; done) | (simp; omega))); (· (first | omega | (simp; done) | (simp; omega)))) | done)
      rename_i v g1 h1 h2 h3
      refine condition3_W (k := k) h1 h2 h3 (fun c g2 hc hg2 => ?_)
      repeat' (first | fail | ((with_reducible refine taken_W ?_ ?_ ?_ (fun _ _ _ _ _ => ?_)); (· assumption); (· (first | omega | (simp; done) | (simp; omega))); (· (first | omega | (simp; done) | (simp; omega)))) | done)
      rename_i u g3 u1 u2 u3
      exact q (.when c u) _ ⟨hc, u1, u2⟩ u3
  · by_cases h1 : (m : Int) = 1
    all_goals
      have hm1 : decide ((m : Int) = 1) = decide ((m : Int) = 1) := rfl
      first
        | rw [decide_eq_true h1] at hm1
        | rw [decide_eq_false h1] at hm1
      repeat' (first | fail | ((with_reducible refine two_t ?_ ?_); (· (first | rfl | exact hm1 | (simp [ofs_eq, hm1]; done) | (simp; omega)))) | ((with_reducible refine two_f ?_ ?_); (· (first | rfl | exact hm1 | (simp [ofs_eq, hm1]; done) | (simp; omega)))) | ((with_reducible refine taken_W ?_ ?_ ?_ (fun _ _ _ _ _ => ?_)); (· assumption); (· (first | omega | (simp; done) | (simp; omega))); (· (first | omega | (simp; done) | (simp; omega)))) | done)
      rename_i v g1 h1 h2 h3
      refine condition3_W (k := k) h1 h2 h3 (fun c g2 hc hg2 => ?_)
      repeat' (first | fail | ((with_reducible refine taken_W ?_ ?_ ?_ (fun _ _ _ _ _ => ?_)); (· assumption); (· (first | omega | (simp; done) | (simp; omega))); (· (first | omega | (simp; done) | (simp; omega)))) | done)
      rename_i u g3 u1 u2 u3
      exact q (.only c u) _ ⟨hc, u1, u2⟩ u3
  · by_cases h1 : (m : Int) = 1
    all_goals
      have hm1 : decide ((m : Int) = 1) = decide ((m : Int) = 1) := rfl
      first
        | rw [decide_eq_true h1] at hm1
        | rw [decide_eq_false h1] at hm1
      repeat' (first | fail | ((with_reducible refine two_t ?_ ?_); (· (first | rfl | exact hm1 | (simp [ofs_eq, hm1]; done) | (simp; omega)))) | ((with_reducible refine two_f ?_ ?_); (· (first | rfl | exact hm1 | (simp [ofs_eq, hm1]; done) | (simp; omega)))) | ((with_reducible refine taken_W ?_ ?_ ?_ (fun _ _ _ _ _ => ?_)); (· assumption); (· (first | omega | (simp; done) | (simp; omega))); (· (first | omega | (simp; done) | (simp; omega)))) | done)
      rw [rng_Ri]
      refine comp_sieve (enc := PyData.int) Gk hg (fun x hx g hg => ?_) (fun ys g' hg' hs => ?_)
      · repeat' (first | fail | ((with_reducible refine taken_W ?_ ?_ ?_ (fun _ _ _ _ _ => ?_)); (· assumption); (· (first | omega | (simp; done) | (simp; omega))); (· (first | omega | (simp; done) | (simp; omega)))) | done)
        refine two (fun _ => ?_) (fun _ => ?_)
        · repeat' (first | fail | ((with_reducible refine taken_W ?_ ?_ ?_ (fun _ _ _ _ _ => ?_)); (· assumption); (· (first | omega | (simp; done) | (simp; omega))); (· (first | omega | (simp; done) | (simp; omega)))) | done)
          exact ⟨rfl, rfl, by assumption⟩
        · assumption
      · have ha : asc m ys := sub_asc hs (by rw [Int.toNat_natCast]; exact Ri_asc0)
        cases ys with
        | nil =>
          repeat' (first | fail | ((with_reducible refine taken_W ?_ ?_ ?_ (fun _ _ _ _ _ => ?_)); (· assumption); (· (first | omega | (simp; done) | (simp; omega))); (· (first | omega | (simp; done) | (simp; omega)))) | done)
          rename_i v g1 h1 h2 h3
          exact q (.one [v]) _ ⟨⟨List.pairwise_singleton _ _, fun u hu => by rw [List.mem_singleton.mp hu]; exact ⟨h1, h2⟩⟩, by simp⟩ h3
        | cons y ys =>
          repeat' (first | fail | ((with_reducible refine taken_W ?_ ?_ ?_ (fun _ _ _ _ _ => ?_)); (· assumption); (· (first | omega | (simp; done) | (simp; omega))); (· (first | omega | (simp; done) | (simp; omega)))) | done)
          exact q (.one (y :: ys)) _ ⟨ha, by simp⟩ hg'
  · by_cases h1 : (m : Int) = 1
    all_goals
      have hm1 : decide ((m : Int) = 1) = decide ((m : Int) = 1) := rfl
      first
        | rw [decide_eq_true h1] at hm1
        | rw [decide_eq_false h1] at hm1
      repeat' (first | fail | ((with_reducible refine two_t ?_ ?_); (· (first | rfl | exact hm1 | (simp [ofs_eq, hm1]; done) | (simp; omega)))) | ((with_reducible refine two_f ?_ ?_); (· (first | rfl | exact hm1 | (simp [ofs_eq, hm1]; done) | (simp; omega)))) | ((with_reducible refine taken_W ?_ ?_ ?_ (fun _ _ _ _ _ => ?_)); (· assumption); (· (first | omega | (simp; done) | (simp; omega))); (· (first | omega | (simp; done) | (simp; omega)))) | done)
      rw [rng_Ri]
      refine comp_sieve (enc := PyData.int) Gk hg (fun x hx g hg => ?_) (fun ys g' hg' hs => ?_)
      · repeat' (first | fail | ((with_reducible refine taken_W ?_ ?_ ?_ (fun _ _ _ _ _ => ?_)); (· assumption); (· (first | omega | (simp; done) | (simp; omega))); (· (first | omega | (simp; done) | (simp; omega)))) | done)
        refine two (fun _ => ?_) (fun _ => ?_)
        · repeat' (first | fail | ((with_reducible refine taken_W ?_ ?_ ?_ (fun _ _ _ _ _ => ?_)); (· assumption); (· (first | omega | (simp; done) | (simp; omega))); (· (first | omega | (simp; done) | (simp; omega)))) | done)
          exact ⟨rfl, rfl, by assumption⟩
        · assumption
      · have ha : asc m ys := sub_asc hs (by rw [Int.toNat_natCast]; exact Ri_asc0)
        cases ys with
        | nil =>
          repeat' (first | fail | ((with_reducible refine taken_W ?_ ?_ ?_ (fun _ _ _ _ _ => ?_)); (· assumption); (· (first | omega | (simp; done) | (simp; omega))); (· (first | omega | (simp; done) | (simp; omega)))) | done)
          rename_i v g1 h1 h2 h3
          exact q (.some [v]) _ ⟨⟨List.pairwise_singleton _ _, fun u hu => by rw [List.mem_singleton.mp hu]; exact ⟨h1, h2⟩⟩, by simp⟩ h3
        | cons y ys =>
          repeat' (first | fail | ((with_reducible refine taken_W ?_ ?_ ?_ (fun _ _ _ _ _ => ?_)); (· assumption); (· (first | omega | (simp; done) | (simp; omega))); (· (first | omega | (simp; done) | (simp; omega)))) | done)
          exact q (.some (y :: ys)) _ ⟨ha, by simp⟩ hg'
end

/-- the law's wants -/
class Wn (tbl : TblS) (fs : List Fd) : Prop where
  h : ∀ {k : Nat} {g : G} {Q : D → Tag → G → Prop} {m : Nat}, Gk g → 0 < m → m < 1000 → (∀ (w : Want) g', w.ok m → Gk g' → Q w.d .fr g') → W (run tbl fs (k + 6) "_law_want" true [.int m] g) Q
instance [Hf fs f__law_condition] [Hf fs f__law_want] : Wn tbl fs := ⟨fun hg h0 h1 q => want_W0 hg h0 h1 q⟩
instance [Hf fs f__law_condition] [Hf fs f__law_want'1] : Wn tbl fs := ⟨fun hg h0 h1 q => want_W01 hg h0 h1 q⟩
section
variable [Wn tbl fs] [Hf fs f__law_letters] [Hf fs f__law_clause] [Hf fs f__law_book]
theorem book_W {most : Int} (hg : Gk g) (h1 : 1 ≤ most) (h8 : most ≤ 8) (q : ∀ (b : Book) g', b.ok → b.cl.length ≤ most → Gk g' → Q b.d .fr g') : W (run tbl fs (k + 7) "_law_book" true [.int most] g) Q := by
  refine R__law_book ?_
  unfold b__law_book
  repeat' (first | fail | ((with_reducible refine taken_W ?_ ?_ ?_ (fun _ _ _ _ _ => ?_)); (· assumption); (· (first | omega | (simp; done) | (simp; omega))); (· (first | omega | (simp; done) | (simp; omega)))) | done)
  rename_i v g1 v1 v2 v3
  obtain ⟨m, hm⟩ : ∃ m : Nat, 1 + v = m := ⟨(1 + v).toNat, by omega⟩
  rw [hm]
  repeat' (first | fail | ((with_reducible refine taken_W ?_ ?_ ?_ (fun _ _ _ _ _ => ?_)); (· assumption); (· (first | omega | (simp; done) | (simp; omega))); (· (first | omega | (simp; done) | (simp; omega)))) | done)
  rw [rng_Ri, Int.toNat_natCast]
  refine comp_draw (enc := PyData.int) (enc' := Clause.d) Gk (Clause.ok m) v3 (fun x hx g hg => ?_) (fun cs g' hg' hl hc => ?_)
  · repeat' (first | fail | ((with_reducible refine taken_W ?_ ?_ ?_ (fun _ _ _ _ _ => ?_)); (· assumption); (· (first | omega | (simp; done) | (simp; omega))); (· (first | omega | (simp; done) | (simp; omega)))) | done)
    refine clause_W (k := k + 3) hg (by omega) (by omega) (fun c g' hc hg' => ?_)
    repeat' (first | fail | ((with_reducible refine taken_W ?_ ?_ ?_ (fun _ _ _ _ _ => ?_)); (· assumption); (· (first | omega | (simp; done) | (simp; omega))); (· (first | omega | (simp; done) | (simp; omega)))) | done)
    exact ⟨⟨c, rfl, hc⟩, rfl, hg'⟩
  rw [Ri_len] at hl
  repeat' (first | fail | ((with_reducible refine taken_W ?_ ?_ ?_ (fun _ _ _ _ _ => ?_)); (· assumption); (· (first | omega | (simp; done) | (simp; omega))); (· (first | omega | (simp; done) | (simp; omega)))) | done)
  rename_i a ga a1 a2 a3 b gb b1 b2 b3 c gc c1 c2 c3 d gd d1 d2 d3
  refine pick3 d1 d2 (fun o ho => ?_)
  have o0 : 0 ≤ o := by omega
  have o16 : o ≤ 16 := by omega
  repeat' (first | fail | ((with_reducible refine taken_W ?_ ?_ ?_ (fun _ _ _ _ _ => ?_)); (· assumption); (· (first | omega | (simp; done) | (simp; omega))); (· (first | omega | (simp; done) | (simp; omega)))) | done)
  rw [rng_Ri]
  refine comp_draw (enc := PyData.int) (enc' := Want.d) Gk (Want.ok m) d3 (fun x hx g hg => ?_) (fun ws g' hg' hlw hw => ?_)
  · repeat' (first | fail | ((with_reducible refine taken_W ?_ ?_ ?_ (fun _ _ _ _ _ => ?_)); (· assumption); (· (first | omega | (simp; done) | (simp; omega))); (· (first | omega | (simp; done) | (simp; omega)))) | done)
    refine Wn.h (k := k) hg (by omega) (by omega) (fun c g' hc hg' => ?_)
    repeat' (first | fail | ((with_reducible refine taken_W ?_ ?_ ?_ (fun _ _ _ _ _ => ?_)); (· assumption); (· (first | omega | (simp; done) | (simp; omega))); (· (first | omega | (simp; done) | (simp; omega)))) | done)
    exact ⟨⟨c, rfl, hc⟩, rfl, hg'⟩
  rw [Ri_len] at hlw
  repeat' (first | fail | ((with_reducible refine taken_W ?_ ?_ ?_ (fun _ _ _ _ _ => ?_)); (· assumption); (· (first | omega | (simp; done) | (simp; omega))); (· (first | omega | (simp; done) | (simp; omega)))) | done)
  exact q ⟨cs, ws⟩ _ ⟨by show 1 ≤ cs.length; omega, by show cs.length ≤ 8; omega, by show ∀ c ∈ cs, c.ok cs.length; rw [hl]; exact hc, by show ws.length ≤ 16; omega, by show ∀ w ∈ ws, w.ok cs.length; rw [hl]; exact hw⟩ (by show (cs.length : Int) ≤ most; omega) hg'
end
section
variable [Hf fs f__law_wishes]
end
end
end Mi.L
end
section
set_option maxRecDepth 100000
set_option maxHeartbeats 1000000
namespace Mi.L
open PySem PySem.Spec PyProof.Rows L2 Mi.B P
local macro_rules | `(tactic| fail) => `(tactic| (with_reducible refine Is_s (o := List.lookup _ _) rfl ?_))
local macro_rules | `(tactic| fail) => `(tactic| (with_reducible refine Is_s (o := slcD _ _ _) rfl ?_))
local macro_rules | `(tactic| fail) => `(tactic| (with_reducible refine Is_s (o := idxD _ _) rfl ?_))
local macro_rules | `(tactic| fail) => `(tactic| ((with_reducible refine two_f ?_ ?_); (· (first | rfl | (simp [ofs_eq]; done) | (simp; omega)))))
local macro_rules | `(tactic| fail) => `(tactic| ((with_reducible refine two_t ?_ ?_); (· (first | rfl | (simp [ofs_eq]; done) | (simp; omega)))))
local macro_rules | `(tactic| fail) => `(tactic| ((with_reducible show Ap _ _ _ _ _); refine Ap_ok (by exact rfl) (by exact fresh_f) (by (first | omega | (simp; done) | (simp; omega))) (by (try simp only [frz_nil, frz_cons, fz_nil, fz_own, fz_imm, fz_no, fz_row, fz_jk, fz_s, st_z, st_s]); rfl) ?_))
local macro_rules | `(tactic| fail) => `(tactic| ((with_reducible refine Nb_fz ?_ ?_); (· rfl)))
local macro_rules | `(tactic| fail) => `(tactic| ((with_reducible refine Nb_fr ?_ ?_); (· rfl)))
local macro_rules | `(tactic| fail) => `(tactic| (with_reducible refine Nb_f ?_))
local macro_rules | `(tactic| fail) => `(tactic| ((with_reducible refine Dn_ok ?_ ?_); (· rfl)))
local macro_rules | `(tactic| fail) => `(tactic| ((with_reducible refine Sm_ok ?_ ?_); (· (first | omega | (simp; done) | (simp; omega)))))
local macro_rules | `(tactic| fail) => `(tactic| ((with_reducible refine Ln_ok ?_ ?_); (· (first | omega | (simp; done) | (simp; omega)))))
local macro_rules | `(tactic| fail) => `(tactic| ((with_reducible refine put_lz ?_ (by (try simp only [frz_nil, frz_cons, fz_nil, fz_own, fz_imm, fz_no, fz_row, fz_jk, fz_s, st_z, st_s]); rfl) ?_); (· rfl)))
local macro_rules | `(tactic| fail) => `(tactic| ((with_reducible refine put_l ?_ (by (try simp only [frz_nil, frz_cons, fz_nil, fz_own, fz_imm, fz_no, fz_row, fz_jk, fz_s, st_z, st_s]); rfl) ?_); (· rfl)))
local macro_rules | `(tactic| fail) => `(tactic| ((with_reducible refine ret_lz ?_ ?_); (· rfl)))
local macro_rules | `(tactic| fail) => `(tactic| ((with_reducible refine ret_l ?_ ?_); (· rfl)))
local macro_rules | `(tactic| fail) => `(tactic| (with_reducible refine ret_f inferInstance ?_))
local macro_rules | `(tactic| fail) => `(tactic| ((with_reducible refine Is_lenS ?_ ?_); (· decide)))
local macro_rules | `(tactic| fail) => `(tactic| ((with_reducible refine Is_mod ?_ ?_); (· omega)))
local macro_rules | `(tactic| fail) => `(tactic| (with_reducible refine W_getG Ht.h ?_))
local macro_rules | `(tactic| fail) => `(tactic| (with_reducible refine W_inG Ht.h ?_))
local macro_rules | `(tactic| fail) => `(tactic| ((with_reducible refine W_callR ?_ ?_); (· exact rfl)))
local macro_rules | `(tactic| fail) => `(tactic| ((with_reducible show WT (turnF _ _ _ _ _ _ _ _ _) _ _); refine WT_cmp (by exact rfl) ?_))
local macro_rules | `(tactic| fail) => `(tactic| (with_reducible refine W_call0 ?_))
local macro_rules | `(tactic| fail) => `(tactic| ((with_reducible refine W_dget ?_ ?_); (· exact rfl)))
local macro_rules | `(tactic| fail) => `(tactic| ((with_reducible show W (evE _ _ _ (.var _) _) _); refine W_var (by exact rfl) (by first | exact nrm_f | exact nrm_list | exact rfl) ?_))
local macro_rules | `(tactic| fail) => `(tactic| (with_reducible refine put_f (by (try simp only [frz_nil, frz_cons, fz_nil, fz_own, fz_imm, fz_no, fz_row, fz_jk, fz_s, st_z, st_s]); rfl) ?_))
local macro_rules | `(tactic| fail) => `(tactic| (with_reducible refine X_forK (by (try simp only [frz_nil, frz_cons, fz_nil, fz_own, fz_imm, fz_no, fz_row, fz_jk, fz_s, st_z, st_s]); rfl) ?_))
local macro_rules | `(tactic| fail) => `(tactic| (with_reducible refine X_for (by (try simp only [frz_nil, frz_cons, fz_nil, fz_own, fz_imm, fz_no, fz_row, fz_jk, fz_s, st_z, st_s]); rfl) ?_))
local macro_rules | `(tactic| fail) => `(tactic| (with_reducible refine X_tup (by (try simp only [frz_nil, frz_cons, fz_nil, fz_own, fz_imm, fz_no, fz_row, fz_jk, fz_s, st_z, st_s]); rfl) ?_))
local macro_rules | `(tactic| fail) => `(tactic| (with_reducible refine X_asg (by (try simp only [frz_nil, frz_cons, fz_nil, fz_own, fz_imm, fz_no, fz_row, fz_jk, fz_s, st_z, st_s]); rfl) ?_))
local macro_rules | `(tactic| fail) => `(tactic| (with_reducible refine putT3 ?_))
local macro_rules | `(tactic| fail) => `(tactic| (with_reducible refine putT2 ?_))
local macro_rules | `(tactic| fail) => `(tactic| (with_reducible refine putT1 ?_))
local macro_rules | `(tactic| fail) => `(tactic| (with_reducible refine Is_cutL1 ?_))
local macro_rules | `(tactic| fail) => `(tactic| (with_reducible refine Is_cutT1 ?_))
local macro_rules | `(tactic| fail) => `(tactic| (with_reducible refine Is_dkey ?_))
local macro_rules | `(tactic| fail) => `(tactic| (with_reducible refine Is_itL ?_))
local macro_rules | `(tactic| fail) => `(tactic| (with_reducible refine Is_itT ?_))
local macro_rules | `(tactic| fail) => `(tactic| (with_reducible refine Is_intB ?_))
local macro_rules | `(tactic| fail) => `(tactic| (with_reducible refine Is_intI ?_))
local macro_rules | `(tactic| fail) => `(tactic| (with_reducible refine Is_lisL ?_))
local macro_rules | `(tactic| fail) => `(tactic| (with_reducible refine Is_lisT ?_))
local macro_rules | `(tactic| fail) => `(tactic| (with_reducible refine Is_tupT ?_))
local macro_rules | `(tactic| fail) => `(tactic| (with_reducible refine Is_tupL ?_))
local macro_rules | `(tactic| fail) => `(tactic| (with_reducible refine Is_lenL ?_))
local macro_rules | `(tactic| fail) => `(tactic| (with_reducible refine Is_lenT ?_))
local macro_rules | `(tactic| fail) => `(tactic| (with_reducible refine Is_subI ?_))
local macro_rules | `(tactic| fail) => `(tactic| (with_reducible refine Is_addI ?_))
local macro_rules | `(tactic| fail) => `(tactic| (with_reducible refine Is_isiL ?_))
local macro_rules | `(tactic| fail) => `(tactic| (with_reducible refine Is_isiT ?_))
local macro_rules | `(tactic| fail) => `(tactic| (with_reducible refine Is_isiS ?_))
local macro_rules | `(tactic| fail) => `(tactic| (with_reducible refine Is_isiB ?_))
local macro_rules | `(tactic| fail) => `(tactic| (with_reducible refine Is_isiI ?_))
local macro_rules | `(tactic| fail) => `(tactic| (with_reducible refine Is_nin3 ?_))
local macro_rules | `(tactic| fail) => `(tactic| (with_reducible refine Is_in3 ?_))
local macro_rules | `(tactic| fail) => `(tactic| (with_reducible refine Is_nin2 ?_))
local macro_rules | `(tactic| fail) => `(tactic| (with_reducible refine Is_in2 ?_))
local macro_rules | `(tactic| fail) => `(tactic| (with_reducible refine Is_ninL ?_))
local macro_rules | `(tactic| fail) => `(tactic| (with_reducible refine Is_nin ?_))
local macro_rules | `(tactic| fail) => `(tactic| (with_reducible refine Is_scp ?_))
local macro_rules | `(tactic| fail) => `(tactic| (with_reducible refine Is_cpT ?_))
local macro_rules | `(tactic| fail) => `(tactic| (with_reducible refine Is_cpL ?_))
local macro_rules | `(tactic| fail) => `(tactic| (with_reducible refine Is_inL ?_))
local macro_rules | `(tactic| fail) => `(tactic| (with_reducible refine Is_in ?_))
local macro_rules | `(tactic| fail) => `(tactic| (with_reducible refine Is_geI ?_))
local macro_rules | `(tactic| fail) => `(tactic| (with_reducible refine Is_leI ?_))
local macro_rules | `(tactic| fail) => `(tactic| (with_reducible refine Is_gtI ?_))
local macro_rules | `(tactic| fail) => `(tactic| (with_reducible refine Is_ltI ?_))
local macro_rules | `(tactic| fail) => `(tactic| (with_reducible refine Is_neB ?_))
local macro_rules | `(tactic| fail) => `(tactic| (with_reducible refine Is_eqB ?_))
local macro_rules | `(tactic| fail) => `(tactic| (with_reducible refine Is_neNilT ?_))
local macro_rules | `(tactic| fail) => `(tactic| (with_reducible refine Is_eqNilT ?_))
local macro_rules | `(tactic| fail) => `(tactic| (with_reducible refine Is_neNil ?_))
local macro_rules | `(tactic| fail) => `(tactic| (with_reducible refine Is_eqNil ?_))
local macro_rules | `(tactic| fail) => `(tactic| (with_reducible refine Is_neS ?_))
local macro_rules | `(tactic| fail) => `(tactic| (with_reducible refine Is_eqS ?_))
local macro_rules | `(tactic| fail) => `(tactic| (with_reducible refine Is_neI ?_))
local macro_rules | `(tactic| fail) => `(tactic| (with_reducible refine Is_eqI ?_))
local macro_rules | `(tactic| fail) => `(tactic| (with_reducible refine IS_s ?_))
local macro_rules | `(tactic| fail) => `(tactic| (with_reducible refine II_i ?_))
local macro_rules | `(tactic| fail) => `(tactic| (with_reducible refine IB_b ?_))
local macro_rules | `(tactic| fail) => `(tactic| (with_reducible refine ILs_l ?_))
local macro_rules | `(tactic| fail) => `(tactic| (with_reducible refine X_dnew ?_))
local macro_rules | `(tactic| fail) => `(tactic| (with_reducible refine X_tryR ?_))
local macro_rules | `(tactic| fail) => `(tactic| (with_reducible refine X_retX ?_))
local macro_rules | `(tactic| fail) => `(tactic| (with_reducible refine X_raiC ?_))
local macro_rules | `(tactic| fail) => `(tactic| (with_reducible refine X_sto ?_))
local macro_rules | `(tactic| fail) => `(tactic| (with_reducible refine X_ins ?_))
local macro_rules | `(tactic| fail) => `(tactic| (with_reducible refine X_apo ?_))
local macro_rules | `(tactic| fail) => `(tactic| (with_reducible refine X_pas ?_))
local macro_rules | `(tactic| fail) => `(tactic| (with_reducible refine X_spo ?_))
local macro_rules | `(tactic| fail) => `(tactic| (with_reducible refine X_ext ?_))
local macro_rules | `(tactic| fail) => `(tactic| (with_reducible refine X_rem ?_))
local macro_rules | `(tactic| fail) => `(tactic| (with_reducible refine X_app ?_))
local macro_rules | `(tactic| fail) => `(tactic| (with_reducible refine X_par3 ?_))
local macro_rules | `(tactic| fail) => `(tactic| (with_reducible refine X_par2 ?_))
local macro_rules | `(tactic| fail) => `(tactic| (with_reducible refine X_exp ?_))
local macro_rules | `(tactic| fail) => `(tactic| (with_reducible refine X_whl ?_))
local macro_rules | `(tactic| fail) => `(tactic| (with_reducible refine X_ret ?_))
local macro_rules | `(tactic| fail) => `(tactic| (with_reducible refine X_ite ?_))
local macro_rules | `(tactic| fail) => `(tactic| (with_reducible refine X_nil ?_))
local macro_rules | `(tactic| fail) => `(tactic| (with_reducible refine X_cons ?_))
local macro_rules | `(tactic| fail) => `(tactic| (with_reducible refine CL_cons ?_))
local macro_rules | `(tactic| fail) => `(tactic| (with_reducible refine CL_nil ?_))
local macro_rules | `(tactic| fail) => `(tactic| (with_reducible refine WC_evB ?_))
local macro_rules | `(tactic| fail) => `(tactic| (with_reducible refine WI_rng3 ?_))
local macro_rules | `(tactic| fail) => `(tactic| (with_reducible refine WI_rng2 ?_))
local macro_rules | `(tactic| fail) => `(tactic| (with_reducible refine WI_rng1 ?_))
local macro_rules | `(tactic| fail) => `(tactic| (with_reducible refine WI_val ?_))
local macro_rules | `(tactic| fail) => `(tactic| (with_reducible refine WC_cons ?_))
local macro_rules | `(tactic| fail) => `(tactic| (with_reducible refine WC_nil ?_))
local macro_rules | `(tactic| fail) => `(tactic| (with_reducible refine WO_cons ?_))
local macro_rules | `(tactic| fail) => `(tactic| (with_reducible refine WO_nil ?_))
local macro_rules | `(tactic| fail) => `(tactic| (with_reducible refine WL_cons ?_))
local macro_rules | `(tactic| fail) => `(tactic| (with_reducible refine WL_nil ?_))
local macro_rules | `(tactic| fail) => `(tactic| (with_reducible refine W_sset ?_))
local macro_rules | `(tactic| fail) => `(tactic| (with_reducible refine W_scp ?_))
local macro_rules | `(tactic| fail) => `(tactic| (with_reducible refine W_lcp ?_))
local macro_rules | `(tactic| fail) => `(tactic| (with_reducible refine W_lrg ?_))
local macro_rules | `(tactic| fail) => `(tactic| (with_reducible refine W_meth ?_))
local macro_rules | `(tactic| fail) => `(tactic| (with_reducible refine W_join ?_))
local macro_rules | `(tactic| fail) => `(tactic| (with_reducible refine W_isq ?_))
local macro_rules | `(tactic| fail) => `(tactic| (with_reducible refine W_neg ?_))
local macro_rules | `(tactic| fail) => `(tactic| (with_reducible refine W_slc ?_))
local macro_rules | `(tactic| fail) => `(tactic| (with_reducible refine W_noN ?_))
local macro_rules | `(tactic| fail) => `(tactic| (with_reducible refine W_isN ?_))
local macro_rules | `(tactic| fail) => `(tactic| (with_reducible refine W_chn ?_))
local macro_rules | `(tactic| fail) => `(tactic| (with_reducible refine W_isi ?_))
local macro_rules | `(tactic| fail) => `(tactic| (with_reducible refine W_bi ?_))
local macro_rules | `(tactic| fail) => `(tactic| (with_reducible refine W_comp ?_))
local macro_rules | `(tactic| fail) => `(tactic| (with_reducible refine W_lst ?_))
local macro_rules | `(tactic| fail) => `(tactic| (with_reducible refine W_tup ?_))
local macro_rules | `(tactic| fail) => `(tactic| (with_reducible refine W_ite ?_))
local macro_rules | `(tactic| fail) => `(tactic| (with_reducible refine W_not ?_))
local macro_rules | `(tactic| fail) => `(tactic| (with_reducible refine W_or ?_))
local macro_rules | `(tactic| fail) => `(tactic| (with_reducible refine W_and ?_))
local macro_rules | `(tactic| fail) => `(tactic| (with_reducible refine W_sub ?_))
local macro_rules | `(tactic| fail) => `(tactic| (with_reducible refine W_cmp ?_))
local macro_rules | `(tactic| fail) => `(tactic| (with_reducible refine W_bin ?_))
local macro_rules | `(tactic| fail) => `(tactic| (with_reducible refine W_glo ?_))
local macro_rules | `(tactic| fail) => `(tactic| (with_reducible refine W_cst ?_))
variable {tbl : TblS} {fs : List Fd} {k : Nat} {g : G} {Q : D → Tag → G → Prop}
theorem Ri_at {n : Nat} {pre post : Rw} {x : Int} (e : Ri 0 n = pre ++ x :: post) : x = pre.length := by
  have h1 : (Ri 0 n)[pre.length]? = some x := by rw [e]; simp
  unfold Ri at h1
  rw [List.getElem?_map] at h1
  obtain ⟨a, ha, rfl⟩ := Option.map_eq_some_iff.mp h1
  rw [List.getElem?_range] at ha
  · cases ha; omega
  · have := congrArg List.length e
    simp [Ri] at this
    omega
theorem sub_pow {i n : Nat} (h : i ≤ n) : 2 ^ i ≤ 2 ^ n := Nat.pow_le_pow_right (by omega) h
theorem biD_sorted_rows {l : List (List Int)} (hl : l.length ≤ LINE) : biD .sorted [.list (l.map fun l => .tuple (l.map PyData.int))] = some (.list ((l.mergeSort leR).map fun l => .tuple (l.map PyData.int))) := by
  show (sortD _).map PyData.list = _
  rw [show (l.map fun l => PyData.tuple (l.map PyData.int)) = l.map rowD from rfl, sort_rows hl]
  rfl
section
variable [Hf fs f_all_sets]
theorem all_sets_run {n : Nat} (n0 : 1 ≤ n) (hn : n ≤ 10) : run tbl fs (k + 1) "all_sets" false [.int n] g = some (.list ((allSets n).map fun l => .tuple (l.map PyData.int)), .fz, g) := by
  refine W_eq (R_all_sets ?_)
  unfold b_all_sets
  repeat' (first | fail | done)
  rw [rng_Ri, Int.toNat_natCast]
  refine for_gen (enc := PyData.int) (fun pre ρ g' => g' = g ∧ ∃ s1 s, ((pre = [] ∧ s1 = Sl.own (.list ((subs pre.length).map fun l => .tuple (l.map PyData.int)))) ∨ s1 = Sl.imm (.list ((subs pre.length).map fun l => .tuple (l.map PyData.int)))) ∧ ρ = [.imm (.int n), s1, s, .no]) ⟨rfl, _, _, .inl ⟨rfl, rfl⟩, rfl⟩ (fun pre x post e ρ g' h0 => ?_) (fun ρ g' h0 => ?_)
  · obtain ⟨rfl, s1, s, h1, rfl⟩ := h0
    have hx := Ri_at e
    have hpl : pre.length < n := by
      have := congrArg List.length e
      rw [Ri_len] at this
      simp at this
      omega
    have hsl := subs_len pre.length
    have hp : 2 ^ pre.length ≤ 1024 := sub_pow (n := 10) (by omega)
    have hz : frz [.imm (.int n), s1, .imm (.int x), .no] [1, 3, 2] = [.imm (.int n), .imm (.list ((subs pre.length).map fun l => .tuple (l.map PyData.int))), .imm (.int x), .no] := by
      rcases h1 with ⟨_, rfl⟩ | rfl <;> rfl
    refine putT1 (put_f (by rfl) (X_cons (X_asg hz ?_)))
    repeat' (first | fail | done)
    refine comp_map (enc := fun l : List Int => PyData.tuple (l.map PyData.int)) (fun p => .tuple ((p ++ [x]).map PyData.int)) (fun p hp => ?_) ?_
    · have hq := subs_mem.mp hp
      have hql : p.length ≤ 10 := Nat.le_trans (asc_len (m := pre.length) ⟨hq.1, fun v hv => by have := hq.2 v hv; omega⟩) (by omega)
      repeat' (first | fail | (refine Is_addT (by simp; unfold LINE; omega) ?_) | done)
      refine ⟨by rw [List.map_append]; rfl, nrm_f, rfl⟩
    · repeat' (first | fail | (refine Is_addL (by simp; unfold LINE; omega) ?_) | done)
      rw [List.length_append, List.length_singleton, subs, List.map_append, List.map_map, ← hx]
      exact ⟨rfl, _, _, .inr rfl, rfl⟩
  · obtain ⟨rfl, s1, s, h1, rfl⟩ := h0
    rw [Ri_len] at h1
    have hsl := subs_len n
    have hp : 2 ^ n ≤ 1024 := sub_pow (n := 10) (by omega)
    rcases h1 with ⟨h1, _⟩ | rfl
    · have := congrArg List.length h1
      rw [Ri_len] at this
      simp at this
      omega
    · repeat' (first | fail | (refine Is_s (biD_sorted_rows (by unfold LINE; omega)) ?_) | done)
      exact ⟨rfl, rfl, rfl⟩
end
/-- all papers that keep all wants -/
def _root_.Mi.B.Book.papers0 (b : Book) (a : Rw) : List (List Int) := (allSets b.cl.length).filter (b.fit a)
def hasW (p : Rw) (ws : List Wish) : Bool := ws.all fun w => has p w.1 == w.2
def _root_.Mi.B.Book.papers (b : Book) (a : Rw) (ws : List Wish) : List (List Int) := (b.papers0 a).filter fun p => hasW p ws
section
variable [Hf fs f_is_so] [Hf fs f_keeps] [Hf fs f_cites] [Hf fs f_all_cited] [Hf fs f_pairs_ahead] [Hf fs f_order] [Hf fs f_is_fit] [Hf fs f_all_sets] [Hf fs f_all_papers]
theorem all_papers_run {b : Book} {a : Rw} (hb : b.ok) (ha : ansOk a) : run tbl fs (k + 7) "all_papers" false [b.d, rowD a] g = some (.list ((b.papers0 a).map fun l => .tuple (l.map PyData.int)), .fr, g) := by
  have n8 := hb.n8
  have n1 := hb.n1
  refine W_eq (R_all_papers ?_)
  unfold b_all_papers
  repeat' (first | fail | done)
  rw [List.length_map]
  repeat' (first | fail | ((with_reducible show W (run _ _ _ _ _ _ _) _); with_reducible refine W_is (all_sets_run (k := k + 5) (n := b.cl.length) (by omega) (by omega)) ?_) | done)
  refine comp_filter (enc := fun l : List Int => PyData.tuple (l.map PyData.int)) (b.fit a) (fun p hp => ?_) ?_
  · repeat' (first | fail | ((with_reducible show W (run _ _ _ _ _ _ _) _); with_reducible refine W_is (is_fit_run (k := k) hb ha (sets_mem.mp hp)) ?_) | done)
    refine two (fun hu => ?_) (fun hu => ?_)
    · repeat' (first | fail | done)
      exact ⟨hu, rfl, rfl, rfl⟩
    · exact ⟨hu, rfl⟩
  · repeat' (first | fail | done)
    exact ⟨rfl, rfl, rfl⟩
end
section
variable [Hf fs f_has]
theorem has_run {p : Rw} {ws : List Wish} : run tbl fs (k + 1) "has" false [rowD p, .list (ws.map wishD)] g = some (.bool (hasW p ws), .fr, g) := by
  refine W_eq (R_has ?_)
  unfold b_has
  repeat' (first | fail | done)
  refine comp_filter (enc := wishD) (fun w => has p w.1 != w.2) (fun w hw => ?_) ?_
  · unfold wishD
    repeat' (first | fail | done)
    refine two (fun hu => ?_) (fun hu => ?_)
    · repeat' (first | fail | done)
      exact ⟨hu, rfl, rfl, rfl⟩
    · exact ⟨hu, rfl⟩
  · repeat' (first | fail | done)
    refine ⟨?_, rfl, rfl⟩
    unfold hasW
    congr 1
    rw [List.isEmpty_map]
    induction ws with
    | nil => rfl
    | cons w ws ih =>
      rw [List.filter_cons, List.all_cons, ← ih]
      cases has p w.1 <;> cases w.2 <;> simp
end
section
variable [Ht tbl "CONDITIONS" [("is", "qv"), ("not", "c"), ("both", "cc")]] [Ht tbl "WANTS" [("needs", "aa"), ("bars", "ab"), ("ahead", "ab"), ("one", "s"), ("some", "s"), ("when", "ca"), ("only", "ca")]]
variable [Hf fs f_is_whole] [Hf fs f_is_rising] [Hf fs f_is_word] [Hf fs f_is_part] [Hf fs f_is_clause] [Hf fs f_is_condition] [Hf fs f_is_want] [Hf fs f_need_book] [Hf fs f_need_answers] [Hf fs f_need_wishes] [Hf fs f_need_asked]
theorem need_asked_ok {b : Book} {a : Rw} {ws : List Wish} (hb : b.ok) (ha : ansOk a) (hw : wishesOk b.cl.length ws) : run tbl fs (k + 8) "need_asked" false [b.d, rowD a, .list (ws.map wishD)] g = some (.none, .fr, g) := by
  refine W_eq (R_need_asked ?_)
  unfold b_need_asked
  repeat' (first | fail | ((with_reducible show W (run _ _ _ _ _ _ _) _); with_reducible refine W_is (need_book_ok (k := k) hb) ?_) | ((with_reducible show W (run _ _ _ _ _ _ _) _); with_reducible refine W_is (need_answers_ok (k := k + 5) ha) ?_) | ((with_reducible show W (run _ _ _ _ _ _ _) _); with_reducible refine W_is (need_wishes_ok (k := k + 5) hw) ?_) | done)
  exact ⟨rfl, rfl, rfl⟩
variable [Hf fs f_is_so] [Hf fs f_keeps] [Hf fs f_cites] [Hf fs f_all_cited] [Hf fs f_pairs_ahead] [Hf fs f_order] [Hf fs f_is_fit] [Hf fs f_all_sets] [Hf fs f_all_papers] [Hf fs f_has] [Hf fs f_papers]
theorem papers_run {b : Book} {a : Rw} {ws : List Wish} (hb : b.ok) (ha : ansOk a) (hw : wishesOk b.cl.length ws) : run tbl fs (k + 9) "papers" false [b.d, rowD a, .list (ws.map wishD)] g = some (.list ((b.papers a ws).map fun l => .tuple (l.map PyData.int)), .fr, g) := by
  refine W_eq (R_papers ?_)
  unfold b_papers
  repeat' (first | fail | ((with_reducible show W (run _ _ _ _ _ _ _) _); with_reducible refine W_is (need_asked_ok (k := k) hb ha hw) ?_) | ((with_reducible show W (run _ _ _ _ _ _ _) _); with_reducible refine W_is (all_papers_run (k := k + 1) hb ha) ?_) | done)
  refine comp_filter (enc := fun l : List Int => PyData.tuple (l.map PyData.int)) (fun p => hasW p ws) (fun p hp => ?_) ?_
  · repeat' (first | fail | ((with_reducible show W (run _ _ _ _ _ _ _) _); with_reducible refine W_is (has_run (k := k + 7)) ?_) | done)
    refine two (fun hu => ?_) (fun hu => ?_)
    · repeat' (first | fail | done)
      exact ⟨hu, rfl, rfl, rfl⟩
    · exact ⟨hu, rfl⟩
  · repeat' (first | fail | done)
    exact ⟨rfl, rfl, rfl⟩
variable [Hf fs f_free]
end
end Mi.L
end
section
set_option maxRecDepth 100000
set_option maxHeartbeats 1000000
namespace Mi.L
open PySem PySem.Spec PyProof.Rows L2 Mi.B P
local macro_rules | `(tactic| fail) => `(tactic| (with_reducible refine Is_s (o := List.lookup _ _) rfl ?_))
local macro_rules | `(tactic| fail) => `(tactic| (with_reducible refine Is_s (o := slcD _ _ _) rfl ?_))
local macro_rules | `(tactic| fail) => `(tactic| (with_reducible refine Is_s (o := idxD _ _) rfl ?_))
local macro_rules | `(tactic| fail) => `(tactic| ((with_reducible refine two_f ?_ ?_); (· (first | rfl | (simp [ofs_eq]; done) | (simp; omega)))))
local macro_rules | `(tactic| fail) => `(tactic| ((with_reducible refine two_t ?_ ?_); (· (first | rfl | (simp [ofs_eq]; done) | (simp; omega)))))
local macro_rules | `(tactic| fail) => `(tactic| ((with_reducible show Ap _ _ _ _ _); refine Ap_ok (by exact rfl) (by exact fresh_f) (by (first | omega | (simp; done) | (simp; omega))) (by (try simp only [frz_nil, frz_cons, fz_nil, fz_own, fz_imm, fz_no, fz_row, fz_jk, fz_s, st_z, st_s]); rfl) ?_))
local macro_rules | `(tactic| fail) => `(tactic| ((with_reducible refine Nb_fz ?_ ?_); (· rfl)))
local macro_rules | `(tactic| fail) => `(tactic| ((with_reducible refine Nb_fr ?_ ?_); (· rfl)))
local macro_rules | `(tactic| fail) => `(tactic| (with_reducible refine Nb_f ?_))
local macro_rules | `(tactic| fail) => `(tactic| ((with_reducible refine Dn_ok ?_ ?_); (· rfl)))
local macro_rules | `(tactic| fail) => `(tactic| ((with_reducible refine Sm_ok ?_ ?_); (· (first | omega | (simp; done) | (simp; omega)))))
local macro_rules | `(tactic| fail) => `(tactic| ((with_reducible refine Ln_ok ?_ ?_); (· (first | omega | (simp; done) | (simp; omega)))))
local macro_rules | `(tactic| fail) => `(tactic| ((with_reducible refine put_lz ?_ (by (try simp only [frz_nil, frz_cons, fz_nil, fz_own, fz_imm, fz_no, fz_row, fz_jk, fz_s, st_z, st_s]); rfl) ?_); (· rfl)))
local macro_rules | `(tactic| fail) => `(tactic| ((with_reducible refine put_l ?_ (by (try simp only [frz_nil, frz_cons, fz_nil, fz_own, fz_imm, fz_no, fz_row, fz_jk, fz_s, st_z, st_s]); rfl) ?_); (· rfl)))
local macro_rules | `(tactic| fail) => `(tactic| ((with_reducible refine ret_lz ?_ ?_); (· rfl)))
local macro_rules | `(tactic| fail) => `(tactic| ((with_reducible refine ret_l ?_ ?_); (· rfl)))
local macro_rules | `(tactic| fail) => `(tactic| (with_reducible refine ret_f inferInstance ?_))
local macro_rules | `(tactic| fail) => `(tactic| ((with_reducible refine Is_lenS ?_ ?_); (· decide)))
local macro_rules | `(tactic| fail) => `(tactic| ((with_reducible refine Is_mod ?_ ?_); (· omega)))
local macro_rules | `(tactic| fail) => `(tactic| (with_reducible refine W_getG Ht.h ?_))
local macro_rules | `(tactic| fail) => `(tactic| (with_reducible refine W_inG Ht.h ?_))
local macro_rules | `(tactic| fail) => `(tactic| ((with_reducible refine W_callR ?_ ?_); (· exact rfl)))
local macro_rules | `(tactic| fail) => `(tactic| ((with_reducible show WT (turnF _ _ _ _ _ _ _ _ _) _ _); refine WT_cmp (by exact rfl) ?_))
local macro_rules | `(tactic| fail) => `(tactic| (with_reducible refine W_call0 ?_))
local macro_rules | `(tactic| fail) => `(tactic| ((with_reducible refine W_dget ?_ ?_); (· exact rfl)))
local macro_rules | `(tactic| fail) => `(tactic| ((with_reducible show W (evE _ _ _ (.var _) _) _); refine W_var (by exact rfl) (by first | exact nrm_f | exact nrm_list | exact rfl) ?_))
local macro_rules | `(tactic| fail) => `(tactic| (with_reducible refine put_f (by (try simp only [frz_nil, frz_cons, fz_nil, fz_own, fz_imm, fz_no, fz_row, fz_jk, fz_s, st_z, st_s]); rfl) ?_))
local macro_rules | `(tactic| fail) => `(tactic| (with_reducible refine X_forK (by (try simp only [frz_nil, frz_cons, fz_nil, fz_own, fz_imm, fz_no, fz_row, fz_jk, fz_s, st_z, st_s]); rfl) ?_))
local macro_rules | `(tactic| fail) => `(tactic| (with_reducible refine X_for (by (try simp only [frz_nil, frz_cons, fz_nil, fz_own, fz_imm, fz_no, fz_row, fz_jk, fz_s, st_z, st_s]); rfl) ?_))
local macro_rules | `(tactic| fail) => `(tactic| (with_reducible refine X_tup (by (try simp only [frz_nil, frz_cons, fz_nil, fz_own, fz_imm, fz_no, fz_row, fz_jk, fz_s, st_z, st_s]); rfl) ?_))
local macro_rules | `(tactic| fail) => `(tactic| (with_reducible refine X_asg (by (try simp only [frz_nil, frz_cons, fz_nil, fz_own, fz_imm, fz_no, fz_row, fz_jk, fz_s, st_z, st_s]); rfl) ?_))
local macro_rules | `(tactic| fail) => `(tactic| (with_reducible refine putT3 ?_))
local macro_rules | `(tactic| fail) => `(tactic| (with_reducible refine putT2 ?_))
local macro_rules | `(tactic| fail) => `(tactic| (with_reducible refine putT1 ?_))
local macro_rules | `(tactic| fail) => `(tactic| (with_reducible refine Is_cutL1 ?_))
local macro_rules | `(tactic| fail) => `(tactic| (with_reducible refine Is_cutT1 ?_))
local macro_rules | `(tactic| fail) => `(tactic| (with_reducible refine Is_dkey ?_))
local macro_rules | `(tactic| fail) => `(tactic| (with_reducible refine Is_itL ?_))
local macro_rules | `(tactic| fail) => `(tactic| (with_reducible refine Is_itT ?_))
local macro_rules | `(tactic| fail) => `(tactic| (with_reducible refine Is_intB ?_))
local macro_rules | `(tactic| fail) => `(tactic| (with_reducible refine Is_intI ?_))
local macro_rules | `(tactic| fail) => `(tactic| (with_reducible refine Is_lisL ?_))
local macro_rules | `(tactic| fail) => `(tactic| (with_reducible refine Is_lisT ?_))
local macro_rules | `(tactic| fail) => `(tactic| (with_reducible refine Is_tupT ?_))
local macro_rules | `(tactic| fail) => `(tactic| (with_reducible refine Is_tupL ?_))
local macro_rules | `(tactic| fail) => `(tactic| (with_reducible refine Is_lenL ?_))
local macro_rules | `(tactic| fail) => `(tactic| (with_reducible refine Is_lenT ?_))
local macro_rules | `(tactic| fail) => `(tactic| (with_reducible refine Is_subI ?_))
local macro_rules | `(tactic| fail) => `(tactic| (with_reducible refine Is_addI ?_))
local macro_rules | `(tactic| fail) => `(tactic| (with_reducible refine Is_isiL ?_))
local macro_rules | `(tactic| fail) => `(tactic| (with_reducible refine Is_isiT ?_))
local macro_rules | `(tactic| fail) => `(tactic| (with_reducible refine Is_isiS ?_))
local macro_rules | `(tactic| fail) => `(tactic| (with_reducible refine Is_isiB ?_))
local macro_rules | `(tactic| fail) => `(tactic| (with_reducible refine Is_isiI ?_))
local macro_rules | `(tactic| fail) => `(tactic| (with_reducible refine Is_nin3 ?_))
local macro_rules | `(tactic| fail) => `(tactic| (with_reducible refine Is_in3 ?_))
local macro_rules | `(tactic| fail) => `(tactic| (with_reducible refine Is_nin2 ?_))
local macro_rules | `(tactic| fail) => `(tactic| (with_reducible refine Is_in2 ?_))
local macro_rules | `(tactic| fail) => `(tactic| (with_reducible refine Is_ninL ?_))
local macro_rules | `(tactic| fail) => `(tactic| (with_reducible refine Is_nin ?_))
local macro_rules | `(tactic| fail) => `(tactic| (with_reducible refine Is_scp ?_))
local macro_rules | `(tactic| fail) => `(tactic| (with_reducible refine Is_cpT ?_))
local macro_rules | `(tactic| fail) => `(tactic| (with_reducible refine Is_cpL ?_))
local macro_rules | `(tactic| fail) => `(tactic| (with_reducible refine Is_inL ?_))
local macro_rules | `(tactic| fail) => `(tactic| (with_reducible refine Is_in ?_))
local macro_rules | `(tactic| fail) => `(tactic| (with_reducible refine Is_geI ?_))
local macro_rules | `(tactic| fail) => `(tactic| (with_reducible refine Is_leI ?_))
local macro_rules | `(tactic| fail) => `(tactic| (with_reducible refine Is_gtI ?_))
local macro_rules | `(tactic| fail) => `(tactic| (with_reducible refine Is_ltI ?_))
local macro_rules | `(tactic| fail) => `(tactic| (with_reducible refine Is_neB ?_))
local macro_rules | `(tactic| fail) => `(tactic| (with_reducible refine Is_eqB ?_))
local macro_rules | `(tactic| fail) => `(tactic| (with_reducible refine Is_neNilT ?_))
local macro_rules | `(tactic| fail) => `(tactic| (with_reducible refine Is_eqNilT ?_))
local macro_rules | `(tactic| fail) => `(tactic| (with_reducible refine Is_neNil ?_))
local macro_rules | `(tactic| fail) => `(tactic| (with_reducible refine Is_eqNil ?_))
local macro_rules | `(tactic| fail) => `(tactic| (with_reducible refine Is_neS ?_))
local macro_rules | `(tactic| fail) => `(tactic| (with_reducible refine Is_eqS ?_))
local macro_rules | `(tactic| fail) => `(tactic| (with_reducible refine Is_neI ?_))
local macro_rules | `(tactic| fail) => `(tactic| (with_reducible refine Is_eqI ?_))
local macro_rules | `(tactic| fail) => `(tactic| (with_reducible refine IS_s ?_))
local macro_rules | `(tactic| fail) => `(tactic| (with_reducible refine II_i ?_))
local macro_rules | `(tactic| fail) => `(tactic| (with_reducible refine IB_b ?_))
local macro_rules | `(tactic| fail) => `(tactic| (with_reducible refine ILs_l ?_))
local macro_rules | `(tactic| fail) => `(tactic| (with_reducible refine X_dnew ?_))
local macro_rules | `(tactic| fail) => `(tactic| (with_reducible refine X_tryR ?_))
local macro_rules | `(tactic| fail) => `(tactic| (with_reducible refine X_retX ?_))
local macro_rules | `(tactic| fail) => `(tactic| (with_reducible refine X_raiC ?_))
local macro_rules | `(tactic| fail) => `(tactic| (with_reducible refine X_sto ?_))
local macro_rules | `(tactic| fail) => `(tactic| (with_reducible refine X_ins ?_))
local macro_rules | `(tactic| fail) => `(tactic| (with_reducible refine X_apo ?_))
local macro_rules | `(tactic| fail) => `(tactic| (with_reducible refine X_pas ?_))
local macro_rules | `(tactic| fail) => `(tactic| (with_reducible refine X_spo ?_))
local macro_rules | `(tactic| fail) => `(tactic| (with_reducible refine X_ext ?_))
local macro_rules | `(tactic| fail) => `(tactic| (with_reducible refine X_rem ?_))
local macro_rules | `(tactic| fail) => `(tactic| (with_reducible refine X_app ?_))
local macro_rules | `(tactic| fail) => `(tactic| (with_reducible refine X_par3 ?_))
local macro_rules | `(tactic| fail) => `(tactic| (with_reducible refine X_par2 ?_))
local macro_rules | `(tactic| fail) => `(tactic| (with_reducible refine X_exp ?_))
local macro_rules | `(tactic| fail) => `(tactic| (with_reducible refine X_whl ?_))
local macro_rules | `(tactic| fail) => `(tactic| (with_reducible refine X_ret ?_))
local macro_rules | `(tactic| fail) => `(tactic| (with_reducible refine X_ite ?_))
local macro_rules | `(tactic| fail) => `(tactic| (with_reducible refine X_nil ?_))
local macro_rules | `(tactic| fail) => `(tactic| (with_reducible refine X_cons ?_))
local macro_rules | `(tactic| fail) => `(tactic| (with_reducible refine CL_cons ?_))
local macro_rules | `(tactic| fail) => `(tactic| (with_reducible refine CL_nil ?_))
local macro_rules | `(tactic| fail) => `(tactic| (with_reducible refine WC_evB ?_))
local macro_rules | `(tactic| fail) => `(tactic| (with_reducible refine WI_rng3 ?_))
local macro_rules | `(tactic| fail) => `(tactic| (with_reducible refine WI_rng2 ?_))
local macro_rules | `(tactic| fail) => `(tactic| (with_reducible refine WI_rng1 ?_))
local macro_rules | `(tactic| fail) => `(tactic| (with_reducible refine WI_val ?_))
local macro_rules | `(tactic| fail) => `(tactic| (with_reducible refine WC_cons ?_))
local macro_rules | `(tactic| fail) => `(tactic| (with_reducible refine WC_nil ?_))
local macro_rules | `(tactic| fail) => `(tactic| (with_reducible refine WO_cons ?_))
local macro_rules | `(tactic| fail) => `(tactic| (with_reducible refine WO_nil ?_))
local macro_rules | `(tactic| fail) => `(tactic| (with_reducible refine WL_cons ?_))
local macro_rules | `(tactic| fail) => `(tactic| (with_reducible refine WL_nil ?_))
local macro_rules | `(tactic| fail) => `(tactic| (with_reducible refine W_sset ?_))
local macro_rules | `(tactic| fail) => `(tactic| (with_reducible refine W_scp ?_))
local macro_rules | `(tactic| fail) => `(tactic| (with_reducible refine W_lcp ?_))
local macro_rules | `(tactic| fail) => `(tactic| (with_reducible refine W_lrg ?_))
local macro_rules | `(tactic| fail) => `(tactic| (with_reducible refine W_meth ?_))
local macro_rules | `(tactic| fail) => `(tactic| (with_reducible refine W_join ?_))
local macro_rules | `(tactic| fail) => `(tactic| (with_reducible refine W_isq ?_))
local macro_rules | `(tactic| fail) => `(tactic| (with_reducible refine W_neg ?_))
local macro_rules | `(tactic| fail) => `(tactic| (with_reducible refine W_slc ?_))
local macro_rules | `(tactic| fail) => `(tactic| (with_reducible refine W_noN ?_))
local macro_rules | `(tactic| fail) => `(tactic| (with_reducible refine W_isN ?_))
local macro_rules | `(tactic| fail) => `(tactic| (with_reducible refine W_chn ?_))
local macro_rules | `(tactic| fail) => `(tactic| (with_reducible refine W_isi ?_))
local macro_rules | `(tactic| fail) => `(tactic| (with_reducible refine W_bi ?_))
local macro_rules | `(tactic| fail) => `(tactic| (with_reducible refine W_comp ?_))
local macro_rules | `(tactic| fail) => `(tactic| (with_reducible refine W_lst ?_))
local macro_rules | `(tactic| fail) => `(tactic| (with_reducible refine W_tup ?_))
local macro_rules | `(tactic| fail) => `(tactic| (with_reducible refine W_ite ?_))
local macro_rules | `(tactic| fail) => `(tactic| (with_reducible refine W_not ?_))
local macro_rules | `(tactic| fail) => `(tactic| (with_reducible refine W_or ?_))
local macro_rules | `(tactic| fail) => `(tactic| (with_reducible refine W_and ?_))
local macro_rules | `(tactic| fail) => `(tactic| (with_reducible refine W_sub ?_))
local macro_rules | `(tactic| fail) => `(tactic| (with_reducible refine W_cmp ?_))
local macro_rules | `(tactic| fail) => `(tactic| (with_reducible refine W_bin ?_))
local macro_rules | `(tactic| fail) => `(tactic| (with_reducible refine W_glo ?_))
local macro_rules | `(tactic| fail) => `(tactic| (with_reducible refine W_cst ?_))
variable {tbl : TblS} {fs : List Fd} {k : Nat} {g : G} {Q : D → Tag → G → Prop}
/-- all answers, rising -/
def allAns : List (List Int) := [0, 1, 2].flatMap fun x => [0, 1, 2].flatMap fun y => [0, 1, 2].map fun z => [x, y, z]
theorem allAns_mem {a : List Int} : a ∈ allAns ↔ ansOk a := by
  constructor
  · intro h
    simp only [allAns, List.mem_flatMap, List.mem_map] at h
    obtain ⟨x, hx, y, hy, z, hz, rfl⟩ := h
    refine ⟨rfl, fun v hv => ?_⟩
    simp only [List.mem_cons, List.not_mem_nil, or_false] at hx hy hz hv
    omega
  · rintro ⟨hl, h⟩
    match a, hl with
    | [x, y, z], _ =>
      have hx := h x (by simp)
      have hy := h y (by simp)
      have hz := h z (by simp)
      simp only [allAns, List.mem_flatMap, List.mem_map]
      refine ⟨x, ?_, y, ?_, z, ?_, rfl⟩
      all_goals
        simp only [List.mem_cons, List.not_mem_nil, or_false]
        omega
section
variable [Hf fs f_all_answers]
theorem all_answers_run : run tbl fs (k + 1) "all_answers" false [] g = some (.list (allAns.map fun l => .tuple (l.map PyData.int)), .fz, g) := by
  refine W_eq (R_all_answers ?_)
  have e : execs (run tbl fs k) tbl b_all_answers [.no, .no, .no, .no, .no] g = some (.rt (.list (allAns.map fun l => .tuple (l.map PyData.int))) .fz g) := by
    kernel_rfl
  rw [e]
  exact ⟨⟨rfl, rfl, rfl⟩⟩
end
/-- the least row -/
def leastR (x : List Int) (xs : List (List Int)) : List Int := xs.foldl (fun a y => if decide (y < a) then y else a) x
abbrev rowsD (l : List (List Int)) : D := .list (l.map fun l : List Int => .tuple (l.map PyData.int))
instance : EQ rowsD := ⟨fun a b => by
  show PyData.eqv (.list _) (.list _) = true ↔ _
  rw [qll]
  exact EQ.all (enc := fun l : List Int => PyData.tuple (l.map PyData.int))⟩
/-- the papers that one of two books lets alone -/
def unlike (b o : Book) (a : List Int) : List (List Int) := (b.papers0 a ++ o.papers0 a).filter fun p => decide (p ∈ b.papers0 a) != decide (p ∈ o.papers0 a)
def least (l : List (List Int)) : List Int := match l with
  | [] => []
  | x :: xs => leastR x xs
def _root_.Mi.B.Book.parted (b o : Book) : Option (List Int × List Int) := (allAns.find? fun a => decide (b.papers0 a ≠ o.papers0 a)).map fun a => (a, least (unlike b o a))
def partedD (o : Option (List Int × List Int)) : D := match o with
  | none => .none
  | some (a, p) => .tuple [rowD a, rowD p]
instance {o : Option (List Int × List Int)} : LF (partedD o) := ⟨by
  cases o with
  | none => rfl
  | some q =>
    have := (inferInstance : LF (.tuple [rowD q.1, rowD q.2])).h
    exact this⟩
section
variable [Hf fs f_is_so] [Hf fs f_keeps] [Hf fs f_cites] [Hf fs f_all_cited] [Hf fs f_pairs_ahead] [Hf fs f_order] [Hf fs f_is_fit] [Hf fs f_all_sets] [Hf fs f_all_papers] [Hf fs f_all_answers] [Hf fs f_parted]
end
theorem cut_to {xs : List D} {n : Int} (h0 : 0 ≤ n) : cutD xs none (some n) = xs.take n.toNat := by
  obtain ⟨m, rfl⟩ : ∃ m : Nat, n = m := ⟨n.toNat, by omega⟩
  unfold cutD
  rw [HT.sIx_none, HT.sIx_nat, List.drop_zero, Nat.sub_zero, Int.toNat_natCast]
  rcases Nat.le_total m xs.length with h | h
  · rw [Nat.min_eq_left h]
  · rw [Nat.min_eq_right h, List.take_of_length_le (Nat.le_refl _), List.take_of_length_le h]
theorem cut_from {xs : List D} {n : Int} (h0 : 0 ≤ n) : cutD xs (some n) none = xs.drop n.toNat := by
  obtain ⟨m, rfl⟩ : ∃ m : Nat, n = m := ⟨n.toNat, by omega⟩
  unfold cutD
  rw [HT.sIx_none, HT.sIx_nat, Int.toNat_natCast]
  by_cases h : m ≤ xs.length
  · rw [Nat.min_eq_left h, List.take_of_length_le (by rw [List.length_drop]; omega)]
  · rw [Nat.min_eq_right (by omega), List.drop_eq_nil_of_le (Nat.le_refl _), List.drop_eq_nil_of_le (by omega)]
    simp
/-- a book without a want -/
def _root_.Mi.B.Book.without (b : Book) (i : Int) : Book := ⟨b.cl, b.ws.eraseIdx i.toNat⟩
section
variable [Hf fs f_without]
end
section
variable [Ht tbl "CONDITIONS" [("is", "qv"), ("not", "c"), ("both", "cc")]] [Ht tbl "WANTS" [("needs", "aa"), ("bars", "ab"), ("ahead", "ab"), ("one", "s"), ("some", "s"), ("when", "ca"), ("only", "ca")]]
variable [Hf fs f_is_whole] [Hf fs f_is_rising] [Hf fs f_is_word] [Hf fs f_is_part] [Hf fs f_is_clause] [Hf fs f_is_condition] [Hf fs f_is_want] [Hf fs f_need_book]
variable [Hf fs f_is_so] [Hf fs f_keeps] [Hf fs f_cites] [Hf fs f_all_cited] [Hf fs f_pairs_ahead] [Hf fs f_order] [Hf fs f_is_fit] [Hf fs f_all_sets] [Hf fs f_all_papers] [Hf fs f_all_answers] [Hf fs f_parted]
section
variable [Hf fs f_alike]
end
section
variable [Hf fs f_without] [Hf fs f_needless]
/-- the wants that may be left out, each alone -/
def _root_.Mi.B.Book.needless (b : Book) : List Int := (Ri 0 b.ws.length).filter fun i => (b.parted (b.without i)).isNone
end
section
variable [Hf fs f_without] [Hf fs f_lean]
def Rd (lo : Int) (n : Nat) : List Int := (List.range n).map fun (k : Nat) => lo - (k : Int)
/-- one want less, if it may be left out -/
def lessBy (b : Book) (i : Int) : Book := if (b.parted (b.without i)).isNone then b.without i else b
def _root_.Mi.B.Book.lean (b : Book) : Book := (Rd (b.ws.length - 1) b.ws.length).foldl lessBy b
end
end
end Mi.L
end
section
set_option maxRecDepth 100000
set_option maxHeartbeats 1000000
namespace Mi.L
open PySem PySem.Spec PyProof.Rows L2 Mi.B P
local macro_rules | `(tactic| fail) => `(tactic| (with_reducible refine Is_s (o := List.lookup _ _) rfl ?_))
local macro_rules | `(tactic| fail) => `(tactic| (with_reducible refine Is_s (o := slcD _ _ _) rfl ?_))
local macro_rules | `(tactic| fail) => `(tactic| (with_reducible refine Is_s (o := idxD _ _) rfl ?_))
local macro_rules | `(tactic| fail) => `(tactic| ((with_reducible refine two_f ?_ ?_); (· (first | rfl | (simp [ofs_eq]; done) | (simp; omega)))))
local macro_rules | `(tactic| fail) => `(tactic| ((with_reducible refine two_t ?_ ?_); (· (first | rfl | (simp [ofs_eq]; done) | (simp; omega)))))
local macro_rules | `(tactic| fail) => `(tactic| ((with_reducible show Ap _ _ _ _ _); refine Ap_ok (by exact rfl) (by exact fresh_f) (by (first | omega | (simp; done) | (simp; omega))) (by (try simp only [frz_nil, frz_cons, fz_nil, fz_own, fz_imm, fz_no, fz_row, fz_jk, fz_s, st_z, st_s]); rfl) ?_))
local macro_rules | `(tactic| fail) => `(tactic| ((with_reducible refine Nb_fz ?_ ?_); (· rfl)))
local macro_rules | `(tactic| fail) => `(tactic| ((with_reducible refine Nb_fr ?_ ?_); (· rfl)))
local macro_rules | `(tactic| fail) => `(tactic| (with_reducible refine Nb_f ?_))
local macro_rules | `(tactic| fail) => `(tactic| ((with_reducible refine Dn_ok ?_ ?_); (· rfl)))
local macro_rules | `(tactic| fail) => `(tactic| ((with_reducible refine Sm_ok ?_ ?_); (· (first | omega | (simp; done) | (simp; omega)))))
local macro_rules | `(tactic| fail) => `(tactic| ((with_reducible refine Ln_ok ?_ ?_); (· (first | omega | (simp; done) | (simp; omega)))))
local macro_rules | `(tactic| fail) => `(tactic| ((with_reducible refine put_lz ?_ (by (try simp only [frz_nil, frz_cons, fz_nil, fz_own, fz_imm, fz_no, fz_row, fz_jk, fz_s, st_z, st_s]); rfl) ?_); (· rfl)))
local macro_rules | `(tactic| fail) => `(tactic| ((with_reducible refine put_l ?_ (by (try simp only [frz_nil, frz_cons, fz_nil, fz_own, fz_imm, fz_no, fz_row, fz_jk, fz_s, st_z, st_s]); rfl) ?_); (· rfl)))
local macro_rules | `(tactic| fail) => `(tactic| ((with_reducible refine ret_lz ?_ ?_); (· rfl)))
local macro_rules | `(tactic| fail) => `(tactic| ((with_reducible refine ret_l ?_ ?_); (· rfl)))
local macro_rules | `(tactic| fail) => `(tactic| (with_reducible refine ret_f inferInstance ?_))
local macro_rules | `(tactic| fail) => `(tactic| ((with_reducible refine Is_lenS ?_ ?_); (· decide)))
local macro_rules | `(tactic| fail) => `(tactic| ((with_reducible refine Is_mod ?_ ?_); (· omega)))
local macro_rules | `(tactic| fail) => `(tactic| (with_reducible refine W_getG Ht.h ?_))
local macro_rules | `(tactic| fail) => `(tactic| (with_reducible refine W_inG Ht.h ?_))
local macro_rules | `(tactic| fail) => `(tactic| ((with_reducible refine W_callR ?_ ?_); (· exact rfl)))
local macro_rules | `(tactic| fail) => `(tactic| ((with_reducible show WT (turnF _ _ _ _ _ _ _ _ _) _ _); refine WT_cmp (by exact rfl) ?_))
local macro_rules | `(tactic| fail) => `(tactic| (with_reducible refine W_call0 ?_))
local macro_rules | `(tactic| fail) => `(tactic| ((with_reducible refine W_dget ?_ ?_); (· exact rfl)))
local macro_rules | `(tactic| fail) => `(tactic| ((with_reducible show W (evE _ _ _ (.var _) _) _); refine W_var (by exact rfl) (by first | exact nrm_f | exact nrm_list | exact rfl) ?_))
local macro_rules | `(tactic| fail) => `(tactic| (with_reducible refine put_f (by (try simp only [frz_nil, frz_cons, fz_nil, fz_own, fz_imm, fz_no, fz_row, fz_jk, fz_s, st_z, st_s]); rfl) ?_))
local macro_rules | `(tactic| fail) => `(tactic| (with_reducible refine X_forK (by (try simp only [frz_nil, frz_cons, fz_nil, fz_own, fz_imm, fz_no, fz_row, fz_jk, fz_s, st_z, st_s]); rfl) ?_))
local macro_rules | `(tactic| fail) => `(tactic| (with_reducible refine X_for (by (try simp only [frz_nil, frz_cons, fz_nil, fz_own, fz_imm, fz_no, fz_row, fz_jk, fz_s, st_z, st_s]); rfl) ?_))
local macro_rules | `(tactic| fail) => `(tactic| (with_reducible refine X_tup (by (try simp only [frz_nil, frz_cons, fz_nil, fz_own, fz_imm, fz_no, fz_row, fz_jk, fz_s, st_z, st_s]); rfl) ?_))
local macro_rules | `(tactic| fail) => `(tactic| (with_reducible refine X_asg (by (try simp only [frz_nil, frz_cons, fz_nil, fz_own, fz_imm, fz_no, fz_row, fz_jk, fz_s, st_z, st_s]); rfl) ?_))
local macro_rules | `(tactic| fail) => `(tactic| (with_reducible refine putT3 ?_))
local macro_rules | `(tactic| fail) => `(tactic| (with_reducible refine putT2 ?_))
local macro_rules | `(tactic| fail) => `(tactic| (with_reducible refine putT1 ?_))
local macro_rules | `(tactic| fail) => `(tactic| (with_reducible refine Is_cutL1 ?_))
local macro_rules | `(tactic| fail) => `(tactic| (with_reducible refine Is_cutT1 ?_))
local macro_rules | `(tactic| fail) => `(tactic| (with_reducible refine Is_dkey ?_))
local macro_rules | `(tactic| fail) => `(tactic| (with_reducible refine Is_itL ?_))
local macro_rules | `(tactic| fail) => `(tactic| (with_reducible refine Is_itT ?_))
local macro_rules | `(tactic| fail) => `(tactic| (with_reducible refine Is_intB ?_))
local macro_rules | `(tactic| fail) => `(tactic| (with_reducible refine Is_intI ?_))
local macro_rules | `(tactic| fail) => `(tactic| (with_reducible refine Is_lisL ?_))
local macro_rules | `(tactic| fail) => `(tactic| (with_reducible refine Is_lisT ?_))
local macro_rules | `(tactic| fail) => `(tactic| (with_reducible refine Is_tupT ?_))
local macro_rules | `(tactic| fail) => `(tactic| (with_reducible refine Is_tupL ?_))
local macro_rules | `(tactic| fail) => `(tactic| (with_reducible refine Is_lenL ?_))
local macro_rules | `(tactic| fail) => `(tactic| (with_reducible refine Is_lenT ?_))
local macro_rules | `(tactic| fail) => `(tactic| (with_reducible refine Is_subI ?_))
local macro_rules | `(tactic| fail) => `(tactic| (with_reducible refine Is_addI ?_))
local macro_rules | `(tactic| fail) => `(tactic| (with_reducible refine Is_isiL ?_))
local macro_rules | `(tactic| fail) => `(tactic| (with_reducible refine Is_isiT ?_))
local macro_rules | `(tactic| fail) => `(tactic| (with_reducible refine Is_isiS ?_))
local macro_rules | `(tactic| fail) => `(tactic| (with_reducible refine Is_isiB ?_))
local macro_rules | `(tactic| fail) => `(tactic| (with_reducible refine Is_isiI ?_))
local macro_rules | `(tactic| fail) => `(tactic| (with_reducible refine Is_nin3 ?_))
local macro_rules | `(tactic| fail) => `(tactic| (with_reducible refine Is_in3 ?_))
local macro_rules | `(tactic| fail) => `(tactic| (with_reducible refine Is_nin2 ?_))
local macro_rules | `(tactic| fail) => `(tactic| (with_reducible refine Is_in2 ?_))
local macro_rules | `(tactic| fail) => `(tactic| (with_reducible refine Is_ninL ?_))
local macro_rules | `(tactic| fail) => `(tactic| (with_reducible refine Is_nin ?_))
local macro_rules | `(tactic| fail) => `(tactic| (with_reducible refine Is_scp ?_))
local macro_rules | `(tactic| fail) => `(tactic| (with_reducible refine Is_cpT ?_))
local macro_rules | `(tactic| fail) => `(tactic| (with_reducible refine Is_cpL ?_))
local macro_rules | `(tactic| fail) => `(tactic| (with_reducible refine Is_inL ?_))
local macro_rules | `(tactic| fail) => `(tactic| (with_reducible refine Is_in ?_))
local macro_rules | `(tactic| fail) => `(tactic| (with_reducible refine Is_geI ?_))
local macro_rules | `(tactic| fail) => `(tactic| (with_reducible refine Is_leI ?_))
local macro_rules | `(tactic| fail) => `(tactic| (with_reducible refine Is_gtI ?_))
local macro_rules | `(tactic| fail) => `(tactic| (with_reducible refine Is_ltI ?_))
local macro_rules | `(tactic| fail) => `(tactic| (with_reducible refine Is_neB ?_))
local macro_rules | `(tactic| fail) => `(tactic| (with_reducible refine Is_eqB ?_))
local macro_rules | `(tactic| fail) => `(tactic| (with_reducible refine Is_neNilT ?_))
local macro_rules | `(tactic| fail) => `(tactic| (with_reducible refine Is_eqNilT ?_))
local macro_rules | `(tactic| fail) => `(tactic| (with_reducible refine Is_neNil ?_))
local macro_rules | `(tactic| fail) => `(tactic| (with_reducible refine Is_eqNil ?_))
local macro_rules | `(tactic| fail) => `(tactic| (with_reducible refine Is_neS ?_))
local macro_rules | `(tactic| fail) => `(tactic| (with_reducible refine Is_eqS ?_))
local macro_rules | `(tactic| fail) => `(tactic| (with_reducible refine Is_neI ?_))
local macro_rules | `(tactic| fail) => `(tactic| (with_reducible refine Is_eqI ?_))
local macro_rules | `(tactic| fail) => `(tactic| (with_reducible refine IS_s ?_))
local macro_rules | `(tactic| fail) => `(tactic| (with_reducible refine II_i ?_))
local macro_rules | `(tactic| fail) => `(tactic| (with_reducible refine IB_b ?_))
local macro_rules | `(tactic| fail) => `(tactic| (with_reducible refine ILs_l ?_))
local macro_rules | `(tactic| fail) => `(tactic| (with_reducible refine X_dnew ?_))
local macro_rules | `(tactic| fail) => `(tactic| (with_reducible refine X_tryR ?_))
local macro_rules | `(tactic| fail) => `(tactic| (with_reducible refine X_retX ?_))
local macro_rules | `(tactic| fail) => `(tactic| (with_reducible refine X_raiC ?_))
local macro_rules | `(tactic| fail) => `(tactic| (with_reducible refine X_sto ?_))
local macro_rules | `(tactic| fail) => `(tactic| (with_reducible refine X_ins ?_))
local macro_rules | `(tactic| fail) => `(tactic| (with_reducible refine X_apo ?_))
local macro_rules | `(tactic| fail) => `(tactic| (with_reducible refine X_pas ?_))
local macro_rules | `(tactic| fail) => `(tactic| (with_reducible refine X_spo ?_))
local macro_rules | `(tactic| fail) => `(tactic| (with_reducible refine X_ext ?_))
local macro_rules | `(tactic| fail) => `(tactic| (with_reducible refine X_rem ?_))
local macro_rules | `(tactic| fail) => `(tactic| (with_reducible refine X_app ?_))
local macro_rules | `(tactic| fail) => `(tactic| (with_reducible refine X_par3 ?_))
local macro_rules | `(tactic| fail) => `(tactic| (with_reducible refine X_par2 ?_))
local macro_rules | `(tactic| fail) => `(tactic| (with_reducible refine X_exp ?_))
local macro_rules | `(tactic| fail) => `(tactic| (with_reducible refine X_whl ?_))
local macro_rules | `(tactic| fail) => `(tactic| (with_reducible refine X_ret ?_))
local macro_rules | `(tactic| fail) => `(tactic| (with_reducible refine X_ite ?_))
local macro_rules | `(tactic| fail) => `(tactic| (with_reducible refine X_nil ?_))
local macro_rules | `(tactic| fail) => `(tactic| (with_reducible refine X_cons ?_))
local macro_rules | `(tactic| fail) => `(tactic| (with_reducible refine CL_cons ?_))
local macro_rules | `(tactic| fail) => `(tactic| (with_reducible refine CL_nil ?_))
local macro_rules | `(tactic| fail) => `(tactic| (with_reducible refine WC_evB ?_))
local macro_rules | `(tactic| fail) => `(tactic| (with_reducible refine WI_rng3 ?_))
local macro_rules | `(tactic| fail) => `(tactic| (with_reducible refine WI_rng2 ?_))
local macro_rules | `(tactic| fail) => `(tactic| (with_reducible refine WI_rng1 ?_))
local macro_rules | `(tactic| fail) => `(tactic| (with_reducible refine WI_val ?_))
local macro_rules | `(tactic| fail) => `(tactic| (with_reducible refine WC_cons ?_))
local macro_rules | `(tactic| fail) => `(tactic| (with_reducible refine WC_nil ?_))
local macro_rules | `(tactic| fail) => `(tactic| (with_reducible refine WO_cons ?_))
local macro_rules | `(tactic| fail) => `(tactic| (with_reducible refine WO_nil ?_))
local macro_rules | `(tactic| fail) => `(tactic| (with_reducible refine WL_cons ?_))
local macro_rules | `(tactic| fail) => `(tactic| (with_reducible refine WL_nil ?_))
local macro_rules | `(tactic| fail) => `(tactic| (with_reducible refine W_sset ?_))
local macro_rules | `(tactic| fail) => `(tactic| (with_reducible refine W_scp ?_))
local macro_rules | `(tactic| fail) => `(tactic| (with_reducible refine W_lcp ?_))
local macro_rules | `(tactic| fail) => `(tactic| (with_reducible refine W_lrg ?_))
local macro_rules | `(tactic| fail) => `(tactic| (with_reducible refine W_meth ?_))
local macro_rules | `(tactic| fail) => `(tactic| (with_reducible refine W_join ?_))
local macro_rules | `(tactic| fail) => `(tactic| (with_reducible refine W_isq ?_))
local macro_rules | `(tactic| fail) => `(tactic| (with_reducible refine W_neg ?_))
local macro_rules | `(tactic| fail) => `(tactic| (with_reducible refine W_slc ?_))
local macro_rules | `(tactic| fail) => `(tactic| (with_reducible refine W_noN ?_))
local macro_rules | `(tactic| fail) => `(tactic| (with_reducible refine W_isN ?_))
local macro_rules | `(tactic| fail) => `(tactic| (with_reducible refine W_chn ?_))
local macro_rules | `(tactic| fail) => `(tactic| (with_reducible refine W_isi ?_))
local macro_rules | `(tactic| fail) => `(tactic| (with_reducible refine W_bi ?_))
local macro_rules | `(tactic| fail) => `(tactic| (with_reducible refine W_comp ?_))
local macro_rules | `(tactic| fail) => `(tactic| (with_reducible refine W_lst ?_))
local macro_rules | `(tactic| fail) => `(tactic| (with_reducible refine W_tup ?_))
local macro_rules | `(tactic| fail) => `(tactic| (with_reducible refine W_ite ?_))
local macro_rules | `(tactic| fail) => `(tactic| (with_reducible refine W_not ?_))
local macro_rules | `(tactic| fail) => `(tactic| (with_reducible refine W_or ?_))
local macro_rules | `(tactic| fail) => `(tactic| (with_reducible refine W_and ?_))
local macro_rules | `(tactic| fail) => `(tactic| (with_reducible refine W_sub ?_))
local macro_rules | `(tactic| fail) => `(tactic| (with_reducible refine W_cmp ?_))
local macro_rules | `(tactic| fail) => `(tactic| (with_reducible refine W_bin ?_))
local macro_rules | `(tactic| fail) => `(tactic| (with_reducible refine W_glo ?_))
local macro_rules | `(tactic| fail) => `(tactic| (with_reducible refine W_cst ?_))
/-- the same papers by all answers -/
def same (b o : Book) : Prop := ∀ a ∈ allAns, b.papers0 a = o.papers0 a
theorem same.symm {b o : Book} (h : same b o) : same o b := fun a ha => (h a ha).symm
theorem same.trans {b c d : Book} (h : same b c) (k : same c d) : same b d := fun a ha => (h a ha).trans (k a ha)
/-! ### books' data, equal or not -/
instance : EQ Part.d := ⟨fun a b => by
  cases a <;> cases b <;> simp only [Part.d, wordD, qtt, qcc, qnn, qss, qii, qst, qts, Bool.and_true, Bool.and_eq_true, beq_iff_eq, ofs_beq]
  all_goals simp⟩
instance : EQ Clause.d := ⟨fun a b => by
  unfold Clause.d
  rw [qtt, qcc, qcc, qnn, qii]
  have := EQ.h (enc := fun l : List Part => PyData.tuple (l.map Part.d)) a.parts b.parts
  cases a
  cases b
  simp only [Bool.and_true, Bool.and_eq_true, beq_iff_eq, Clause.mk.injEq] at this ⊢
  rw [this]⟩
theorem cond_eq : ∀ (a b : Cond), PyData.eqv a.d b.d = true ↔ a = b
  | .is q v, b => by
    cases b <;> simp [Cond.d, qtt, qcc, qnn, qcn, qnc, qss, qii, ofs_beq]
  | .not c, b => by
    cases b with
    | not c' =>
      have := cond_eq c c'
      simp [Cond.d, qtt, qcc, qnn, qss, this]
    | _ => simp [Cond.d, qtt, qcc, qnn, qcn, qnc, qss, ofs_beq]
  | .both c d, b => by
    cases b with
    | both c' d' =>
      have h1 := cond_eq c c'
      have h2 := cond_eq d d'
      simp [Cond.d, qtt, qcc, qnn, qss, h1, h2]
    | _ => simp [Cond.d, qtt, qcc, qnn, qcn, qnc, qss, ofs_beq]
instance : EQ Cond.d := ⟨cond_eq⟩
instance : EQ rowD := ⟨fun a b => by
  show PyData.eqv (.tuple _) (.tuple _) = true ↔ _
  rw [qtt]
  exact EQ.all⟩
theorem row_eq (a b : List Int) : PyData.eqv (.tuple (a.map PyData.int)) (.tuple (b.map PyData.int)) = true ↔ a = b := EQ.h (enc := rowD) a b
instance : EQ Want.d := ⟨fun a b => by
  cases a <;> cases b <;> simp [Want.d, qtt, qcc, qnn, qcn, qnc, qss, qii, ofs_beq, cond_eq]
  all_goals exact EQ.all (enc := PyData.int)⟩
instance : EQ Book.d := ⟨fun a b => by
  unfold Book.d
  rw [qtt, qcc, qcc, qnn]
  have h1 := EQ.h (enc := fun l : List Clause => PyData.tuple (l.map Clause.d)) a.cl b.cl
  have h2 := EQ.h (enc := fun l : List Want => PyData.tuple (l.map Want.d)) a.ws b.ws
  cases a
  cases b
  simp only [Bool.and_true, Bool.and_eq_true, Book.mk.injEq] at h1 h2 ⊢
  rw [h1, h2]⟩
end Mi.L
end
section
set_option maxRecDepth 100000
set_option maxHeartbeats 1000000
namespace Mi.L
open PySem PySem.Spec PyProof.Rows L2 Mi.B P
local macro_rules | `(tactic| fail) => `(tactic| (with_reducible refine Is_s (o := List.lookup _ _) rfl ?_))
local macro_rules | `(tactic| fail) => `(tactic| (with_reducible refine Is_s (o := slcD _ _ _) rfl ?_))
local macro_rules | `(tactic| fail) => `(tactic| (with_reducible refine Is_s (o := idxD _ _) rfl ?_))
local macro_rules | `(tactic| fail) => `(tactic| ((with_reducible refine two_f ?_ ?_); (· (first | rfl | (simp [ofs_eq]; done) | (simp; omega)))))
local macro_rules | `(tactic| fail) => `(tactic| ((with_reducible refine two_t ?_ ?_); (· (first | rfl | (simp [ofs_eq]; done) | (simp; omega)))))
local macro_rules | `(tactic| fail) => `(tactic| ((with_reducible show Ap _ _ _ _ _); refine Ap_ok (by exact rfl) (by exact fresh_f) (by (first | omega | (simp; done) | (simp; omega))) (by (try simp only [frz_nil, frz_cons, fz_nil, fz_own, fz_imm, fz_no, fz_row, fz_jk, fz_s, st_z, st_s]); rfl) ?_))
local macro_rules | `(tactic| fail) => `(tactic| ((with_reducible refine Nb_fz ?_ ?_); (· rfl)))
local macro_rules | `(tactic| fail) => `(tactic| ((with_reducible refine Nb_fr ?_ ?_); (· rfl)))
local macro_rules | `(tactic| fail) => `(tactic| (with_reducible refine Nb_f ?_))
local macro_rules | `(tactic| fail) => `(tactic| ((with_reducible refine Dn_ok ?_ ?_); (· rfl)))
local macro_rules | `(tactic| fail) => `(tactic| ((with_reducible refine Sm_ok ?_ ?_); (· (first | omega | (simp; done) | (simp; omega)))))
local macro_rules | `(tactic| fail) => `(tactic| ((with_reducible refine Ln_ok ?_ ?_); (· (first | omega | (simp; done) | (simp; omega)))))
local macro_rules | `(tactic| fail) => `(tactic| ((with_reducible refine put_lz ?_ (by (try simp only [frz_nil, frz_cons, fz_nil, fz_own, fz_imm, fz_no, fz_row, fz_jk, fz_s, st_z, st_s]); rfl) ?_); (· rfl)))
local macro_rules | `(tactic| fail) => `(tactic| ((with_reducible refine put_l ?_ (by (try simp only [frz_nil, frz_cons, fz_nil, fz_own, fz_imm, fz_no, fz_row, fz_jk, fz_s, st_z, st_s]); rfl) ?_); (· rfl)))
local macro_rules | `(tactic| fail) => `(tactic| ((with_reducible refine ret_lz ?_ ?_); (· rfl)))
local macro_rules | `(tactic| fail) => `(tactic| ((with_reducible refine ret_l ?_ ?_); (· rfl)))
local macro_rules | `(tactic| fail) => `(tactic| (with_reducible refine ret_f inferInstance ?_))
local macro_rules | `(tactic| fail) => `(tactic| ((with_reducible refine Is_lenS ?_ ?_); (· decide)))
local macro_rules | `(tactic| fail) => `(tactic| ((with_reducible refine Is_mod ?_ ?_); (· omega)))
local macro_rules | `(tactic| fail) => `(tactic| (with_reducible refine W_getG Ht.h ?_))
local macro_rules | `(tactic| fail) => `(tactic| (with_reducible refine W_inG Ht.h ?_))
local macro_rules | `(tactic| fail) => `(tactic| ((with_reducible refine W_callR ?_ ?_); (· exact rfl)))
local macro_rules | `(tactic| fail) => `(tactic| ((with_reducible show WT (turnF _ _ _ _ _ _ _ _ _) _ _); refine WT_cmp (by exact rfl) ?_))
local macro_rules | `(tactic| fail) => `(tactic| (with_reducible refine W_call0 ?_))
local macro_rules | `(tactic| fail) => `(tactic| ((with_reducible refine W_dget ?_ ?_); (· exact rfl)))
local macro_rules | `(tactic| fail) => `(tactic| ((with_reducible show W (evE _ _ _ (.var _) _) _); refine W_var (by exact rfl) (by first | exact nrm_f | exact nrm_list | exact rfl) ?_))
local macro_rules | `(tactic| fail) => `(tactic| (with_reducible refine put_f (by (try simp only [frz_nil, frz_cons, fz_nil, fz_own, fz_imm, fz_no, fz_row, fz_jk, fz_s, st_z, st_s]); rfl) ?_))
local macro_rules | `(tactic| fail) => `(tactic| (with_reducible refine X_forK (by (try simp only [frz_nil, frz_cons, fz_nil, fz_own, fz_imm, fz_no, fz_row, fz_jk, fz_s, st_z, st_s]); rfl) ?_))
local macro_rules | `(tactic| fail) => `(tactic| (with_reducible refine X_for (by (try simp only [frz_nil, frz_cons, fz_nil, fz_own, fz_imm, fz_no, fz_row, fz_jk, fz_s, st_z, st_s]); rfl) ?_))
local macro_rules | `(tactic| fail) => `(tactic| (with_reducible refine X_tup (by (try simp only [frz_nil, frz_cons, fz_nil, fz_own, fz_imm, fz_no, fz_row, fz_jk, fz_s, st_z, st_s]); rfl) ?_))
local macro_rules | `(tactic| fail) => `(tactic| (with_reducible refine X_asg (by (try simp only [frz_nil, frz_cons, fz_nil, fz_own, fz_imm, fz_no, fz_row, fz_jk, fz_s, st_z, st_s]); rfl) ?_))
local macro_rules | `(tactic| fail) => `(tactic| (with_reducible refine putT3 ?_))
local macro_rules | `(tactic| fail) => `(tactic| (with_reducible refine putT2 ?_))
local macro_rules | `(tactic| fail) => `(tactic| (with_reducible refine putT1 ?_))
local macro_rules | `(tactic| fail) => `(tactic| (with_reducible refine Is_cutL1 ?_))
local macro_rules | `(tactic| fail) => `(tactic| (with_reducible refine Is_cutT1 ?_))
local macro_rules | `(tactic| fail) => `(tactic| (with_reducible refine Is_dkey ?_))
local macro_rules | `(tactic| fail) => `(tactic| (with_reducible refine Is_itL ?_))
local macro_rules | `(tactic| fail) => `(tactic| (with_reducible refine Is_itT ?_))
local macro_rules | `(tactic| fail) => `(tactic| (with_reducible refine Is_intB ?_))
local macro_rules | `(tactic| fail) => `(tactic| (with_reducible refine Is_intI ?_))
local macro_rules | `(tactic| fail) => `(tactic| (with_reducible refine Is_lisL ?_))
local macro_rules | `(tactic| fail) => `(tactic| (with_reducible refine Is_lisT ?_))
local macro_rules | `(tactic| fail) => `(tactic| (with_reducible refine Is_tupT ?_))
local macro_rules | `(tactic| fail) => `(tactic| (with_reducible refine Is_tupL ?_))
local macro_rules | `(tactic| fail) => `(tactic| (with_reducible refine Is_lenL ?_))
local macro_rules | `(tactic| fail) => `(tactic| (with_reducible refine Is_lenT ?_))
local macro_rules | `(tactic| fail) => `(tactic| (with_reducible refine Is_subI ?_))
local macro_rules | `(tactic| fail) => `(tactic| (with_reducible refine Is_addI ?_))
local macro_rules | `(tactic| fail) => `(tactic| (with_reducible refine Is_isiL ?_))
local macro_rules | `(tactic| fail) => `(tactic| (with_reducible refine Is_isiT ?_))
local macro_rules | `(tactic| fail) => `(tactic| (with_reducible refine Is_isiS ?_))
local macro_rules | `(tactic| fail) => `(tactic| (with_reducible refine Is_isiB ?_))
local macro_rules | `(tactic| fail) => `(tactic| (with_reducible refine Is_isiI ?_))
local macro_rules | `(tactic| fail) => `(tactic| (with_reducible refine Is_nin3 ?_))
local macro_rules | `(tactic| fail) => `(tactic| (with_reducible refine Is_in3 ?_))
local macro_rules | `(tactic| fail) => `(tactic| (with_reducible refine Is_nin2 ?_))
local macro_rules | `(tactic| fail) => `(tactic| (with_reducible refine Is_in2 ?_))
local macro_rules | `(tactic| fail) => `(tactic| (with_reducible refine Is_ninL ?_))
local macro_rules | `(tactic| fail) => `(tactic| (with_reducible refine Is_nin ?_))
local macro_rules | `(tactic| fail) => `(tactic| (with_reducible refine Is_scp ?_))
local macro_rules | `(tactic| fail) => `(tactic| (with_reducible refine Is_cpT ?_))
local macro_rules | `(tactic| fail) => `(tactic| (with_reducible refine Is_cpL ?_))
local macro_rules | `(tactic| fail) => `(tactic| (with_reducible refine Is_inL ?_))
local macro_rules | `(tactic| fail) => `(tactic| (with_reducible refine Is_in ?_))
local macro_rules | `(tactic| fail) => `(tactic| (with_reducible refine Is_geI ?_))
local macro_rules | `(tactic| fail) => `(tactic| (with_reducible refine Is_leI ?_))
local macro_rules | `(tactic| fail) => `(tactic| (with_reducible refine Is_gtI ?_))
local macro_rules | `(tactic| fail) => `(tactic| (with_reducible refine Is_ltI ?_))
local macro_rules | `(tactic| fail) => `(tactic| (with_reducible refine Is_neB ?_))
local macro_rules | `(tactic| fail) => `(tactic| (with_reducible refine Is_eqB ?_))
local macro_rules | `(tactic| fail) => `(tactic| (with_reducible refine Is_neNilT ?_))
local macro_rules | `(tactic| fail) => `(tactic| (with_reducible refine Is_eqNilT ?_))
local macro_rules | `(tactic| fail) => `(tactic| (with_reducible refine Is_neNil ?_))
local macro_rules | `(tactic| fail) => `(tactic| (with_reducible refine Is_eqNil ?_))
local macro_rules | `(tactic| fail) => `(tactic| (with_reducible refine Is_neS ?_))
local macro_rules | `(tactic| fail) => `(tactic| (with_reducible refine Is_eqS ?_))
local macro_rules | `(tactic| fail) => `(tactic| (with_reducible refine Is_neI ?_))
local macro_rules | `(tactic| fail) => `(tactic| (with_reducible refine Is_eqI ?_))
local macro_rules | `(tactic| fail) => `(tactic| (with_reducible refine IS_s ?_))
local macro_rules | `(tactic| fail) => `(tactic| (with_reducible refine II_i ?_))
local macro_rules | `(tactic| fail) => `(tactic| (with_reducible refine IB_b ?_))
local macro_rules | `(tactic| fail) => `(tactic| (with_reducible refine ILs_l ?_))
local macro_rules | `(tactic| fail) => `(tactic| (with_reducible refine X_dnew ?_))
local macro_rules | `(tactic| fail) => `(tactic| (with_reducible refine X_tryR ?_))
local macro_rules | `(tactic| fail) => `(tactic| (with_reducible refine X_retX ?_))
local macro_rules | `(tactic| fail) => `(tactic| (with_reducible refine X_raiC ?_))
local macro_rules | `(tactic| fail) => `(tactic| (with_reducible refine X_sto ?_))
local macro_rules | `(tactic| fail) => `(tactic| (with_reducible refine X_ins ?_))
local macro_rules | `(tactic| fail) => `(tactic| (with_reducible refine X_apo ?_))
local macro_rules | `(tactic| fail) => `(tactic| (with_reducible refine X_pas ?_))
local macro_rules | `(tactic| fail) => `(tactic| (with_reducible refine X_spo ?_))
local macro_rules | `(tactic| fail) => `(tactic| (with_reducible refine X_ext ?_))
local macro_rules | `(tactic| fail) => `(tactic| (with_reducible refine X_rem ?_))
local macro_rules | `(tactic| fail) => `(tactic| (with_reducible refine X_app ?_))
local macro_rules | `(tactic| fail) => `(tactic| (with_reducible refine X_par3 ?_))
local macro_rules | `(tactic| fail) => `(tactic| (with_reducible refine X_par2 ?_))
local macro_rules | `(tactic| fail) => `(tactic| (with_reducible refine X_exp ?_))
local macro_rules | `(tactic| fail) => `(tactic| (with_reducible refine X_whl ?_))
local macro_rules | `(tactic| fail) => `(tactic| (with_reducible refine X_ret ?_))
local macro_rules | `(tactic| fail) => `(tactic| (with_reducible refine X_ite ?_))
local macro_rules | `(tactic| fail) => `(tactic| (with_reducible refine X_nil ?_))
local macro_rules | `(tactic| fail) => `(tactic| (with_reducible refine X_cons ?_))
local macro_rules | `(tactic| fail) => `(tactic| (with_reducible refine CL_cons ?_))
local macro_rules | `(tactic| fail) => `(tactic| (with_reducible refine CL_nil ?_))
local macro_rules | `(tactic| fail) => `(tactic| (with_reducible refine WC_evB ?_))
local macro_rules | `(tactic| fail) => `(tactic| (with_reducible refine WI_rng3 ?_))
local macro_rules | `(tactic| fail) => `(tactic| (with_reducible refine WI_rng2 ?_))
local macro_rules | `(tactic| fail) => `(tactic| (with_reducible refine WI_rng1 ?_))
local macro_rules | `(tactic| fail) => `(tactic| (with_reducible refine WI_val ?_))
local macro_rules | `(tactic| fail) => `(tactic| (with_reducible refine WC_cons ?_))
local macro_rules | `(tactic| fail) => `(tactic| (with_reducible refine WC_nil ?_))
local macro_rules | `(tactic| fail) => `(tactic| (with_reducible refine WO_cons ?_))
local macro_rules | `(tactic| fail) => `(tactic| (with_reducible refine WO_nil ?_))
local macro_rules | `(tactic| fail) => `(tactic| (with_reducible refine WL_cons ?_))
local macro_rules | `(tactic| fail) => `(tactic| (with_reducible refine WL_nil ?_))
local macro_rules | `(tactic| fail) => `(tactic| (with_reducible refine W_sset ?_))
local macro_rules | `(tactic| fail) => `(tactic| (with_reducible refine W_scp ?_))
local macro_rules | `(tactic| fail) => `(tactic| (with_reducible refine W_lcp ?_))
local macro_rules | `(tactic| fail) => `(tactic| (with_reducible refine W_lrg ?_))
local macro_rules | `(tactic| fail) => `(tactic| (with_reducible refine W_meth ?_))
local macro_rules | `(tactic| fail) => `(tactic| (with_reducible refine W_join ?_))
local macro_rules | `(tactic| fail) => `(tactic| (with_reducible refine W_isq ?_))
local macro_rules | `(tactic| fail) => `(tactic| (with_reducible refine W_neg ?_))
local macro_rules | `(tactic| fail) => `(tactic| (with_reducible refine W_slc ?_))
local macro_rules | `(tactic| fail) => `(tactic| (with_reducible refine W_noN ?_))
local macro_rules | `(tactic| fail) => `(tactic| (with_reducible refine W_isN ?_))
local macro_rules | `(tactic| fail) => `(tactic| (with_reducible refine W_chn ?_))
local macro_rules | `(tactic| fail) => `(tactic| (with_reducible refine W_isi ?_))
local macro_rules | `(tactic| fail) => `(tactic| (with_reducible refine W_bi ?_))
local macro_rules | `(tactic| fail) => `(tactic| (with_reducible refine W_comp ?_))
local macro_rules | `(tactic| fail) => `(tactic| (with_reducible refine W_lst ?_))
local macro_rules | `(tactic| fail) => `(tactic| (with_reducible refine W_tup ?_))
local macro_rules | `(tactic| fail) => `(tactic| (with_reducible refine W_ite ?_))
local macro_rules | `(tactic| fail) => `(tactic| (with_reducible refine W_not ?_))
local macro_rules | `(tactic| fail) => `(tactic| (with_reducible refine W_or ?_))
local macro_rules | `(tactic| fail) => `(tactic| (with_reducible refine W_and ?_))
local macro_rules | `(tactic| fail) => `(tactic| (with_reducible refine W_sub ?_))
local macro_rules | `(tactic| fail) => `(tactic| (with_reducible refine W_cmp ?_))
local macro_rules | `(tactic| fail) => `(tactic| (with_reducible refine W_bin ?_))
local macro_rules | `(tactic| fail) => `(tactic| (with_reducible refine W_glo ?_))
local macro_rules | `(tactic| fail) => `(tactic| (with_reducible refine W_cst ?_))
variable {Q : Bool → Prop}
instance : DecidableEq Cond := fun a b => decidable_of_iff _ (EQ.h (enc := Cond.d) a b)
instance : DecidableEq Part := fun a b => decidable_of_iff _ (EQ.h (enc := Part.d) a b)
instance : DecidableEq Clause := fun a b => decidable_of_iff _ (EQ.h (enc := Clause.d) a b)
instance : DecidableEq Want := fun a b => decidable_of_iff _ (EQ.h (enc := Want.d) a b)
instance : DecidableEq Book := fun a b => decidable_of_iff _ (EQ.h (enc := Book.d) a b)
/-! ### depths -/
instance {l : Rw} : Dp (rowD l) 1 := ⟨by
  have := (inferInstance : Dps (l.map PyData.int) 0).h
  simp only [PyData.depth]
  omega⟩
theorem row_dp (l : Rw) : (PyData.tuple (l.map PyData.int)).depth ≤ 1 := (inferInstance : Dp (rowD l) 1).h
instance {c : Clause} : Dp c.d 3 := ⟨by
  have := (inferInstance : Dps (c.parts.map Part.d) 1).h
  simp [Clause.d, PyData.depth, PyData.depthAll]
  omega⟩
/-! ### comparisons -/
theorem eqD_le {x y : D} (hd : x.depth ≤ 60) : eqD x y = some (PyData.eqv x y) := by
  unfold eqD
  rw [if_pos]
  omega
theorem Is_neD {α : Type} [DecidableEq α] {enc : α → D} [EQ enc] {a b : α} (hd : (enc a).depth ≤ 60) (h : Q (!decide (a = b))) : Is (cmpD .ne (enc a) (enc b)) Q := by
  show Is ((eqD _ _).map _) Q
  rw [eqD_le hd, EQ.dec]; exact ⟨h⟩
theorem eqv_self {α : Type} {enc : α → D} [e : EQ enc] (a : α) : PyData.eqv (enc a) (enc a) = true := (EQ.h a a).mpr rfl
theorem Is_neSelf {d : D} (hd : d.depth ≤ 60) (he : PyData.eqv d d = true) (h : Q false) : Is (cmpD .ne d d) Q := by
  show Is ((eqD _ _).map _) Q
  rw [eqD_le hd, he]; exact ⟨h⟩
/-! ### what is cut, what is more -/
theorem sub_ok {b : Book} {ws : List Want} (hb : b.ok) (h : ws.Sublist b.ws) : (Book.mk b.cl ws).ok := ⟨hb.n1, hb.n8, hb.cl, Nat.le_trans h.length_le hb.w16, fun w hw => hb.ws w (h.subset hw)⟩
theorem papers_nil {b : Book} {a : Rw} : b.papers a [] = b.papers0 a := List.filter_eq_self.mpr fun _ _ => rfl
/-! ### the least row -/
theorem rowsD_dp (l : List (List Int)) : (rowsD l).depth ≤ 60 := by
  have : PyData.depthAll (l.map fun l : List Int => PyData.tuple (l.map PyData.int)) ≤ 1 := depthAll_le fun d hd => by
    obtain ⟨w, hw, rfl⟩ := List.mem_map.mp hd
    exact row_dp w
  simp only [PyData.depth]
  omega
instance : EQ partedD := ⟨fun a b => by
  cases a with
  | none =>
    cases b with
    | none => simp [partedD, PyData.eqv]
    | some q => simp [partedD, PyData.eqv]
  | some q =>
    cases b with
    | none => simp [partedD, PyData.eqv]
    | some r =>
      obtain ⟨q1, q2⟩ := q
      obtain ⟨r1, r2⟩ := r
      show PyData.eqv (.tuple [rowD q1, rowD q2]) (.tuple [rowD r1, rowD r2]) = true ↔ _
      rw [qtt, qcc, qcc, qnn, Bool.and_true, Bool.and_eq_true, row_eq, row_eq, Option.some.injEq, Prod.mk.injEq]⟩
end Mi.L
end
section
set_option maxRecDepth 100000
set_option maxHeartbeats 1000000
namespace Mi.L
open PySem PySem.Spec PyProof.Rows L2 Mi.B P
local macro_rules | `(tactic| fail) => `(tactic| (with_reducible refine Is_s (o := List.lookup _ _) rfl ?_))
local macro_rules | `(tactic| fail) => `(tactic| (with_reducible refine Is_s (o := slcD _ _ _) rfl ?_))
local macro_rules | `(tactic| fail) => `(tactic| (with_reducible refine Is_s (o := idxD _ _) rfl ?_))
local macro_rules | `(tactic| fail) => `(tactic| ((with_reducible refine two_f ?_ ?_); (· (first | rfl | (simp [ofs_eq]; done) | (simp; omega)))))
local macro_rules | `(tactic| fail) => `(tactic| ((with_reducible refine two_t ?_ ?_); (· (first | rfl | (simp [ofs_eq]; done) | (simp; omega)))))
local macro_rules | `(tactic| fail) => `(tactic| ((with_reducible show Ap _ _ _ _ _); refine Ap_ok (by exact rfl) (by exact fresh_f) (by (first | omega | (simp; done) | (simp; omega))) (by (try simp only [frz_nil, frz_cons, fz_nil, fz_own, fz_imm, fz_no, fz_row, fz_jk, fz_s, st_z, st_s]); rfl) ?_))
local macro_rules | `(tactic| fail) => `(tactic| ((with_reducible refine Nb_fz ?_ ?_); (· rfl)))
local macro_rules | `(tactic| fail) => `(tactic| ((with_reducible refine Nb_fr ?_ ?_); (· rfl)))
local macro_rules | `(tactic| fail) => `(tactic| (with_reducible refine Nb_f ?_))
local macro_rules | `(tactic| fail) => `(tactic| ((with_reducible refine Dn_ok ?_ ?_); (· rfl)))
local macro_rules | `(tactic| fail) => `(tactic| ((with_reducible refine Sm_ok ?_ ?_); (· (first | omega | (simp; done) | (simp; omega)))))
local macro_rules | `(tactic| fail) => `(tactic| ((with_reducible refine Ln_ok ?_ ?_); (· (first | omega | (simp; done) | (simp; omega)))))
local macro_rules | `(tactic| fail) => `(tactic| ((with_reducible refine put_lz ?_ (by (try simp only [frz_nil, frz_cons, fz_nil, fz_own, fz_imm, fz_no, fz_row, fz_jk, fz_s, st_z, st_s]); rfl) ?_); (· rfl)))
local macro_rules | `(tactic| fail) => `(tactic| ((with_reducible refine put_l ?_ (by (try simp only [frz_nil, frz_cons, fz_nil, fz_own, fz_imm, fz_no, fz_row, fz_jk, fz_s, st_z, st_s]); rfl) ?_); (· rfl)))
local macro_rules | `(tactic| fail) => `(tactic| ((with_reducible refine ret_lz ?_ ?_); (· rfl)))
local macro_rules | `(tactic| fail) => `(tactic| ((with_reducible refine ret_l ?_ ?_); (· rfl)))
local macro_rules | `(tactic| fail) => `(tactic| (with_reducible refine ret_f inferInstance ?_))
local macro_rules | `(tactic| fail) => `(tactic| ((with_reducible refine Is_lenS ?_ ?_); (· decide)))
local macro_rules | `(tactic| fail) => `(tactic| ((with_reducible refine Is_mod ?_ ?_); (· omega)))
local macro_rules | `(tactic| fail) => `(tactic| (with_reducible refine W_getG Ht.h ?_))
local macro_rules | `(tactic| fail) => `(tactic| (with_reducible refine W_inG Ht.h ?_))
local macro_rules | `(tactic| fail) => `(tactic| ((with_reducible refine W_callR ?_ ?_); (· exact rfl)))
local macro_rules | `(tactic| fail) => `(tactic| ((with_reducible show WT (turnF _ _ _ _ _ _ _ _ _) _ _); refine WT_cmp (by exact rfl) ?_))
local macro_rules | `(tactic| fail) => `(tactic| (with_reducible refine W_call0 ?_))
local macro_rules | `(tactic| fail) => `(tactic| ((with_reducible refine W_dget ?_ ?_); (· exact rfl)))
local macro_rules | `(tactic| fail) => `(tactic| ((with_reducible show W (evE _ _ _ (.var _) _) _); refine W_var (by exact rfl) (by first | exact nrm_f | exact nrm_list | exact rfl) ?_))
local macro_rules | `(tactic| fail) => `(tactic| (with_reducible refine put_f (by (try simp only [frz_nil, frz_cons, fz_nil, fz_own, fz_imm, fz_no, fz_row, fz_jk, fz_s, st_z, st_s]); rfl) ?_))
local macro_rules | `(tactic| fail) => `(tactic| (with_reducible refine X_forK (by (try simp only [frz_nil, frz_cons, fz_nil, fz_own, fz_imm, fz_no, fz_row, fz_jk, fz_s, st_z, st_s]); rfl) ?_))
local macro_rules | `(tactic| fail) => `(tactic| (with_reducible refine X_for (by (try simp only [frz_nil, frz_cons, fz_nil, fz_own, fz_imm, fz_no, fz_row, fz_jk, fz_s, st_z, st_s]); rfl) ?_))
local macro_rules | `(tactic| fail) => `(tactic| (with_reducible refine X_tup (by (try simp only [frz_nil, frz_cons, fz_nil, fz_own, fz_imm, fz_no, fz_row, fz_jk, fz_s, st_z, st_s]); rfl) ?_))
local macro_rules | `(tactic| fail) => `(tactic| (with_reducible refine X_asg (by (try simp only [frz_nil, frz_cons, fz_nil, fz_own, fz_imm, fz_no, fz_row, fz_jk, fz_s, st_z, st_s]); rfl) ?_))
local macro_rules | `(tactic| fail) => `(tactic| (with_reducible refine putT3 ?_))
local macro_rules | `(tactic| fail) => `(tactic| (with_reducible refine putT2 ?_))
local macro_rules | `(tactic| fail) => `(tactic| (with_reducible refine putT1 ?_))
local macro_rules | `(tactic| fail) => `(tactic| (with_reducible refine Is_cutL1 ?_))
local macro_rules | `(tactic| fail) => `(tactic| (with_reducible refine Is_cutT1 ?_))
local macro_rules | `(tactic| fail) => `(tactic| (with_reducible refine Is_dkey ?_))
local macro_rules | `(tactic| fail) => `(tactic| (with_reducible refine Is_itL ?_))
local macro_rules | `(tactic| fail) => `(tactic| (with_reducible refine Is_itT ?_))
local macro_rules | `(tactic| fail) => `(tactic| (with_reducible refine Is_intB ?_))
local macro_rules | `(tactic| fail) => `(tactic| (with_reducible refine Is_intI ?_))
local macro_rules | `(tactic| fail) => `(tactic| (with_reducible refine Is_lisL ?_))
local macro_rules | `(tactic| fail) => `(tactic| (with_reducible refine Is_lisT ?_))
local macro_rules | `(tactic| fail) => `(tactic| (with_reducible refine Is_tupT ?_))
local macro_rules | `(tactic| fail) => `(tactic| (with_reducible refine Is_tupL ?_))
local macro_rules | `(tactic| fail) => `(tactic| (with_reducible refine Is_lenL ?_))
local macro_rules | `(tactic| fail) => `(tactic| (with_reducible refine Is_lenT ?_))
local macro_rules | `(tactic| fail) => `(tactic| (with_reducible refine Is_subI ?_))
local macro_rules | `(tactic| fail) => `(tactic| (with_reducible refine Is_addI ?_))
local macro_rules | `(tactic| fail) => `(tactic| (with_reducible refine Is_isiL ?_))
local macro_rules | `(tactic| fail) => `(tactic| (with_reducible refine Is_isiT ?_))
local macro_rules | `(tactic| fail) => `(tactic| (with_reducible refine Is_isiS ?_))
local macro_rules | `(tactic| fail) => `(tactic| (with_reducible refine Is_isiB ?_))
local macro_rules | `(tactic| fail) => `(tactic| (with_reducible refine Is_isiI ?_))
local macro_rules | `(tactic| fail) => `(tactic| (with_reducible refine Is_nin3 ?_))
local macro_rules | `(tactic| fail) => `(tactic| (with_reducible refine Is_in3 ?_))
local macro_rules | `(tactic| fail) => `(tactic| (with_reducible refine Is_nin2 ?_))
local macro_rules | `(tactic| fail) => `(tactic| (with_reducible refine Is_in2 ?_))
local macro_rules | `(tactic| fail) => `(tactic| (with_reducible refine Is_ninL ?_))
local macro_rules | `(tactic| fail) => `(tactic| (with_reducible refine Is_nin ?_))
local macro_rules | `(tactic| fail) => `(tactic| (with_reducible refine Is_scp ?_))
local macro_rules | `(tactic| fail) => `(tactic| (with_reducible refine Is_cpT ?_))
local macro_rules | `(tactic| fail) => `(tactic| (with_reducible refine Is_cpL ?_))
local macro_rules | `(tactic| fail) => `(tactic| (with_reducible refine Is_inL ?_))
local macro_rules | `(tactic| fail) => `(tactic| (with_reducible refine Is_in ?_))
local macro_rules | `(tactic| fail) => `(tactic| (with_reducible refine Is_geI ?_))
local macro_rules | `(tactic| fail) => `(tactic| (with_reducible refine Is_leI ?_))
local macro_rules | `(tactic| fail) => `(tactic| (with_reducible refine Is_gtI ?_))
local macro_rules | `(tactic| fail) => `(tactic| (with_reducible refine Is_ltI ?_))
local macro_rules | `(tactic| fail) => `(tactic| (with_reducible refine Is_neB ?_))
local macro_rules | `(tactic| fail) => `(tactic| (with_reducible refine Is_eqB ?_))
local macro_rules | `(tactic| fail) => `(tactic| (with_reducible refine Is_neNilT ?_))
local macro_rules | `(tactic| fail) => `(tactic| (with_reducible refine Is_eqNilT ?_))
local macro_rules | `(tactic| fail) => `(tactic| (with_reducible refine Is_neNil ?_))
local macro_rules | `(tactic| fail) => `(tactic| (with_reducible refine Is_eqNil ?_))
local macro_rules | `(tactic| fail) => `(tactic| (with_reducible refine Is_neS ?_))
local macro_rules | `(tactic| fail) => `(tactic| (with_reducible refine Is_eqS ?_))
local macro_rules | `(tactic| fail) => `(tactic| (with_reducible refine Is_neI ?_))
local macro_rules | `(tactic| fail) => `(tactic| (with_reducible refine Is_eqI ?_))
local macro_rules | `(tactic| fail) => `(tactic| (with_reducible refine IS_s ?_))
local macro_rules | `(tactic| fail) => `(tactic| (with_reducible refine II_i ?_))
local macro_rules | `(tactic| fail) => `(tactic| (with_reducible refine IB_b ?_))
local macro_rules | `(tactic| fail) => `(tactic| (with_reducible refine ILs_l ?_))
local macro_rules | `(tactic| fail) => `(tactic| (with_reducible refine X_dnew ?_))
local macro_rules | `(tactic| fail) => `(tactic| (with_reducible refine X_tryR ?_))
local macro_rules | `(tactic| fail) => `(tactic| (with_reducible refine X_retX ?_))
local macro_rules | `(tactic| fail) => `(tactic| (with_reducible refine X_raiC ?_))
local macro_rules | `(tactic| fail) => `(tactic| (with_reducible refine X_sto ?_))
local macro_rules | `(tactic| fail) => `(tactic| (with_reducible refine X_ins ?_))
local macro_rules | `(tactic| fail) => `(tactic| (with_reducible refine X_apo ?_))
local macro_rules | `(tactic| fail) => `(tactic| (with_reducible refine X_pas ?_))
local macro_rules | `(tactic| fail) => `(tactic| (with_reducible refine X_spo ?_))
local macro_rules | `(tactic| fail) => `(tactic| (with_reducible refine X_ext ?_))
local macro_rules | `(tactic| fail) => `(tactic| (with_reducible refine X_rem ?_))
local macro_rules | `(tactic| fail) => `(tactic| (with_reducible refine X_app ?_))
local macro_rules | `(tactic| fail) => `(tactic| (with_reducible refine X_par3 ?_))
local macro_rules | `(tactic| fail) => `(tactic| (with_reducible refine X_par2 ?_))
local macro_rules | `(tactic| fail) => `(tactic| (with_reducible refine X_exp ?_))
local macro_rules | `(tactic| fail) => `(tactic| (with_reducible refine X_whl ?_))
local macro_rules | `(tactic| fail) => `(tactic| (with_reducible refine X_ret ?_))
local macro_rules | `(tactic| fail) => `(tactic| (with_reducible refine X_ite ?_))
local macro_rules | `(tactic| fail) => `(tactic| (with_reducible refine X_nil ?_))
local macro_rules | `(tactic| fail) => `(tactic| (with_reducible refine X_cons ?_))
local macro_rules | `(tactic| fail) => `(tactic| (with_reducible refine CL_cons ?_))
local macro_rules | `(tactic| fail) => `(tactic| (with_reducible refine CL_nil ?_))
local macro_rules | `(tactic| fail) => `(tactic| (with_reducible refine WC_evB ?_))
local macro_rules | `(tactic| fail) => `(tactic| (with_reducible refine WI_rng3 ?_))
local macro_rules | `(tactic| fail) => `(tactic| (with_reducible refine WI_rng2 ?_))
local macro_rules | `(tactic| fail) => `(tactic| (with_reducible refine WI_rng1 ?_))
local macro_rules | `(tactic| fail) => `(tactic| (with_reducible refine WI_val ?_))
local macro_rules | `(tactic| fail) => `(tactic| (with_reducible refine WC_cons ?_))
local macro_rules | `(tactic| fail) => `(tactic| (with_reducible refine WC_nil ?_))
local macro_rules | `(tactic| fail) => `(tactic| (with_reducible refine WO_cons ?_))
local macro_rules | `(tactic| fail) => `(tactic| (with_reducible refine WO_nil ?_))
local macro_rules | `(tactic| fail) => `(tactic| (with_reducible refine WL_cons ?_))
local macro_rules | `(tactic| fail) => `(tactic| (with_reducible refine WL_nil ?_))
local macro_rules | `(tactic| fail) => `(tactic| (with_reducible refine W_sset ?_))
local macro_rules | `(tactic| fail) => `(tactic| (with_reducible refine W_scp ?_))
local macro_rules | `(tactic| fail) => `(tactic| (with_reducible refine W_lcp ?_))
local macro_rules | `(tactic| fail) => `(tactic| (with_reducible refine W_lrg ?_))
local macro_rules | `(tactic| fail) => `(tactic| (with_reducible refine W_meth ?_))
local macro_rules | `(tactic| fail) => `(tactic| (with_reducible refine W_join ?_))
local macro_rules | `(tactic| fail) => `(tactic| (with_reducible refine W_isq ?_))
local macro_rules | `(tactic| fail) => `(tactic| (with_reducible refine W_neg ?_))
local macro_rules | `(tactic| fail) => `(tactic| (with_reducible refine W_slc ?_))
local macro_rules | `(tactic| fail) => `(tactic| (with_reducible refine W_noN ?_))
local macro_rules | `(tactic| fail) => `(tactic| (with_reducible refine W_isN ?_))
local macro_rules | `(tactic| fail) => `(tactic| (with_reducible refine W_chn ?_))
local macro_rules | `(tactic| fail) => `(tactic| (with_reducible refine W_isi ?_))
local macro_rules | `(tactic| fail) => `(tactic| (with_reducible refine W_bi ?_))
local macro_rules | `(tactic| fail) => `(tactic| (with_reducible refine W_comp ?_))
local macro_rules | `(tactic| fail) => `(tactic| (with_reducible refine W_lst ?_))
local macro_rules | `(tactic| fail) => `(tactic| (with_reducible refine W_tup ?_))
local macro_rules | `(tactic| fail) => `(tactic| (with_reducible refine W_ite ?_))
local macro_rules | `(tactic| fail) => `(tactic| (with_reducible refine W_not ?_))
local macro_rules | `(tactic| fail) => `(tactic| (with_reducible refine W_or ?_))
local macro_rules | `(tactic| fail) => `(tactic| (with_reducible refine W_and ?_))
local macro_rules | `(tactic| fail) => `(tactic| (with_reducible refine W_sub ?_))
local macro_rules | `(tactic| fail) => `(tactic| (with_reducible refine W_cmp ?_))
local macro_rules | `(tactic| fail) => `(tactic| (with_reducible refine W_bin ?_))
local macro_rules | `(tactic| fail) => `(tactic| (with_reducible refine W_glo ?_))
local macro_rules | `(tactic| fail) => `(tactic| (with_reducible refine W_cst ?_))
variable {tbl : TblS} {fs : List Fd} {k : Nat} {g : G} {Q : D → Tag → G → Prop}
theorem law_of {tbl : TblS} {fs : List Fd} {k : Nat} {body : Ss} {ρ : SEnv} {g : G} (h : WX (execs (run tbl fs k) tbl body ρ g) (fun _ _ => False) (fun d _ _ => d = .bool true)) : ∃ t g', execs (run tbl fs k) tbl body ρ g = some (.rt (.bool true) t g') := by
  rcases WX_ex h with ⟨_, _, _, h⟩ | ⟨d, t, g', e, rfl⟩
  · exact h.elim
  · exact ⟨t, g', e⟩
/-! ### plain data equals itself -/
theorem intsL_dp (l : List Int) : (PyData.list (l.map PyData.int)).depth ≤ 60 := by
  have := (inferInstance : Dps (l.map PyData.int) 0).h
  simp only [PyData.depth]
  omega
instance : EQ fun l : List Int => PyData.list (l.map PyData.int) := ⟨fun a b => by
  rw [qll]
  exact EQ.all (enc := PyData.int)⟩
end Mi.L
end
section
set_option maxRecDepth 100000
set_option maxHeartbeats 1000000
namespace Mi.L
open PySem PySem.Spec PyProof.Rows L2 Mi.B P
local macro_rules | `(tactic| fail) => `(tactic| (with_reducible refine Is_s (o := List.lookup _ _) rfl ?_))
local macro_rules | `(tactic| fail) => `(tactic| (with_reducible refine Is_s (o := slcD _ _ _) rfl ?_))
local macro_rules | `(tactic| fail) => `(tactic| (with_reducible refine Is_s (o := idxD _ _) rfl ?_))
local macro_rules | `(tactic| fail) => `(tactic| ((with_reducible refine two_f ?_ ?_); (· (first | rfl | (simp [ofs_eq]; done) | (simp; omega)))))
local macro_rules | `(tactic| fail) => `(tactic| ((with_reducible refine two_t ?_ ?_); (· (first | rfl | (simp [ofs_eq]; done) | (simp; omega)))))
local macro_rules | `(tactic| fail) => `(tactic| ((with_reducible show Ap _ _ _ _ _); refine Ap_ok (by exact rfl) (by exact fresh_f) (by (first | omega | (simp; done) | (simp; omega))) (by (try simp only [frz_nil, frz_cons, fz_nil, fz_own, fz_imm, fz_no, fz_row, fz_jk, fz_s, st_z, st_s]); rfl) ?_))
local macro_rules | `(tactic| fail) => `(tactic| ((with_reducible refine Nb_fz ?_ ?_); (· rfl)))
local macro_rules | `(tactic| fail) => `(tactic| ((with_reducible refine Nb_fr ?_ ?_); (· rfl)))
local macro_rules | `(tactic| fail) => `(tactic| (with_reducible refine Nb_f ?_))
local macro_rules | `(tactic| fail) => `(tactic| ((with_reducible refine Dn_ok ?_ ?_); (· rfl)))
local macro_rules | `(tactic| fail) => `(tactic| ((with_reducible refine Sm_ok ?_ ?_); (· (first | omega | (simp; done) | (simp; omega)))))
local macro_rules | `(tactic| fail) => `(tactic| ((with_reducible refine Ln_ok ?_ ?_); (· (first | omega | (simp; done) | (simp; omega)))))
local macro_rules | `(tactic| fail) => `(tactic| ((with_reducible refine put_lz ?_ (by (try simp only [frz_nil, frz_cons, fz_nil, fz_own, fz_imm, fz_no, fz_row, fz_jk, fz_s, st_z, st_s]); rfl) ?_); (· rfl)))
local macro_rules | `(tactic| fail) => `(tactic| ((with_reducible refine put_l ?_ (by (try simp only [frz_nil, frz_cons, fz_nil, fz_own, fz_imm, fz_no, fz_row, fz_jk, fz_s, st_z, st_s]); rfl) ?_); (· rfl)))
local macro_rules | `(tactic| fail) => `(tactic| ((with_reducible refine ret_lz ?_ ?_); (· rfl)))
local macro_rules | `(tactic| fail) => `(tactic| ((with_reducible refine ret_l ?_ ?_); (· rfl)))
local macro_rules | `(tactic| fail) => `(tactic| (with_reducible refine ret_f inferInstance ?_))
local macro_rules | `(tactic| fail) => `(tactic| ((with_reducible refine Is_lenS ?_ ?_); (· decide)))
local macro_rules | `(tactic| fail) => `(tactic| ((with_reducible refine Is_mod ?_ ?_); (· omega)))
local macro_rules | `(tactic| fail) => `(tactic| (with_reducible refine W_getG Ht.h ?_))
local macro_rules | `(tactic| fail) => `(tactic| (with_reducible refine W_inG Ht.h ?_))
local macro_rules | `(tactic| fail) => `(tactic| ((with_reducible refine W_callR ?_ ?_); (· exact rfl)))
local macro_rules | `(tactic| fail) => `(tactic| ((with_reducible show WT (turnF _ _ _ _ _ _ _ _ _) _ _); refine WT_cmp (by exact rfl) ?_))
local macro_rules | `(tactic| fail) => `(tactic| (with_reducible refine W_call0 ?_))
local macro_rules | `(tactic| fail) => `(tactic| ((with_reducible show W (evE _ _ _ (.dget _ _) _) _); refine W_dget (by exact rfl) ?_))
local macro_rules | `(tactic| fail) => `(tactic| ((with_reducible show W (evE _ _ _ (.var _) _) _); refine W_var (by exact rfl) (by first | exact nrm_f | exact nrm_list | exact rfl) ?_))
local macro_rules | `(tactic| fail) => `(tactic| (with_reducible refine put_f (by (try simp only [frz_nil, frz_cons, fz_nil, fz_own, fz_imm, fz_no, fz_row, fz_jk, fz_s, st_z, st_s]); rfl) ?_))
local macro_rules | `(tactic| fail) => `(tactic| (with_reducible refine X_forK (by (try simp only [frz_nil, frz_cons, fz_nil, fz_own, fz_imm, fz_no, fz_row, fz_jk, fz_s, st_z, st_s]); rfl) ?_))
local macro_rules | `(tactic| fail) => `(tactic| (with_reducible refine X_for (by (try simp only [frz_nil, frz_cons, fz_nil, fz_own, fz_imm, fz_no, fz_row, fz_jk, fz_s, st_z, st_s]); rfl) ?_))
local macro_rules | `(tactic| fail) => `(tactic| (with_reducible refine X_tup (by (try simp only [frz_nil, frz_cons, fz_nil, fz_own, fz_imm, fz_no, fz_row, fz_jk, fz_s, st_z, st_s]); rfl) ?_))
local macro_rules | `(tactic| fail) => `(tactic| (with_reducible refine X_asg (by (try simp only [frz_nil, frz_cons, fz_nil, fz_own, fz_imm, fz_no, fz_row, fz_jk, fz_s, st_z, st_s]); rfl) ?_))
local macro_rules | `(tactic| fail) => `(tactic| (with_reducible refine putT3 ?_))
local macro_rules | `(tactic| fail) => `(tactic| (with_reducible refine putT2 ?_))
local macro_rules | `(tactic| fail) => `(tactic| (with_reducible refine putT1 ?_))
local macro_rules | `(tactic| fail) => `(tactic| (with_reducible refine Is_cutL1 ?_))
local macro_rules | `(tactic| fail) => `(tactic| (with_reducible refine Is_cutT1 ?_))
local macro_rules | `(tactic| fail) => `(tactic| (with_reducible refine Is_dkey ?_))
local macro_rules | `(tactic| fail) => `(tactic| (with_reducible refine Is_itL ?_))
local macro_rules | `(tactic| fail) => `(tactic| (with_reducible refine Is_itT ?_))
local macro_rules | `(tactic| fail) => `(tactic| (with_reducible refine Is_intB ?_))
local macro_rules | `(tactic| fail) => `(tactic| (with_reducible refine Is_intI ?_))
local macro_rules | `(tactic| fail) => `(tactic| (with_reducible refine Is_lisL ?_))
local macro_rules | `(tactic| fail) => `(tactic| (with_reducible refine Is_lisT ?_))
local macro_rules | `(tactic| fail) => `(tactic| (with_reducible refine Is_tupT ?_))
local macro_rules | `(tactic| fail) => `(tactic| (with_reducible refine Is_tupL ?_))
local macro_rules | `(tactic| fail) => `(tactic| (with_reducible refine Is_lenL ?_))
local macro_rules | `(tactic| fail) => `(tactic| (with_reducible refine Is_lenT ?_))
local macro_rules | `(tactic| fail) => `(tactic| (with_reducible refine Is_subI ?_))
local macro_rules | `(tactic| fail) => `(tactic| (with_reducible refine Is_addI ?_))
local macro_rules | `(tactic| fail) => `(tactic| (with_reducible refine Is_isiL ?_))
local macro_rules | `(tactic| fail) => `(tactic| (with_reducible refine Is_isiT ?_))
local macro_rules | `(tactic| fail) => `(tactic| (with_reducible refine Is_isiS ?_))
local macro_rules | `(tactic| fail) => `(tactic| (with_reducible refine Is_isiB ?_))
local macro_rules | `(tactic| fail) => `(tactic| (with_reducible refine Is_isiI ?_))
local macro_rules | `(tactic| fail) => `(tactic| (with_reducible refine Is_nin3 ?_))
local macro_rules | `(tactic| fail) => `(tactic| (with_reducible refine Is_in3 ?_))
local macro_rules | `(tactic| fail) => `(tactic| (with_reducible refine Is_nin2 ?_))
local macro_rules | `(tactic| fail) => `(tactic| (with_reducible refine Is_in2 ?_))
local macro_rules | `(tactic| fail) => `(tactic| (with_reducible refine Is_ninL ?_))
local macro_rules | `(tactic| fail) => `(tactic| (with_reducible refine Is_nin ?_))
local macro_rules | `(tactic| fail) => `(tactic| (with_reducible refine Is_scp ?_))
local macro_rules | `(tactic| fail) => `(tactic| (with_reducible refine Is_cpT ?_))
local macro_rules | `(tactic| fail) => `(tactic| (with_reducible refine Is_cpL ?_))
local macro_rules | `(tactic| fail) => `(tactic| (with_reducible refine Is_inL ?_))
local macro_rules | `(tactic| fail) => `(tactic| (with_reducible refine Is_in ?_))
local macro_rules | `(tactic| fail) => `(tactic| (with_reducible refine Is_geI ?_))
local macro_rules | `(tactic| fail) => `(tactic| (with_reducible refine Is_leI ?_))
local macro_rules | `(tactic| fail) => `(tactic| (with_reducible refine Is_gtI ?_))
local macro_rules | `(tactic| fail) => `(tactic| (with_reducible refine Is_ltI ?_))
local macro_rules | `(tactic| fail) => `(tactic| (with_reducible refine Is_neB ?_))
local macro_rules | `(tactic| fail) => `(tactic| (with_reducible refine Is_eqB ?_))
local macro_rules | `(tactic| fail) => `(tactic| (with_reducible refine Is_neNilT ?_))
local macro_rules | `(tactic| fail) => `(tactic| (with_reducible refine Is_eqNilT ?_))
local macro_rules | `(tactic| fail) => `(tactic| (with_reducible refine Is_neNil ?_))
local macro_rules | `(tactic| fail) => `(tactic| (with_reducible refine Is_eqNil ?_))
local macro_rules | `(tactic| fail) => `(tactic| (with_reducible refine Is_neS ?_))
local macro_rules | `(tactic| fail) => `(tactic| (with_reducible refine Is_eqS ?_))
local macro_rules | `(tactic| fail) => `(tactic| (with_reducible refine Is_neI ?_))
local macro_rules | `(tactic| fail) => `(tactic| (with_reducible refine Is_eqI ?_))
local macro_rules | `(tactic| fail) => `(tactic| (with_reducible refine IS_s ?_))
local macro_rules | `(tactic| fail) => `(tactic| (with_reducible refine II_i ?_))
local macro_rules | `(tactic| fail) => `(tactic| (with_reducible refine IB_b ?_))
local macro_rules | `(tactic| fail) => `(tactic| (with_reducible refine ILs_l ?_))
local macro_rules | `(tactic| fail) => `(tactic| (with_reducible refine X_dnew ?_))
local macro_rules | `(tactic| fail) => `(tactic| (with_reducible refine X_tryR ?_))
local macro_rules | `(tactic| fail) => `(tactic| (with_reducible refine X_retX ?_))
local macro_rules | `(tactic| fail) => `(tactic| (with_reducible refine X_raiC ?_))
local macro_rules | `(tactic| fail) => `(tactic| (with_reducible refine X_sto ?_))
local macro_rules | `(tactic| fail) => `(tactic| (with_reducible refine X_ins ?_))
local macro_rules | `(tactic| fail) => `(tactic| (with_reducible refine X_apo ?_))
local macro_rules | `(tactic| fail) => `(tactic| (with_reducible refine X_pas ?_))
local macro_rules | `(tactic| fail) => `(tactic| (with_reducible refine X_spo ?_))
local macro_rules | `(tactic| fail) => `(tactic| (with_reducible refine X_ext ?_))
local macro_rules | `(tactic| fail) => `(tactic| (with_reducible refine X_rem ?_))
local macro_rules | `(tactic| fail) => `(tactic| (with_reducible refine X_app ?_))
local macro_rules | `(tactic| fail) => `(tactic| (with_reducible refine X_par3 ?_))
local macro_rules | `(tactic| fail) => `(tactic| (with_reducible refine X_par2 ?_))
local macro_rules | `(tactic| fail) => `(tactic| (with_reducible refine X_exp ?_))
local macro_rules | `(tactic| fail) => `(tactic| (with_reducible refine X_whl ?_))
local macro_rules | `(tactic| fail) => `(tactic| (with_reducible refine X_ret ?_))
local macro_rules | `(tactic| fail) => `(tactic| (with_reducible refine X_ite ?_))
local macro_rules | `(tactic| fail) => `(tactic| (with_reducible refine X_nil ?_))
local macro_rules | `(tactic| fail) => `(tactic| (with_reducible refine X_cons ?_))
local macro_rules | `(tactic| fail) => `(tactic| (with_reducible refine CL_cons ?_))
local macro_rules | `(tactic| fail) => `(tactic| (with_reducible refine CL_nil ?_))
local macro_rules | `(tactic| fail) => `(tactic| (with_reducible refine WC_evB ?_))
local macro_rules | `(tactic| fail) => `(tactic| (with_reducible refine WI_rng3 ?_))
local macro_rules | `(tactic| fail) => `(tactic| (with_reducible refine WI_rng2 ?_))
local macro_rules | `(tactic| fail) => `(tactic| (with_reducible refine WI_rng1 ?_))
local macro_rules | `(tactic| fail) => `(tactic| (with_reducible refine WI_val ?_))
local macro_rules | `(tactic| fail) => `(tactic| (with_reducible refine WC_cons ?_))
local macro_rules | `(tactic| fail) => `(tactic| (with_reducible refine WC_nil ?_))
local macro_rules | `(tactic| fail) => `(tactic| (with_reducible refine WO_cons ?_))
local macro_rules | `(tactic| fail) => `(tactic| (with_reducible refine WO_nil ?_))
local macro_rules | `(tactic| fail) => `(tactic| (with_reducible refine WL_cons ?_))
local macro_rules | `(tactic| fail) => `(tactic| (with_reducible refine WL_nil ?_))
local macro_rules | `(tactic| fail) => `(tactic| (with_reducible refine W_sset ?_))
local macro_rules | `(tactic| fail) => `(tactic| (with_reducible refine W_scp ?_))
local macro_rules | `(tactic| fail) => `(tactic| (with_reducible refine W_lcp ?_))
local macro_rules | `(tactic| fail) => `(tactic| (with_reducible refine W_lrg ?_))
local macro_rules | `(tactic| fail) => `(tactic| (with_reducible refine W_meth ?_))
local macro_rules | `(tactic| fail) => `(tactic| (with_reducible refine W_join ?_))
local macro_rules | `(tactic| fail) => `(tactic| (with_reducible refine W_isq ?_))
local macro_rules | `(tactic| fail) => `(tactic| (with_reducible refine W_neg ?_))
local macro_rules | `(tactic| fail) => `(tactic| (with_reducible refine W_slc ?_))
local macro_rules | `(tactic| fail) => `(tactic| (with_reducible refine W_noN ?_))
local macro_rules | `(tactic| fail) => `(tactic| (with_reducible refine W_isN ?_))
local macro_rules | `(tactic| fail) => `(tactic| (with_reducible refine W_chn ?_))
local macro_rules | `(tactic| fail) => `(tactic| (with_reducible refine W_isi ?_))
local macro_rules | `(tactic| fail) => `(tactic| (with_reducible refine W_bi ?_))
local macro_rules | `(tactic| fail) => `(tactic| (with_reducible refine W_comp ?_))
local macro_rules | `(tactic| fail) => `(tactic| (with_reducible refine W_lst ?_))
local macro_rules | `(tactic| fail) => `(tactic| (with_reducible refine W_tup ?_))
local macro_rules | `(tactic| fail) => `(tactic| (with_reducible refine W_ite ?_))
local macro_rules | `(tactic| fail) => `(tactic| (with_reducible refine W_not ?_))
local macro_rules | `(tactic| fail) => `(tactic| (with_reducible refine W_or ?_))
local macro_rules | `(tactic| fail) => `(tactic| (with_reducible refine W_and ?_))
local macro_rules | `(tactic| fail) => `(tactic| (with_reducible refine W_sub ?_))
local macro_rules | `(tactic| fail) => `(tactic| (with_reducible refine W_cmp ?_))
local macro_rules | `(tactic| fail) => `(tactic| (with_reducible refine W_bin ?_))
local macro_rules | `(tactic| fail) => `(tactic| (with_reducible refine W_glo ?_))
local macro_rules | `(tactic| fail) => `(tactic| (with_reducible refine W_cst ?_))
variable {tbl : TblS} {fs : List Fd} {k : Nat} {g : G} {Q : D → Tag → G → Prop}
/-! ### questions that matter -/
def oD : Option Int → D
  | none => .none
  | some i => .int i
abbrev Kn := List (Option Int)
abbrev knD (l : Kn) : D := .tuple (l.map oD)
instance {o : Option Int} : LF (oD o) := ⟨by cases o <;> rfl⟩
instance {o : Option Int} : Dp (oD o) 0 := ⟨by cases o <;> simp [oD, PyData.depth]⟩
def knOk (l : Kn) : Prop := l.length = 3 ∧ ∀ v, some v ∈ l → 0 ≤ v ∧ v < 3
def kAt (l : Kn) (i : Int) : Option Int := (l[i.toNat]?).getD none
theorem kAt_get {l : Kn} (h : l.length = 3) {i : Int} (h0 : 0 ≤ i) (h1 : i < 3) : l[i.toNat]? = some (kAt l i) := by
  unfold kAt
  rw [List.getElem?_eq_getElem (by omega)]
  rfl
def known1 (l : Kn) (a : List Int) (i : Int) : Bool := match kAt l i with
  | none => false
  | some v => v != at0 a i
/-- answers that are as is known -/
def fits (l : Kn) (a : List Int) : Bool := ((Ri 0 3).filter (known1 l a)).isEmpty
def someA (l : Kn) : List (List Int) := allAns.filter (fits l)
def setA (a : List Int) (q v : Int) : List Int := a.take q.toNat ++ [v] ++ a.drop (q + 1).toNat
def differs (b : Book) (a o : List Int) : Bool := !decide (b.papers0 o = b.papers0 a)
def partsAt (b : Book) (a : List Int) (q : Int) : Bool := ([1, 2].map (setA a q)).any (differs b a)
def mattersQ (b : Book) (l : Kn) (q : Int) : Bool := (kAt l q).isNone && ((someA l).filter fun a => at0 a q == 0).any fun a => partsAt b a q
def _root_.Mi.B.Book.matter (b : Book) (l : Kn) : List Int := (Ri 0 3).filter (mattersQ b l)
theorem isNone_oD {o : Option Int} : isNone (oD o) = o.isNone := by cases o <;> rfl
theorem setA_ok {a : List Int} {q v : Int} (ha : ansOk a) (q0 : 0 ≤ q) (q3 : q < 3) (v0 : 0 ≤ v) (v3 : v < 3) : ansOk (setA a q v) := by
  obtain ⟨hl, h⟩ := ha
  refine ⟨by unfold setA; simp; omega, fun x hx => ?_⟩
  unfold setA at hx
  rcases List.mem_append.mp hx with hx | hx
  · rcases List.mem_append.mp hx with hx | hx
    · exact h x (List.mem_of_mem_take hx)
    · rw [List.mem_singleton.mp hx]; exact ⟨v0, v3⟩
  · exact h x (List.mem_of_mem_drop hx)
theorem setA_at {a : List Int} {q v i : Int} (ha : a.length = 3) (q0 : 0 ≤ q) (q3 : q < 3) (i0 : 0 ≤ i) (i3 : i < 3) : at0 (setA a q v) i = if i = q then v else at0 a i := by
  match a, ha with
  | [x, y, z], _ =>
    have hq : q = 0 ∨ q = 1 ∨ q = 2 := by omega
    have hi : i = 0 ∨ i = 1 ∨ i = 2 := by omega
    rcases hq with rfl | rfl | rfl <;> rcases hi with rfl | rfl | rfl <;> rfl
theorem fits_iff {l : Kn} {a : List Int} : fits l a = true ↔ ∀ i v, 0 ≤ i → i < 3 → kAt l i = some v → v = at0 a i := by
  unfold fits
  rw [List.isEmpty_iff, List.filter_eq_nil_iff]
  constructor
  · intro h i v h0 h3 e
    have := h i (mem_Ri.mpr (by omega))
    unfold known1 at this
    rw [e] at this
    simpa using this
  · intro h i hi
    have hi := mem_Ri.mp hi
    unfold known1
    cases e : kAt l i with
    | none => simp
    | some v =>
      have := h i v (by omega) (by omega) e
      simp [this]
theorem someA_mem {l : Kn} {a : List Int} : a ∈ someA l ↔ ansOk a ∧ fits l a = true := by
  unfold someA
  rw [List.mem_filter, allAns_mem]
theorem someA_set {l : Kn} {a : List Int} {q v : Int} (h : a ∈ someA l) (q0 : 0 ≤ q) (q3 : q < 3) (v0 : 0 ≤ v) (v3 : v < 3) (hk : kAt l q = none) : setA a q v ∈ someA l := by
  rw [someA_mem] at h ⊢
  refine ⟨setA_ok h.1 q0 q3 v0 v3, fits_iff.mpr fun i w h0 h3 e => ?_⟩
  rw [setA_at h.1.1 q0 q3 h0 h3]
  split
  · rename_i z
    rw [z, hk] at e
    cases e
  · exact fits_iff.mp h.2 i w h0 h3 e
theorem allAns_nodup : allAns.Nodup := by decide
theorem someA_nodup {l : Kn} : (someA l).Nodup := allAns_nodup.sublist List.filter_sublist
theorem someA_len {l : Kn} : (someA l).length ≤ 27 := Nat.le_trans (List.length_filter_le ..) (by decide)
section
variable [Hf fs f_is_whole] [Hf fs f_need_known]
theorem need_known_ok {l : Kn} (h : knOk l) : run tbl fs (k + 2) "need_known" false [knD l] g = some (.none, .fr, g) := by
  refine W_eq (R_need_known ?_)
  unfold b_need_known
  have hl : ((l.map oD).length : Int) = 3 := by rw [List.length_map, h.1]; rfl
  repeat' (first | fail | done)
  rw [hl]
  repeat' (first | fail | done)
  refine comp_none (enc := oD) (fun o ho => ?_) ?_
  · cases o with
    | none =>
      dsimp only [oD]
      repeat' (first | fail | done)
      rfl
    | some v =>
      have := h.2 v ho
      dsimp only [oD]
      repeat' (first | fail | ((with_reducible show W (run _ _ _ _ _ _ _) _); with_reducible refine W_is (is_whole_ok (k := k) this.1 this.2) ?_) | done)
      rfl
  · repeat' (first | fail | done)
    exact ⟨rfl, rfl, rfl⟩
variable [Hf fs f_fits_known]
theorem fits_known_run {l : Kn} {a : List Int} (h : knOk l) (ha : ansOk a) : run tbl fs (k + 1) "fits_known" false [rowD a, knD l] g = some (.bool (fits l a), .fr, g) := by
  refine W_eq (R_fits_known ?_)
  unfold b_fits_known
  repeat' (first | fail | done)
  rw [rng_Ri]
  refine comp_filter (enc := PyData.int) (known1 l a) (fun i hi => ?_) ?_
  · have hi := mem_Ri.mp hi
    have hi0 : 0 ≤ i := hi.1
    have hi3 : i < 3 := by omega
    have hk := kAt_get h.1 hi0 hi3
    unfold known1
    cases e : kAt l i with
    | none =>
      rw [e] at hk
      repeat' (first | fail | (refine Is_idx (enc := oD) (a := none) hi0 hk ?_) | done)
      dsimp only [oD]
      repeat' (first | fail | done)
      exact ⟨rfl, rfl⟩
    | some v =>
      rw [e] at hk
      repeat' (first | fail | (refine Is_idx (enc := oD) (a := some v) hi0 hk ?_) | (refine Is_idx (enc := PyData.int) (a := at0 a i) hi0 (at0_some ha.1 hi0 hi3) ?_) | done)
      dsimp only [oD]
      repeat' (first | fail | done)
      refine two (fun hu => ?_) (fun hu => ?_)
      · repeat' (first | fail | done)
        exact ⟨hu, rfl, rfl, rfl⟩
      · exact ⟨hu, rfl⟩
  · repeat' (first | fail | done)
    rw [List.isEmpty_map]
    exact ⟨rfl, rfl, rfl⟩
end
section
variable [Ht tbl "CONDITIONS" [("is", "qv"), ("not", "c"), ("both", "cc")]] [Ht tbl "WANTS" [("needs", "aa"), ("bars", "ab"), ("ahead", "ab"), ("one", "s"), ("some", "s"), ("when", "ca"), ("only", "ca")]]
variable [Hf fs f_is_whole] [Hf fs f_is_rising] [Hf fs f_is_word] [Hf fs f_is_part] [Hf fs f_is_clause] [Hf fs f_is_condition] [Hf fs f_is_want] [Hf fs f_need_book]
variable [Hf fs f_is_so] [Hf fs f_keeps] [Hf fs f_cites] [Hf fs f_all_cited] [Hf fs f_pairs_ahead] [Hf fs f_order] [Hf fs f_is_fit] [Hf fs f_all_sets] [Hf fs f_all_papers] [Hf fs f_all_answers] [Hf fs f_need_known] [Hf fs f_fits_known] [Hf fs f_matter]
abbrev p0D (b : Book) (a : List Int) : D := rowsD (b.papers0 a)
theorem matter_run {b : Book} {l : Kn} (hb : b.ok) (h : knOk l) : run tbl fs (k + 9) "matter" false [b.d, knD l] g = some (.list ((b.matter l).map PyData.int), .fr, g) := by
  refine W_eq (R_matter ?_)
  unfold b_matter
  have r1 : ∀ g, run tbl fs (k + 8) "need_book" false [b.d] g = some (.none, .fr, g) := fun g => need_book_ok (k := k + 1) hb
  have r2 : ∀ g, run tbl fs (k + 8) "need_known" false [knD l] g = some (.none, .fr, g) := fun g => need_known_ok (k := k + 6) h
  have r3 : ∀ g, run tbl fs (k + 8) "all_answers" false [] g = some (.list (allAns.map fun l => .tuple (l.map PyData.int)), .fz, g) := fun g => all_answers_run (k := k + 7)
  have hsl := someA_len (l := l)
  repeat' (first | fail | ((with_reducible show W (run _ _ _ _ _ _ _) _); with_reducible refine W_is (r1 _) ?_) | ((with_reducible show W (run _ _ _ _ _ _ _) _); with_reducible refine W_is (r2 _) ?_) | ((with_reducible show W (run _ _ _ _ _ _ _) _); with_reducible refine W_is (r3 _) ?_) | done)
  refine comp_filter (enc := fun l : List Int => PyData.tuple (l.map PyData.int)) (fits l) (fun a ha => ?_) ?_
  · have ha := allAns_mem.mp ha
    repeat' (first | fail | ((with_reducible show W (run _ _ _ _ _ _ _) _); with_reducible refine W_is (fits_known_run (k := k + 7) h ha) ?_) | done)
    refine two (fun hu => ?_) (fun hu => ?_)
    · repeat' (first | fail | done)
      exact ⟨hu, rfl, rfl, rfl⟩
    · exact ⟨hu, rfl⟩
  · rw [show allAns.filter (fits l) = someA l from rfl]
    repeat' (first | fail | done)
    refine X_dof ?_
    repeat' (first | fail | done)
    refine comp_map (enc := fun l : List Int => PyData.tuple (l.map PyData.int)) (fun a => .tuple [.tuple (a.map PyData.int), p0D b a]) (fun a ha => ?_) ?_
    · have ha := (someA_mem.mp ha).1
      repeat' (first | fail | ((with_reducible show W (run _ _ _ _ _ _ _) _); with_reducible refine W_is (all_papers_run (k := k + 1) hb ha) ?_) | done)
      exact ⟨rfl, rfl, rfl⟩
    · refine ⟨rfl, _, fE (p0D b) (someA l), rfl, pairs_fE, fE_nodup someA_nodup, ?_⟩
      repeat' (first | fail | done)
      rw [rng_Ri]
      refine for_gen (enc := PyData.int) (fun pre ρ g' => g' = g ∧ ∃ s2 s5 s6 s7 s8 : Sl, (s2 = Sl.own (rowsD (someA l)) ∨ s2 = Sl.imm (rowsD (someA l))) ∧ (s7 = Sl.no ∨ ∃ d, s7 = Sl.imm d) ∧ ρ = [.imm b.d, .imm (knD l), s2, .dcm (fE (p0D b) (someA l)), .own (.list ((pre.filter (mattersQ b l)).map PyData.int)), s5, s6, s7, s8, .no]) ⟨rfl, _, _, _, _, _, .inl rfl, .inl rfl, rfl⟩ (fun pre q post e ρ g' h0 => ?_) (fun ρ g' h0 => ?_)
      · obtain ⟨rfl, s2, s5, s6, s7, s8, h2, h7, rfl⟩ := h0
        have hq := mem_Ri.mp (show q ∈ Ri 0 3 by have := congrArg (q ∈ ·) e; simp only [List.mem_append, List.mem_cons, true_or, or_true, eq_iff_iff, iff_true] at this; exact this)
        have q0 : 0 ≤ q := hq.1
        have q3 : q < 3 := by have := hq.2; omega
        have hnew : q ∉ pre := fun hm => by
          have hp : (Ri 0 3).Pairwise (· < ·) := Ri_asc
          have e' : Ri 0 3 = pre ++ q :: post := e
          rw [e', List.pairwise_append] at hp
          exact absurd (hp.2.2 q hm q (List.mem_cons_self ..)) (Int.lt_irrefl _)
        have hz : frz [.imm b.d, .imm (knD l), s2, .dcm (fE (p0D b) (someA l)), .own (.list ((pre.filter (mattersQ b l)).map PyData.int)), .imm (.int q), s6, s7, s8, .no] [7, 2, 5] = [.imm b.d, .imm (knD l), .imm (rowsD (someA l)), .dcm (fE (p0D b) (someA l)), .own (.list ((pre.filter (mattersQ b l)).map PyData.int)), .imm (.int q), s6, s7, s8, .no] := by
          rcases h2 with rfl | rfl <;> rcases h7 with rfl | ⟨d, rfl⟩ <;> rfl
        have hfl := List.length_filter_le (mattersQ b l) pre
        have hpl : pre.length ≤ 3 := by
          have := congrArg List.length (show Ri 0 3 = pre ++ q :: post from e)
          rw [Ri_len] at this
          simp at this
          omega
        refine putT1 (put_f (by rfl) (X_cons (X_asg hz ?_)))
        repeat' (first | fail | done)
        refine comp_filter (enc := fun l : List Int => PyData.tuple (l.map PyData.int)) (fun a => at0 a q == 0) (fun a ha => ?_) ?_
        · have ha := (someA_mem.mp ha).1
          repeat' (first | fail | (refine Is_idx (enc := PyData.int) (a := at0 a q) q0 (at0_some ha.1 q0 q3) ?_) | done)
          refine two (fun hu => ?_) (fun hu => ?_)
          · repeat' (first | fail | done)
            exact ⟨by simpa using hu, rfl, rfl, rfl⟩
          · exact ⟨by simpa using hu, rfl⟩
        · repeat' (first | fail | (refine Is_idx (enc := oD) (a := kAt l q) q0 (kAt_get h.1 q0 q3) ?_) | done)
          rw [isNone_oD]
          cases hk : kAt l q with
          | some v =>
            refine two_f rfl ?_
            have hm : mattersQ b l q = false := by unfold mattersQ; rw [hk]; rfl
            have hf : (pre ++ [q]).filter (mattersQ b l) = pre.filter (mattersQ b l) := by
              rw [List.filter_append, List.filter_cons, hm]
              simp
            rw [hf]
            repeat' (first | fail | done)
            simp only [forL]
            first
              | exact ⟨⟨rfl, _, _, _, _, _, .inr rfl, h7, rfl⟩⟩
              | exact ⟨rfl, _, _, _, _, _, .inr rfl, h7, rfl⟩
          | none =>
            refine two_t rfl ?_
            repeat' (first | fail | done)
            have hmq : mattersQ b l q = ((someA l).filter fun a => at0 a q == 0).any fun a => partsAt b a q := by unfold mattersQ; rw [hk]; rfl
            refine for_gen (enc := fun l : List Int => PyData.tuple (l.map PyData.int)) (fun done ρ g2 => g2 = g' ∧ ∃ s7 s8 : Sl, (s7 = Sl.no ∨ ∃ d, s7 = Sl.imm d) ∧ ρ = [.imm b.d, .imm (knD l), .imm (rowsD (someA l)), .dcm (fE (p0D b) (someA l)), .own (.list ((pre.filter (mattersQ b l) ++ if done.any (fun a => partsAt b a q) then [q] else []).map PyData.int)), .imm (.int q), .imm (rowsD ((someA l).filter fun a => at0 a q == 0)), s7, s8, .no]) ⟨rfl, s7, s8, h7, by simp⟩ (fun done a post2 e2 ρ g2 h0 => ?_) (fun ρ g2 h0 => ?_)
            · obtain ⟨rfl, s7, s8, h7, rfl⟩ := h0
              have ham : a ∈ (someA l).filter fun a => at0 a q == 0 := by rw [e2]; simp
              have haS := (List.mem_filter.mp ham).1
              have ha := (someA_mem.mp haS).1
              have hal := ha.1
              have hs : has (pre.filter (mattersQ b l) ++ if done.any (fun a => partsAt b a q) then [q] else []) q = done.any (fun a => partsAt b a q) := by
                rw [Bool.eq_iff_iff, has_iff, List.mem_append]
                constructor
                · rintro (z | z)
                  · exact absurd (List.mem_filter.mp z).1 hnew
                  · split at z
                    · assumption
                    · cases z
                · intro z
                  right
                  rw [if_pos z]
                  simp
              have hcut : ∀ v : Int, cutD (a.map PyData.int) none (some q) ++ [PyData.int v] ++ cutD (a.map PyData.int) (some (q + 1)) none = (setA a q v).map PyData.int := fun v => by
                rw [cut_to q0, cut_from (by omega)]
                unfold setA
                rw [List.map_append, List.map_append, List.map_take, List.map_drop]
                rfl
              repeat' (first | fail | done)
              rw [rng_Ri]
              refine comp_map (enc := PyData.int) (fun v => .tuple ((setA a q v).map PyData.int)) (fun v hv => ?_) ?_
              · repeat' (first | fail | (refine Is_addT (by first | (rw [cut_to q0, cut_from (by omega)]; simp; unfold LINE; omega) | (rw [cut_to q0]; simp; unfold LINE; omega)) ?_) | done)
                rw [hcut]
                exact ⟨rfl, nrm_f, rfl⟩
              · repeat' (first | fail | done)
                rw [hs, List.any_append, List.any_cons, List.any_nil, Bool.or_false]
                cases hd : done.any (fun a => partsAt b a q) with
                | true =>
                  refine two_f rfl ?_
                  repeat' (first | fail | done)
                  exact ⟨rfl, _, _, .inr ⟨_, rfl⟩, rfl⟩
                | false =>
                  refine two_t rfl ?_
                  rw [if_neg Bool.false_ne_true, List.append_nil, Bool.false_or]
                  repeat' (first | fail | done)
                  refine comp_filter (enc := fun v => PyData.tuple ((setA a q v).map PyData.int)) (fun v => differs b a (setA a q v)) (fun v hv => ?_) ?_
                  · have hv := mem_Ri.mp hv
                    have hk1 := someA_set haS q0 q3 (show 0 ≤ v by omega) (show v < 3 by omega) hk
                    repeat' (first | fail | (refine Is_fE (k := setA a q v) hk1 ?_) | (refine Is_fE (k := a) haS ?_) | (refine Is_neD (enc := rowsD) (a := b.papers0 (setA a q v)) (b := b.papers0 a) (rowsD_dp _) ?_) | done)
                    refine two (fun hu => ?_) (fun hu => ?_)
                    · repeat' (first | fail | done)
                      exact ⟨hu, rfl, rfl, rfl⟩
                    · exact ⟨hu, rfl⟩
                  · have hpt : partsAt b a q = !(((Ri 1 (3 - 1 : Int).toNat).filter fun v => differs b a (setA a q v)).map fun v => PyData.tuple ((setA a q v).map PyData.int)).isEmpty := by
                      rw [List.isEmpty_map, any_filter]
                      unfold partsAt
                      rw [List.any_map]
                      rfl
                    repeat' (first | fail | done)
                    rw [hpt]
                    refine two (fun hu => ?_) (fun hu => ?_)
                    · repeat' (first | fail | done)
                      rw [hu, if_pos rfl, List.map_append]
                      exact ⟨rfl, _, _, .inr ⟨_, rfl⟩, rfl⟩
                    · repeat' (first | fail | done)
                      rw [hu, if_neg Bool.false_ne_true, List.append_nil]
                      exact ⟨rfl, _, _, .inr ⟨_, rfl⟩, rfl⟩
            · obtain ⟨rfl, s7, s8, h7, rfl⟩ := h0
              have hf : (pre ++ [q]).filter (mattersQ b l) = pre.filter (mattersQ b l) ++ if ((someA l).filter fun a => at0 a q == 0).any (fun a => partsAt b a q) then [q] else [] := by
                rw [List.filter_append, List.filter_cons, hmq]
                rfl
              rw [hf]
              exact ⟨rfl, _, _, _, _, _, .inr rfl, h7, rfl⟩
      · obtain ⟨rfl, s2, s5, s6, s7, s8, h2, h7, rfl⟩ := h0
        repeat' (first | fail | done)
        exact ⟨rfl, rfl, rfl⟩
end
end Mi.L
end
section
set_option maxRecDepth 100000
set_option maxHeartbeats 1000000
namespace Mi.L
open PySem PySem.Spec PyProof.Rows L2 Mi.B P
local macro_rules | `(tactic| fail) => `(tactic| (with_reducible refine Is_s (o := List.lookup _ _) rfl ?_))
local macro_rules | `(tactic| fail) => `(tactic| (with_reducible refine Is_s (o := slcD _ _ _) rfl ?_))
local macro_rules | `(tactic| fail) => `(tactic| (with_reducible refine Is_s (o := idxD _ _) rfl ?_))
local macro_rules | `(tactic| fail) => `(tactic| ((with_reducible refine two_f ?_ ?_); (· (first | rfl | (simp [ofs_eq]; done) | (simp; omega)))))
local macro_rules | `(tactic| fail) => `(tactic| ((with_reducible refine two_t ?_ ?_); (· (first | rfl | (simp [ofs_eq]; done) | (simp; omega)))))
local macro_rules | `(tactic| fail) => `(tactic| ((with_reducible show Ap _ _ _ _ _); refine Ap_ok (by exact rfl) (by exact fresh_f) (by (first | omega | (simp; done) | (simp; omega))) (by (try simp only [frz_nil, frz_cons, fz_nil, fz_own, fz_imm, fz_no, fz_row, fz_jk, fz_s, st_z, st_s]); rfl) ?_))
local macro_rules | `(tactic| fail) => `(tactic| ((with_reducible refine Nb_fz ?_ ?_); (· rfl)))
local macro_rules | `(tactic| fail) => `(tactic| ((with_reducible refine Nb_fr ?_ ?_); (· rfl)))
local macro_rules | `(tactic| fail) => `(tactic| (with_reducible refine Nb_f ?_))
local macro_rules | `(tactic| fail) => `(tactic| ((with_reducible refine Dn_ok ?_ ?_); (· rfl)))
local macro_rules | `(tactic| fail) => `(tactic| ((with_reducible refine Sm_ok ?_ ?_); (· (first | omega | (simp; done) | (simp; omega)))))
local macro_rules | `(tactic| fail) => `(tactic| ((with_reducible refine Ln_ok ?_ ?_); (· (first | omega | (simp; done) | (simp; omega)))))
local macro_rules | `(tactic| fail) => `(tactic| ((with_reducible refine put_lz ?_ (by (try simp only [frz_nil, frz_cons, fz_nil, fz_own, fz_imm, fz_no, fz_row, fz_jk, fz_s, st_z, st_s]); rfl) ?_); (· rfl)))
local macro_rules | `(tactic| fail) => `(tactic| ((with_reducible refine put_l ?_ (by (try simp only [frz_nil, frz_cons, fz_nil, fz_own, fz_imm, fz_no, fz_row, fz_jk, fz_s, st_z, st_s]); rfl) ?_); (· rfl)))
local macro_rules | `(tactic| fail) => `(tactic| ((with_reducible refine ret_lz ?_ ?_); (· rfl)))
local macro_rules | `(tactic| fail) => `(tactic| ((with_reducible refine ret_l ?_ ?_); (· rfl)))
local macro_rules | `(tactic| fail) => `(tactic| (with_reducible refine ret_f inferInstance ?_))
local macro_rules | `(tactic| fail) => `(tactic| ((with_reducible refine Is_lenS ?_ ?_); (· decide)))
local macro_rules | `(tactic| fail) => `(tactic| ((with_reducible refine Is_mod ?_ ?_); (· omega)))
local macro_rules | `(tactic| fail) => `(tactic| (with_reducible refine W_getG Ht.h ?_))
local macro_rules | `(tactic| fail) => `(tactic| (with_reducible refine W_inG Ht.h ?_))
local macro_rules | `(tactic| fail) => `(tactic| ((with_reducible refine W_callR ?_ ?_); (· exact rfl)))
local macro_rules | `(tactic| fail) => `(tactic| ((with_reducible show WT (turnF _ _ _ _ _ _ _ _ _) _ _); refine WT_cmp (by exact rfl) ?_))
local macro_rules | `(tactic| fail) => `(tactic| (with_reducible refine W_call0 ?_))
local macro_rules | `(tactic| fail) => `(tactic| ((with_reducible show W (evE _ _ _ (.dget _ _) _) _); refine W_dget (by exact rfl) ?_))
local macro_rules | `(tactic| fail) => `(tactic| ((with_reducible show W (evE _ _ _ (.var _) _) _); refine W_var (by exact rfl) (by first | exact nrm_f | exact nrm_list | exact rfl) ?_))
local macro_rules | `(tactic| fail) => `(tactic| (with_reducible refine put_f (by (try simp only [frz_nil, frz_cons, fz_nil, fz_own, fz_imm, fz_no, fz_row, fz_jk, fz_s, st_z, st_s]); rfl) ?_))
local macro_rules | `(tactic| fail) => `(tactic| (with_reducible refine X_forK (by (try simp only [frz_nil, frz_cons, fz_nil, fz_own, fz_imm, fz_no, fz_row, fz_jk, fz_s, st_z, st_s]); rfl) ?_))
local macro_rules | `(tactic| fail) => `(tactic| (with_reducible refine X_for (by (try simp only [frz_nil, frz_cons, fz_nil, fz_own, fz_imm, fz_no, fz_row, fz_jk, fz_s, st_z, st_s]); rfl) ?_))
local macro_rules | `(tactic| fail) => `(tactic| (with_reducible refine X_tup (by (try simp only [frz_nil, frz_cons, fz_nil, fz_own, fz_imm, fz_no, fz_row, fz_jk, fz_s, st_z, st_s]); rfl) ?_))
local macro_rules | `(tactic| fail) => `(tactic| (with_reducible refine X_asg (by (try simp only [frz_nil, frz_cons, fz_nil, fz_own, fz_imm, fz_no, fz_row, fz_jk, fz_s, st_z, st_s]); rfl) ?_))
local macro_rules | `(tactic| fail) => `(tactic| (with_reducible refine putT3 ?_))
local macro_rules | `(tactic| fail) => `(tactic| (with_reducible refine putT2 ?_))
local macro_rules | `(tactic| fail) => `(tactic| (with_reducible refine putT1 ?_))
local macro_rules | `(tactic| fail) => `(tactic| (with_reducible refine Is_cutL1 ?_))
local macro_rules | `(tactic| fail) => `(tactic| (with_reducible refine Is_cutT1 ?_))
local macro_rules | `(tactic| fail) => `(tactic| (with_reducible refine Is_dkey ?_))
local macro_rules | `(tactic| fail) => `(tactic| (with_reducible refine Is_itL ?_))
local macro_rules | `(tactic| fail) => `(tactic| (with_reducible refine Is_itT ?_))
local macro_rules | `(tactic| fail) => `(tactic| (with_reducible refine Is_intB ?_))
local macro_rules | `(tactic| fail) => `(tactic| (with_reducible refine Is_intI ?_))
local macro_rules | `(tactic| fail) => `(tactic| (with_reducible refine Is_lisL ?_))
local macro_rules | `(tactic| fail) => `(tactic| (with_reducible refine Is_lisT ?_))
local macro_rules | `(tactic| fail) => `(tactic| (with_reducible refine Is_tupT ?_))
local macro_rules | `(tactic| fail) => `(tactic| (with_reducible refine Is_tupL ?_))
local macro_rules | `(tactic| fail) => `(tactic| (with_reducible refine Is_lenL ?_))
local macro_rules | `(tactic| fail) => `(tactic| (with_reducible refine Is_lenT ?_))
local macro_rules | `(tactic| fail) => `(tactic| (with_reducible refine Is_subI ?_))
local macro_rules | `(tactic| fail) => `(tactic| (with_reducible refine Is_addI ?_))
local macro_rules | `(tactic| fail) => `(tactic| (with_reducible refine Is_isiL ?_))
local macro_rules | `(tactic| fail) => `(tactic| (with_reducible refine Is_isiT ?_))
local macro_rules | `(tactic| fail) => `(tactic| (with_reducible refine Is_isiS ?_))
local macro_rules | `(tactic| fail) => `(tactic| (with_reducible refine Is_isiB ?_))
local macro_rules | `(tactic| fail) => `(tactic| (with_reducible refine Is_isiI ?_))
local macro_rules | `(tactic| fail) => `(tactic| (with_reducible refine Is_nin3 ?_))
local macro_rules | `(tactic| fail) => `(tactic| (with_reducible refine Is_in3 ?_))
local macro_rules | `(tactic| fail) => `(tactic| (with_reducible refine Is_nin2 ?_))
local macro_rules | `(tactic| fail) => `(tactic| (with_reducible refine Is_in2 ?_))
local macro_rules | `(tactic| fail) => `(tactic| (with_reducible refine Is_ninL ?_))
local macro_rules | `(tactic| fail) => `(tactic| (with_reducible refine Is_nin ?_))
local macro_rules | `(tactic| fail) => `(tactic| (with_reducible refine Is_scp ?_))
local macro_rules | `(tactic| fail) => `(tactic| (with_reducible refine Is_cpT ?_))
local macro_rules | `(tactic| fail) => `(tactic| (with_reducible refine Is_cpL ?_))
local macro_rules | `(tactic| fail) => `(tactic| (with_reducible refine Is_inL ?_))
local macro_rules | `(tactic| fail) => `(tactic| (with_reducible refine Is_in ?_))
local macro_rules | `(tactic| fail) => `(tactic| (with_reducible refine Is_geI ?_))
local macro_rules | `(tactic| fail) => `(tactic| (with_reducible refine Is_leI ?_))
local macro_rules | `(tactic| fail) => `(tactic| (with_reducible refine Is_gtI ?_))
local macro_rules | `(tactic| fail) => `(tactic| (with_reducible refine Is_ltI ?_))
local macro_rules | `(tactic| fail) => `(tactic| (with_reducible refine Is_neB ?_))
local macro_rules | `(tactic| fail) => `(tactic| (with_reducible refine Is_eqB ?_))
local macro_rules | `(tactic| fail) => `(tactic| (with_reducible refine Is_neNilT ?_))
local macro_rules | `(tactic| fail) => `(tactic| (with_reducible refine Is_eqNilT ?_))
local macro_rules | `(tactic| fail) => `(tactic| (with_reducible refine Is_neNil ?_))
local macro_rules | `(tactic| fail) => `(tactic| (with_reducible refine Is_eqNil ?_))
local macro_rules | `(tactic| fail) => `(tactic| (with_reducible refine Is_neS ?_))
local macro_rules | `(tactic| fail) => `(tactic| (with_reducible refine Is_eqS ?_))
local macro_rules | `(tactic| fail) => `(tactic| (with_reducible refine Is_neI ?_))
local macro_rules | `(tactic| fail) => `(tactic| (with_reducible refine Is_eqI ?_))
local macro_rules | `(tactic| fail) => `(tactic| (with_reducible refine IS_s ?_))
local macro_rules | `(tactic| fail) => `(tactic| (with_reducible refine II_i ?_))
local macro_rules | `(tactic| fail) => `(tactic| (with_reducible refine IB_b ?_))
local macro_rules | `(tactic| fail) => `(tactic| (with_reducible refine ILs_l ?_))
local macro_rules | `(tactic| fail) => `(tactic| (with_reducible refine X_dnew ?_))
local macro_rules | `(tactic| fail) => `(tactic| (with_reducible refine X_tryR ?_))
local macro_rules | `(tactic| fail) => `(tactic| (with_reducible refine X_retX ?_))
local macro_rules | `(tactic| fail) => `(tactic| (with_reducible refine X_raiC ?_))
local macro_rules | `(tactic| fail) => `(tactic| (with_reducible refine X_sto ?_))
local macro_rules | `(tactic| fail) => `(tactic| (with_reducible refine X_ins ?_))
local macro_rules | `(tactic| fail) => `(tactic| (with_reducible refine X_apo ?_))
local macro_rules | `(tactic| fail) => `(tactic| (with_reducible refine X_pas ?_))
local macro_rules | `(tactic| fail) => `(tactic| (with_reducible refine X_spo ?_))
local macro_rules | `(tactic| fail) => `(tactic| (with_reducible refine X_ext ?_))
local macro_rules | `(tactic| fail) => `(tactic| (with_reducible refine X_rem ?_))
local macro_rules | `(tactic| fail) => `(tactic| (with_reducible refine X_app ?_))
local macro_rules | `(tactic| fail) => `(tactic| (with_reducible refine X_par3 ?_))
local macro_rules | `(tactic| fail) => `(tactic| (with_reducible refine X_par2 ?_))
local macro_rules | `(tactic| fail) => `(tactic| (with_reducible refine X_exp ?_))
local macro_rules | `(tactic| fail) => `(tactic| (with_reducible refine X_whl ?_))
local macro_rules | `(tactic| fail) => `(tactic| (with_reducible refine X_ret ?_))
local macro_rules | `(tactic| fail) => `(tactic| (with_reducible refine X_ite ?_))
local macro_rules | `(tactic| fail) => `(tactic| (with_reducible refine X_nil ?_))
local macro_rules | `(tactic| fail) => `(tactic| (with_reducible refine X_cons ?_))
local macro_rules | `(tactic| fail) => `(tactic| (with_reducible refine CL_cons ?_))
local macro_rules | `(tactic| fail) => `(tactic| (with_reducible refine CL_nil ?_))
local macro_rules | `(tactic| fail) => `(tactic| (with_reducible refine WC_evB ?_))
local macro_rules | `(tactic| fail) => `(tactic| (with_reducible refine WI_rng3 ?_))
local macro_rules | `(tactic| fail) => `(tactic| (with_reducible refine WI_rng2 ?_))
local macro_rules | `(tactic| fail) => `(tactic| (with_reducible refine WI_rng1 ?_))
local macro_rules | `(tactic| fail) => `(tactic| (with_reducible refine WI_val ?_))
local macro_rules | `(tactic| fail) => `(tactic| (with_reducible refine WC_cons ?_))
local macro_rules | `(tactic| fail) => `(tactic| (with_reducible refine WC_nil ?_))
local macro_rules | `(tactic| fail) => `(tactic| (with_reducible refine WO_cons ?_))
local macro_rules | `(tactic| fail) => `(tactic| (with_reducible refine WO_nil ?_))
local macro_rules | `(tactic| fail) => `(tactic| (with_reducible refine WL_cons ?_))
local macro_rules | `(tactic| fail) => `(tactic| (with_reducible refine WL_nil ?_))
local macro_rules | `(tactic| fail) => `(tactic| (with_reducible refine W_sset ?_))
local macro_rules | `(tactic| fail) => `(tactic| (with_reducible refine W_scp ?_))
local macro_rules | `(tactic| fail) => `(tactic| (with_reducible refine W_lcp ?_))
local macro_rules | `(tactic| fail) => `(tactic| (with_reducible refine W_lrg ?_))
local macro_rules | `(tactic| fail) => `(tactic| (with_reducible refine W_meth ?_))
local macro_rules | `(tactic| fail) => `(tactic| (with_reducible refine W_join ?_))
local macro_rules | `(tactic| fail) => `(tactic| (with_reducible refine W_isq ?_))
local macro_rules | `(tactic| fail) => `(tactic| (with_reducible refine W_neg ?_))
local macro_rules | `(tactic| fail) => `(tactic| (with_reducible refine W_slc ?_))
local macro_rules | `(tactic| fail) => `(tactic| (with_reducible refine W_noN ?_))
local macro_rules | `(tactic| fail) => `(tactic| (with_reducible refine W_isN ?_))
local macro_rules | `(tactic| fail) => `(tactic| (with_reducible refine W_chn ?_))
local macro_rules | `(tactic| fail) => `(tactic| (with_reducible refine W_isi ?_))
local macro_rules | `(tactic| fail) => `(tactic| (with_reducible refine W_bi ?_))
local macro_rules | `(tactic| fail) => `(tactic| (with_reducible refine W_comp ?_))
local macro_rules | `(tactic| fail) => `(tactic| (with_reducible refine W_lst ?_))
local macro_rules | `(tactic| fail) => `(tactic| (with_reducible refine W_tup ?_))
local macro_rules | `(tactic| fail) => `(tactic| (with_reducible refine W_ite ?_))
local macro_rules | `(tactic| fail) => `(tactic| (with_reducible refine W_not ?_))
local macro_rules | `(tactic| fail) => `(tactic| (with_reducible refine W_or ?_))
local macro_rules | `(tactic| fail) => `(tactic| (with_reducible refine W_and ?_))
local macro_rules | `(tactic| fail) => `(tactic| (with_reducible refine W_sub ?_))
local macro_rules | `(tactic| fail) => `(tactic| (with_reducible refine W_cmp ?_))
local macro_rules | `(tactic| fail) => `(tactic| (with_reducible refine W_bin ?_))
local macro_rules | `(tactic| fail) => `(tactic| (with_reducible refine W_glo ?_))
local macro_rules | `(tactic| fail) => `(tactic| (with_reducible refine W_cst ?_))
section
variable {b : Book} {l : Kn} {q : Int}
theorem setA_set {a : List Int} {v w : Int} (ha : a.length = 3) (q0 : 0 ≤ q) (q3 : q < 3) : setA (setA a q v) q w = setA a q w := by
  match a, ha with
  | [x, y, z], _ =>
    have hq : q = 0 ∨ q = 1 ∨ q = 2 := by omega
    rcases hq with rfl | rfl | rfl <;> rfl
theorem setA_self {a : List Int} (ha : a.length = 3) (q0 : 0 ≤ q) (q3 : q < 3) : setA a q (at0 a q) = a := by
  match a, ha with
  | [x, y, z], _ =>
    have hq : q = 0 ∨ q = 1 ∨ q = 2 := by omega
    rcases hq with rfl | rfl | rfl <;> rfl
theorem at0_in {a : List Int} (ha : ansOk a) (q0 : 0 ≤ q) (q3 : q < 3) : 0 ≤ at0 a q ∧ at0 a q < 3 := ha.2 _ (List.mem_of_getElem? (at0_some ha.1 q0 q3))
/-- as the law asks it -/
def dueA (b : Book) (q : Int) (a : List Int) : Bool := !decide (b.papers0 a = b.papers0 (setA a q 0))
def dueQ (b : Book) (l : Kn) (q : Int) : Bool := (kAt l q).isNone && (someA l).any (dueA b q)
theorem due_eq (q0 : 0 ≤ q) (q3 : q < 3) : mattersQ b l q = dueQ b l q := by
  unfold mattersQ dueQ
  cases hk : kAt l q with
  | some v => rfl
  | none =>
    rw [Option.isNone_none, Bool.true_and, Bool.true_and, Bool.eq_iff_iff, List.any_eq_true, List.any_eq_true]
    constructor
    · rintro ⟨a, ha, h⟩
      obtain ⟨h1, h2⟩ := List.mem_filter.mp ha
      have hl := (someA_mem.mp h1).1
      unfold partsAt at h
      rw [List.any_map, List.any_eq_true] at h
      obtain ⟨v, hv, h⟩ := h
      have hv3 : 0 ≤ v ∧ v < 3 := by
        simp only [List.mem_cons, List.not_mem_nil, or_false] at hv
        omega
      refine ⟨setA a q v, someA_set h1 q0 q3 hv3.1 hv3.2 hk, ?_⟩
      have e0 : at0 a q = 0 := by simpa using h2
      unfold dueA
      rw [setA_set hl.1 q0 q3, show setA a q 0 = a by rw [← e0]; exact setA_self hl.1 q0 q3]
      exact h
    · rintro ⟨a, h1, h⟩
      have hl := (someA_mem.mp h1).1
      have hv := at0_in hl q0 q3
      refine ⟨setA a q 0, List.mem_filter.mpr ⟨someA_set h1 q0 q3 (by omega) (by omega) hk, ?_⟩, ?_⟩
      · rw [setA_at hl.1 q0 q3 q0 q3, if_pos rfl]
        rfl
      · unfold partsAt
        rw [List.any_map, List.any_eq_true]
        refine ⟨at0 a q, ?_, ?_⟩
        · have hn : at0 a q ≠ 0 := fun z => by
            unfold dueA at h
            rw [show setA a q 0 = a by rw [← z]; exact setA_self hl.1 q0 q3] at h
            simp at h
          simp only [List.mem_cons, List.not_mem_nil, or_false]
          omega
        · show differs b (setA a q 0) (setA (setA a q 0) q (at0 a q)) = true
          rw [setA_set hl.1 q0 q3, setA_self hl.1 q0 q3]
          exact h
theorem matter_due : b.matter l = (Ri 0 3).filter (dueQ b l) := List.filter_congr fun q hq => by
  have hq := mem_Ri.mp hq
  exact due_eq hq.1 (by omega)
/-- the questions that a condition asks -/
def asked : Cond → List Int
  | .is q _ => [q]
  | .not c => asked c
  | .both c d => asked c ++ asked d
def askedW : Want → List Int
  | .when c _ => asked c
  | .only c _ => asked c
  | _ => []
theorem so_set : ∀ {c : Cond} {n : Nat} {a : List Int} {v : Int}, c.ok n → a.length = 3 → 0 ≤ q → q < 3 → q ∉ asked c → c.so (setA a q v) = c.so a
  | .is i w, n, a, v, hc, ha, q0, q3, h => by
    have hi : 0 ≤ i ∧ i < 3 ∧ 0 ≤ w ∧ w < 3 := by cases n <;> exact hc
    show (at0 (setA a q v) i == w) = (at0 a i == w)
    rw [setA_at ha q0 q3 hi.1 hi.2.1, if_neg fun z => h (by rw [z]; exact List.mem_singleton.mpr rfl)]
  | .not c, 0, a, v, hc, ha, q0, q3, h => hc.elim
  | .not c, n + 1, a, v, hc, ha, q0, q3, h => by
    show (!c.so _) = (!c.so _)
    rw [so_set (c := c) (n := n) hc ha q0 q3 h]
  | .both c d, 0, a, v, hc, ha, q0, q3, h => hc.elim
  | .both c d, n + 1, a, v, hc, ha, q0, q3, h => by
    have h' : q ∉ asked c ∧ q ∉ asked d := ⟨fun z => h (List.mem_append_left _ z), fun z => h (List.mem_append_right _ z)⟩
    show (c.so _ && d.so _) = (c.so _ && d.so _)
    rw [so_set (c := c) (n := n) hc.1 ha q0 q3 h'.1, so_set (c := d) (n := n) hc.2 ha q0 q3 h'.2]
theorem papers0_set (hb : b.ok) {a : List Int} {v : Int} (ha : a.length = 3) (q0 : 0 ≤ q) (q3 : q < 3) (h : q ∉ b.ws.flatMap askedW) : b.papers0 (setA a q v) = b.papers0 a := by
  unfold Book.papers0
  refine List.filter_congr fun p hp => ?_
  unfold Book.fit
  congr 2
  rw [Bool.eq_iff_iff, List.all_eq_true, List.all_eq_true]
  have key : ∀ w ∈ b.ws, w.keeps (setA a q v) p = w.keeps a p := fun w hw => by
    have hq : q ∉ askedW w := fun z => h (List.mem_flatMap.mpr ⟨w, hw, z⟩)
    have hok := hb.ws w hw
    cases w with
    | when c i =>
      show (has p i || !c.so _) = (has p i || !c.so _)
      rw [so_set hok.1 ha q0 q3 hq]
    | only c i =>
      show (!has p i || c.so _) = (!has p i || c.so _)
      rw [so_set hok.1 ha q0 q3 hq]
    | _ => rfl
  exact ⟨fun z w hw => by rw [← key w hw]; exact z w hw, fun z w hw => by rw [key w hw]; exact z w hw⟩
theorem matter_asked (hb : b.ok) (h : q ∈ b.matter l) : q ∈ b.ws.flatMap askedW := by
  apply Classical.byContradiction
  intro hn
  rw [matter_due] at h
  obtain ⟨hq, h⟩ := List.mem_filter.mp h
  have hq := mem_Ri.mp hq
  unfold dueQ at h
  rw [Bool.and_eq_true, List.any_eq_true] at h
  obtain ⟨_, a, ha, h⟩ := h
  unfold dueA at h
  rw [papers0_set hb (someA_mem.mp ha).1.1 hq.1 (by omega) hn] at h
  simp at h
theorem matter_known (h : ∀ i, 0 ≤ i → i < 3 → (kAt l i).isNone = false) : b.matter l = [] := by
  rw [matter_due, List.filter_eq_nil_iff]
  intro q hq
  have hq := mem_Ri.mp hq
  unfold dueQ
  rw [h q hq.1 (by omega)]
  simp
def notCond : Want → Bool
  | .when _ _ => false
  | .only _ _ => false
  | _ => true
def bareB (b : Book) : Book := ⟨b.cl, b.ws.filter notCond⟩
theorem bareB_ok (hb : b.ok) : (bareB b).ok := sub_ok hb List.filter_sublist
theorem matter_bare (hb : b.ok) : (bareB b).matter l = [] := by
  rw [List.eq_nil_iff_forall_not_mem]
  intro q hq
  have := matter_asked (bareB_ok hb) hq
  obtain ⟨w, hw, h⟩ := List.mem_flatMap.mp this
  have h2 := (List.mem_filter.mp hw).2
  cases w with
  | when c i => exact absurd h2 (by simp [notCond])
  | only c i => exact absurd h2 (by simp [notCond])
  | _ => exact absurd h (by simp [askedW])
end
end Mi.L
end
section
set_option maxRecDepth 100000
set_option maxHeartbeats 1000000
namespace Mi.L
open PySem PySem.Spec PyProof.Rows L2 Mi.B P
local macro_rules | `(tactic| fail) => `(tactic| (with_reducible refine Is_s (o := List.lookup _ _) rfl ?_))
local macro_rules | `(tactic| fail) => `(tactic| (with_reducible refine Is_s (o := slcD _ _ _) rfl ?_))
local macro_rules | `(tactic| fail) => `(tactic| (with_reducible refine Is_s (o := idxD _ _) rfl ?_))
local macro_rules | `(tactic| fail) => `(tactic| ((with_reducible refine two_f ?_ ?_); (· (first | rfl | (simp [ofs_eq]; done) | (simp; omega)))))
local macro_rules | `(tactic| fail) => `(tactic| ((with_reducible refine two_t ?_ ?_); (· (first | rfl | (simp [ofs_eq]; done) | (simp; omega)))))
local macro_rules | `(tactic| fail) => `(tactic| ((with_reducible show Ap _ _ _ _ _); refine Ap_ok (by exact rfl) (by exact fresh_f) (by (first | omega | (simp; done) | (simp; omega))) (by (try simp only [frz_nil, frz_cons, fz_nil, fz_own, fz_imm, fz_no, fz_row, fz_jk, fz_s, st_z, st_s]); rfl) ?_))
local macro_rules | `(tactic| fail) => `(tactic| ((with_reducible refine Nb_fz ?_ ?_); (· rfl)))
local macro_rules | `(tactic| fail) => `(tactic| ((with_reducible refine Nb_fr ?_ ?_); (· rfl)))
local macro_rules | `(tactic| fail) => `(tactic| (with_reducible refine Nb_f ?_))
local macro_rules | `(tactic| fail) => `(tactic| ((with_reducible refine Dn_ok ?_ ?_); (· rfl)))
local macro_rules | `(tactic| fail) => `(tactic| ((with_reducible refine Sm_ok ?_ ?_); (· (first | omega | (simp; done) | (simp; omega)))))
local macro_rules | `(tactic| fail) => `(tactic| ((with_reducible refine Ln_ok ?_ ?_); (· (first | omega | (simp; done) | (simp; omega)))))
local macro_rules | `(tactic| fail) => `(tactic| ((with_reducible refine put_lz ?_ (by (try simp only [frz_nil, frz_cons, fz_nil, fz_own, fz_imm, fz_no, fz_row, fz_jk, fz_s, st_z, st_s]); rfl) ?_); (· rfl)))
local macro_rules | `(tactic| fail) => `(tactic| ((with_reducible refine put_l ?_ (by (try simp only [frz_nil, frz_cons, fz_nil, fz_own, fz_imm, fz_no, fz_row, fz_jk, fz_s, st_z, st_s]); rfl) ?_); (· rfl)))
local macro_rules | `(tactic| fail) => `(tactic| ((with_reducible refine ret_lz ?_ ?_); (· rfl)))
local macro_rules | `(tactic| fail) => `(tactic| ((with_reducible refine ret_l ?_ ?_); (· rfl)))
local macro_rules | `(tactic| fail) => `(tactic| (with_reducible refine ret_f inferInstance ?_))
local macro_rules | `(tactic| fail) => `(tactic| ((with_reducible refine Is_lenS ?_ ?_); (· decide)))
local macro_rules | `(tactic| fail) => `(tactic| ((with_reducible refine Is_mod ?_ ?_); (· omega)))
local macro_rules | `(tactic| fail) => `(tactic| (with_reducible refine W_getG Ht.h ?_))
local macro_rules | `(tactic| fail) => `(tactic| (with_reducible refine W_inG Ht.h ?_))
local macro_rules | `(tactic| fail) => `(tactic| ((with_reducible refine W_callR ?_ ?_); (· exact rfl)))
local macro_rules | `(tactic| fail) => `(tactic| ((with_reducible show WT (turnF _ _ _ _ _ _ _ _ _) _ _); refine WT_cmp (by exact rfl) ?_))
local macro_rules | `(tactic| fail) => `(tactic| (with_reducible refine W_call0 ?_))
local macro_rules | `(tactic| fail) => `(tactic| ((with_reducible show W (evE _ _ _ (.dget _ _) _) _); refine W_dget (by exact rfl) ?_))
local macro_rules | `(tactic| fail) => `(tactic| ((with_reducible show W (evE _ _ _ (.var _) _) _); refine W_var (by exact rfl) (by first | exact nrm_f | exact nrm_list | exact rfl) ?_))
local macro_rules | `(tactic| fail) => `(tactic| (with_reducible refine put_f (by (try simp only [frz_nil, frz_cons, fz_nil, fz_own, fz_imm, fz_no, fz_row, fz_jk, fz_s, st_z, st_s]); rfl) ?_))
local macro_rules | `(tactic| fail) => `(tactic| (with_reducible refine X_forK (by (try simp only [frz_nil, frz_cons, fz_nil, fz_own, fz_imm, fz_no, fz_row, fz_jk, fz_s, st_z, st_s]); rfl) ?_))
local macro_rules | `(tactic| fail) => `(tactic| (with_reducible refine X_for (by (try simp only [frz_nil, frz_cons, fz_nil, fz_own, fz_imm, fz_no, fz_row, fz_jk, fz_s, st_z, st_s]); rfl) ?_))
local macro_rules | `(tactic| fail) => `(tactic| (with_reducible refine X_tup (by (try simp only [frz_nil, frz_cons, fz_nil, fz_own, fz_imm, fz_no, fz_row, fz_jk, fz_s, st_z, st_s]); rfl) ?_))
local macro_rules | `(tactic| fail) => `(tactic| (with_reducible refine X_asg (by (try simp only [frz_nil, frz_cons, fz_nil, fz_own, fz_imm, fz_no, fz_row, fz_jk, fz_s, st_z, st_s]); rfl) ?_))
local macro_rules | `(tactic| fail) => `(tactic| (with_reducible refine putT3 ?_))
local macro_rules | `(tactic| fail) => `(tactic| (with_reducible refine putT2 ?_))
local macro_rules | `(tactic| fail) => `(tactic| (with_reducible refine putT1 ?_))
local macro_rules | `(tactic| fail) => `(tactic| (with_reducible refine Is_cutL1 ?_))
local macro_rules | `(tactic| fail) => `(tactic| (with_reducible refine Is_cutT1 ?_))
local macro_rules | `(tactic| fail) => `(tactic| (with_reducible refine Is_dkey ?_))
local macro_rules | `(tactic| fail) => `(tactic| (with_reducible refine Is_itL ?_))
local macro_rules | `(tactic| fail) => `(tactic| (with_reducible refine Is_itT ?_))
local macro_rules | `(tactic| fail) => `(tactic| (with_reducible refine Is_intB ?_))
local macro_rules | `(tactic| fail) => `(tactic| (with_reducible refine Is_intI ?_))
local macro_rules | `(tactic| fail) => `(tactic| (with_reducible refine Is_lisL ?_))
local macro_rules | `(tactic| fail) => `(tactic| (with_reducible refine Is_lisT ?_))
local macro_rules | `(tactic| fail) => `(tactic| (with_reducible refine Is_tupT ?_))
local macro_rules | `(tactic| fail) => `(tactic| (with_reducible refine Is_tupL ?_))
local macro_rules | `(tactic| fail) => `(tactic| (with_reducible refine Is_lenL ?_))
local macro_rules | `(tactic| fail) => `(tactic| (with_reducible refine Is_lenT ?_))
local macro_rules | `(tactic| fail) => `(tactic| (with_reducible refine Is_subI ?_))
local macro_rules | `(tactic| fail) => `(tactic| (with_reducible refine Is_addI ?_))
local macro_rules | `(tactic| fail) => `(tactic| (with_reducible refine Is_isiL ?_))
local macro_rules | `(tactic| fail) => `(tactic| (with_reducible refine Is_isiT ?_))
local macro_rules | `(tactic| fail) => `(tactic| (with_reducible refine Is_isiS ?_))
local macro_rules | `(tactic| fail) => `(tactic| (with_reducible refine Is_isiB ?_))
local macro_rules | `(tactic| fail) => `(tactic| (with_reducible refine Is_isiI ?_))
local macro_rules | `(tactic| fail) => `(tactic| (with_reducible refine Is_nin3 ?_))
local macro_rules | `(tactic| fail) => `(tactic| (with_reducible refine Is_in3 ?_))
local macro_rules | `(tactic| fail) => `(tactic| (with_reducible refine Is_nin2 ?_))
local macro_rules | `(tactic| fail) => `(tactic| (with_reducible refine Is_in2 ?_))
local macro_rules | `(tactic| fail) => `(tactic| (with_reducible refine Is_ninL ?_))
local macro_rules | `(tactic| fail) => `(tactic| (with_reducible refine Is_nin ?_))
local macro_rules | `(tactic| fail) => `(tactic| (with_reducible refine Is_scp ?_))
local macro_rules | `(tactic| fail) => `(tactic| (with_reducible refine Is_cpT ?_))
local macro_rules | `(tactic| fail) => `(tactic| (with_reducible refine Is_cpL ?_))
local macro_rules | `(tactic| fail) => `(tactic| (with_reducible refine Is_inL ?_))
local macro_rules | `(tactic| fail) => `(tactic| (with_reducible refine Is_in ?_))
local macro_rules | `(tactic| fail) => `(tactic| (with_reducible refine Is_geI ?_))
local macro_rules | `(tactic| fail) => `(tactic| (with_reducible refine Is_leI ?_))
local macro_rules | `(tactic| fail) => `(tactic| (with_reducible refine Is_gtI ?_))
local macro_rules | `(tactic| fail) => `(tactic| (with_reducible refine Is_ltI ?_))
local macro_rules | `(tactic| fail) => `(tactic| (with_reducible refine Is_neB ?_))
local macro_rules | `(tactic| fail) => `(tactic| (with_reducible refine Is_eqB ?_))
local macro_rules | `(tactic| fail) => `(tactic| (with_reducible refine Is_neNilT ?_))
local macro_rules | `(tactic| fail) => `(tactic| (with_reducible refine Is_eqNilT ?_))
local macro_rules | `(tactic| fail) => `(tactic| (with_reducible refine Is_neNil ?_))
local macro_rules | `(tactic| fail) => `(tactic| (with_reducible refine Is_eqNil ?_))
local macro_rules | `(tactic| fail) => `(tactic| (with_reducible refine Is_neS ?_))
local macro_rules | `(tactic| fail) => `(tactic| (with_reducible refine Is_eqS ?_))
local macro_rules | `(tactic| fail) => `(tactic| (with_reducible refine Is_neI ?_))
local macro_rules | `(tactic| fail) => `(tactic| (with_reducible refine Is_eqI ?_))
local macro_rules | `(tactic| fail) => `(tactic| (with_reducible refine IS_s ?_))
local macro_rules | `(tactic| fail) => `(tactic| (with_reducible refine II_i ?_))
local macro_rules | `(tactic| fail) => `(tactic| (with_reducible refine IB_b ?_))
local macro_rules | `(tactic| fail) => `(tactic| (with_reducible refine ILs_l ?_))
local macro_rules | `(tactic| fail) => `(tactic| (with_reducible refine X_dnew ?_))
local macro_rules | `(tactic| fail) => `(tactic| (with_reducible refine X_tryR ?_))
local macro_rules | `(tactic| fail) => `(tactic| (with_reducible refine X_retX ?_))
local macro_rules | `(tactic| fail) => `(tactic| (with_reducible refine X_raiC ?_))
local macro_rules | `(tactic| fail) => `(tactic| (with_reducible refine X_sto ?_))
local macro_rules | `(tactic| fail) => `(tactic| (with_reducible refine X_ins ?_))
local macro_rules | `(tactic| fail) => `(tactic| (with_reducible refine X_apo ?_))
local macro_rules | `(tactic| fail) => `(tactic| (with_reducible refine X_pas ?_))
local macro_rules | `(tactic| fail) => `(tactic| (with_reducible refine X_spo ?_))
local macro_rules | `(tactic| fail) => `(tactic| (with_reducible refine X_ext ?_))
local macro_rules | `(tactic| fail) => `(tactic| (with_reducible refine X_rem ?_))
local macro_rules | `(tactic| fail) => `(tactic| (with_reducible refine X_app ?_))
local macro_rules | `(tactic| fail) => `(tactic| (with_reducible refine X_par3 ?_))
local macro_rules | `(tactic| fail) => `(tactic| (with_reducible refine X_par2 ?_))
local macro_rules | `(tactic| fail) => `(tactic| (with_reducible refine X_exp ?_))
local macro_rules | `(tactic| fail) => `(tactic| (with_reducible refine X_whl ?_))
local macro_rules | `(tactic| fail) => `(tactic| (with_reducible refine X_ret ?_))
local macro_rules | `(tactic| fail) => `(tactic| (with_reducible refine X_ite ?_))
local macro_rules | `(tactic| fail) => `(tactic| (with_reducible refine X_nil ?_))
local macro_rules | `(tactic| fail) => `(tactic| (with_reducible refine X_cons ?_))
local macro_rules | `(tactic| fail) => `(tactic| (with_reducible refine CL_cons ?_))
local macro_rules | `(tactic| fail) => `(tactic| (with_reducible refine CL_nil ?_))
local macro_rules | `(tactic| fail) => `(tactic| (with_reducible refine WC_evB ?_))
local macro_rules | `(tactic| fail) => `(tactic| (with_reducible refine WI_rng3 ?_))
local macro_rules | `(tactic| fail) => `(tactic| (with_reducible refine WI_rng2 ?_))
local macro_rules | `(tactic| fail) => `(tactic| (with_reducible refine WI_rng1 ?_))
local macro_rules | `(tactic| fail) => `(tactic| (with_reducible refine WI_val ?_))
local macro_rules | `(tactic| fail) => `(tactic| (with_reducible refine WC_cons ?_))
local macro_rules | `(tactic| fail) => `(tactic| (with_reducible refine WC_nil ?_))
local macro_rules | `(tactic| fail) => `(tactic| (with_reducible refine WO_cons ?_))
local macro_rules | `(tactic| fail) => `(tactic| (with_reducible refine WO_nil ?_))
local macro_rules | `(tactic| fail) => `(tactic| (with_reducible refine WL_cons ?_))
local macro_rules | `(tactic| fail) => `(tactic| (with_reducible refine WL_nil ?_))
local macro_rules | `(tactic| fail) => `(tactic| (with_reducible refine W_sset ?_))
local macro_rules | `(tactic| fail) => `(tactic| (with_reducible refine W_scp ?_))
local macro_rules | `(tactic| fail) => `(tactic| (with_reducible refine W_lcp ?_))
local macro_rules | `(tactic| fail) => `(tactic| (with_reducible refine W_lrg ?_))
local macro_rules | `(tactic| fail) => `(tactic| (with_reducible refine W_meth ?_))
local macro_rules | `(tactic| fail) => `(tactic| (with_reducible refine W_join ?_))
local macro_rules | `(tactic| fail) => `(tactic| (with_reducible refine W_isq ?_))
local macro_rules | `(tactic| fail) => `(tactic| (with_reducible refine W_neg ?_))
local macro_rules | `(tactic| fail) => `(tactic| (with_reducible refine W_slc ?_))
local macro_rules | `(tactic| fail) => `(tactic| (with_reducible refine W_noN ?_))
local macro_rules | `(tactic| fail) => `(tactic| (with_reducible refine W_isN ?_))
local macro_rules | `(tactic| fail) => `(tactic| (with_reducible refine W_chn ?_))
local macro_rules | `(tactic| fail) => `(tactic| (with_reducible refine W_isi ?_))
local macro_rules | `(tactic| fail) => `(tactic| (with_reducible refine W_bi ?_))
local macro_rules | `(tactic| fail) => `(tactic| (with_reducible refine W_comp ?_))
local macro_rules | `(tactic| fail) => `(tactic| (with_reducible refine W_lst ?_))
local macro_rules | `(tactic| fail) => `(tactic| (with_reducible refine W_tup ?_))
local macro_rules | `(tactic| fail) => `(tactic| (with_reducible refine W_ite ?_))
local macro_rules | `(tactic| fail) => `(tactic| (with_reducible refine W_not ?_))
local macro_rules | `(tactic| fail) => `(tactic| (with_reducible refine W_or ?_))
local macro_rules | `(tactic| fail) => `(tactic| (with_reducible refine W_and ?_))
local macro_rules | `(tactic| fail) => `(tactic| (with_reducible refine W_sub ?_))
local macro_rules | `(tactic| fail) => `(tactic| (with_reducible refine W_cmp ?_))
local macro_rules | `(tactic| fail) => `(tactic| (with_reducible refine W_bin ?_))
local macro_rules | `(tactic| fail) => `(tactic| (with_reducible refine W_glo ?_))
local macro_rules | `(tactic| fail) => `(tactic| (with_reducible refine W_cst ?_))
section
variable {k : Nat} {g : G}
theorem law_all_run : run tbl fs (k + 1) "_law_all" false [] g = some (.list (allAns.map fun l => .tuple (l.map PyData.int)), .fz, g) := by
  refine W_eq (R__law_all ?_)
  have e : execs (run tbl fs k) tbl b__law_all [.no, .no, .no, .no, .no] g = some (.rt (.list (allAns.map fun l => .tuple (l.map PyData.int))) .fz g) := by
    kernel_rfl
  rw [e]
  exact ⟨⟨rfl, rfl, rfl⟩⟩
theorem asked_len : ∀ {c : Cond} {n : Nat}, c.ok n → (asked c).length ≤ 2 ^ n
  | .is _ _, n, _ => Nat.one_le_two_pow
  | .not c, 0, h => h.elim
  | .not c, n + 1, h => Nat.le_trans (asked_len (c := c) (n := n) h) (Nat.pow_le_pow_right (by omega) (by omega))
  | .both c d, 0, h => h.elim
  | .both c d, n + 1, h => by
    have h1 := asked_len (c := c) (n := n) h.1
    have h2 := asked_len (c := d) (n := n) h.2
    unfold asked
    rw [List.length_append, Nat.pow_succ]
    omega
theorem asked_loop {n : Nat} (hn : n ≤ 20) {cd : D} {cs : List Cond} (hl : cs.length ≤ 2) (hc : ∀ c ∈ cs, (asked c).length ≤ 2 ^ n ∧ ∃ t, (t = Tag.fr ∨ t = Tag.fz) ∧ run tbl fs k "_law_asked" false [c.d] g = some (.list ((asked c).map PyData.int), t, g))
    {s1 : Sl} (h1 : s1 = .own (.list [])) {Q : SEnv → G → Prop} {R : D → Tag → G → Prop} (q : ∀ s1 s2 : Sl, (s1 = .own (.list ((cs.flatMap asked).map PyData.int)) ∨ s1 = .imm (.list ((cs.flatMap asked).map PyData.int))) → Q [.imm cd, s1, s2] g) :
    WX (forL (.one 2) .fz (fun ρ g => execs (run tbl fs k) tbl (.cons (.asg 1 [1, 2] (.bin .add (.var 1) (.call "_law_asked" none (.cons (.var 2) .nil)))) .nil) ρ g) (cs.map Cond.d) [.imm cd, s1, .no] g) Q R := by
  have h20 : 2 ^ n ≤ 1048576 := Nat.pow_le_pow_right (n := 2) (by omega) hn
  refine for_gen (enc := Cond.d) (fun pre ρ g' => g' = g ∧ ∃ s1 s2 : Sl, (s1 = .own (.list ((pre.flatMap asked).map PyData.int)) ∨ s1 = .imm (.list ((pre.flatMap asked).map PyData.int))) ∧ ρ = [.imm cd, s1, s2]) ⟨rfl, _, _, .inl h1, rfl⟩ (fun pre c post e ρ g' h0 => ?_) (fun ρ g' h0 => ?_)
  · obtain ⟨rfl, s1, s2, h1, rfl⟩ := h0
    obtain ⟨hcl, t, ht, hr⟩ := hc c (by rw [e]; simp)
    have hpl : (pre.flatMap asked).length ≤ 2 * 2 ^ n := by
      have h2 : ∀ (l : List Cond), (∀ c ∈ l, c ∈ cs) → (l.flatMap asked).length ≤ l.length * 2 ^ n := by
        intro l
        induction l with
        | nil => intro _; simp
        | cons x l ih =>
          intro h
          have i1 := ih fun c hc => h c (List.mem_cons_of_mem _ hc)
          have i2 := (hc x (h x (List.mem_cons_self ..))).1
          rw [List.flatMap_cons, List.length_append, List.length_cons, Nat.add_mul]
          omega
      have h3 := h2 pre fun c hc => by rw [e]; simp [hc]
      have h4 : pre.length ≤ 2 := by
        have := congrArg List.length e
        rw [List.length_append] at this
        omega
      exact Nat.le_trans h3 (Nat.mul_le_mul_right _ h4)
    rw [List.flatMap_append, List.map_append, List.flatMap_cons, List.flatMap_nil, List.append_nil]
    generalize pre.flatMap asked = acc at *
    rcases h1 with rfl | rfl <;> rcases ht with rfl | rfl
    all_goals
      repeat' (first | fail | ((with_reducible show W (run _ _ _ _ _ _ _) _); with_reducible refine W_is (hr) ?_) | (refine Is_addL (by simp only [List.length_map]; unfold LINE; omega) ?_) | done)
      first
        | exact ⟨rfl, _, _, .inr rfl, rfl⟩
        | exact ⟨rfl, _, _, .inl rfl, rfl⟩
  · obtain ⟨rfl, s1, s2, h1, rfl⟩ := h0
    exact q _ _ h1
theorem asked_run : ∀ (c : Cond) {n : Nat} {k : Nat} {g : G}, c.ok n → n ≤ 20 → ∃ t, (t = Tag.fr ∨ t = Tag.fz) ∧ run tbl fs (k + n + 1) "_law_asked" false [c.d] g = some (.list ((asked c).map PyData.int), t, g)
  | .is q v, n, k, g, h, _ => by
    refine ⟨.fr, .inl rfl, W_eq (R__law_asked ?_)⟩
    unfold b__law_asked
    dsimp only [Cond.d]
    repeat' (first | fail | done)
    exact ⟨rfl, rfl, rfl⟩
  | .not c, 0, k, g, h, _ => h.elim
  | .not c, n + 1, k, g, h, hn => by
    have ih := asked_run c (n := n) (k := k) (g := g) h (by omega)
    have main : W (run tbl fs (k + (n + 1) + 1) "_law_asked" false [(Cond.not c).d] g) fun d t g' => d = .list ((asked c).map PyData.int) ∧ (t = .fr ∨ t = .fz) ∧ g' = g := by
      refine R__law_asked ?_
      unfold b__law_asked
      dsimp only [Cond.d]
      repeat' (first | fail | done)
      show WX (forL _ _ _ ([c].map Cond.d) _ _) _ _
      refine asked_loop (n := n) (by omega) (by simp) (fun x hx => ?_) rfl (fun s1 s2 h1 => ?_)
      · rw [List.mem_singleton.mp hx]
        exact ⟨asked_len h, ih⟩
      · rw [show [c].flatMap asked = asked c by simp] at h1
        rcases h1 with rfl | rfl
        all_goals
          repeat' (first | fail | done)
          first
            | exact ⟨rfl, .inl rfl, rfl⟩
            | exact ⟨rfl, .inr rfl, rfl⟩
    obtain ⟨d, t, g', e, rfl, ht, rfl⟩ := W_ex main
    exact ⟨t, ht, e⟩
  | .both c d, 0, k, g, h, _ => h.elim
  | .both c d, n + 1, k, g, h, hn => by
    have ih1 := asked_run c (n := n) (k := k) (g := g) h.1 (by omega)
    have ih2 := asked_run d (n := n) (k := k) (g := g) h.2 (by omega)
    have main : W (run tbl fs (k + (n + 1) + 1) "_law_asked" false [(Cond.both c d).d] g) fun x t g' => x = .list ((asked (.both c d)).map PyData.int) ∧ (t = .fr ∨ t = .fz) ∧ g' = g := by
      refine R__law_asked ?_
      unfold b__law_asked
      dsimp only [Cond.d]
      repeat' (first | fail | done)
      show WX (forL _ _ _ ([c, d].map Cond.d) _ _) _ _
      refine asked_loop (n := n) (by omega) (by simp) (fun x hx => ?_) rfl (fun s1 s2 h1 => ?_)
      · rcases List.mem_cons.mp hx with rfl | hx
        · exact ⟨asked_len h.1, ih1⟩
        · rw [List.mem_singleton.mp hx]
          exact ⟨asked_len h.2, ih2⟩
      · rw [show [c, d].flatMap asked = asked (.both c d) by simp [asked]] at h1
        rcases h1 with rfl | rfl
        all_goals
          repeat' (first | fail | done)
          first
            | exact ⟨rfl, .inl rfl, rfl⟩
            | exact ⟨rfl, .inr rfl, rfl⟩
    obtain ⟨x, t, g', e, rfl, ht, rfl⟩ := W_ex main
    exact ⟨t, ht, e⟩
end
end Mi.L
end
section
set_option maxRecDepth 100000
set_option maxHeartbeats 1000000
namespace Mi.L
open PySem PySem.Spec PyProof.Rows L2 Mi.B P
local macro_rules | `(tactic| fail) => `(tactic| (with_reducible refine Is_s (o := List.lookup _ _) rfl ?_))
local macro_rules | `(tactic| fail) => `(tactic| (with_reducible refine Is_s (o := slcD _ _ _) rfl ?_))
local macro_rules | `(tactic| fail) => `(tactic| (with_reducible refine Is_s (o := idxD _ _) rfl ?_))
local macro_rules | `(tactic| fail) => `(tactic| ((with_reducible refine two_f ?_ ?_); (· (first | rfl | (simp [ofs_eq]; done) | (simp; omega)))))
local macro_rules | `(tactic| fail) => `(tactic| ((with_reducible refine two_t ?_ ?_); (· (first | rfl | (simp [ofs_eq]; done) | (simp; omega)))))
local macro_rules | `(tactic| fail) => `(tactic| ((with_reducible show Ap _ _ _ _ _); refine Ap_ok (by exact rfl) (by exact fresh_f) (by (first | omega | (simp; done) | (simp; omega))) (by (try simp only [frz_nil, frz_cons, fz_nil, fz_own, fz_imm, fz_no, fz_row, fz_jk, fz_s, st_z, st_s]); rfl) ?_))
local macro_rules | `(tactic| fail) => `(tactic| ((with_reducible refine Nb_fz ?_ ?_); (· rfl)))
local macro_rules | `(tactic| fail) => `(tactic| ((with_reducible refine Nb_fr ?_ ?_); (· rfl)))
local macro_rules | `(tactic| fail) => `(tactic| (with_reducible refine Nb_f ?_))
local macro_rules | `(tactic| fail) => `(tactic| ((with_reducible refine Dn_ok ?_ ?_); (· rfl)))
local macro_rules | `(tactic| fail) => `(tactic| ((with_reducible refine Sm_ok ?_ ?_); (· (first | omega | (simp; done) | (simp; omega)))))
local macro_rules | `(tactic| fail) => `(tactic| ((with_reducible refine Ln_ok ?_ ?_); (· (first | omega | (simp; done) | (simp; omega)))))
local macro_rules | `(tactic| fail) => `(tactic| ((with_reducible refine put_lz ?_ (by (try simp only [frz_nil, frz_cons, fz_nil, fz_own, fz_imm, fz_no, fz_row, fz_jk, fz_s, st_z, st_s]); rfl) ?_); (· rfl)))
local macro_rules | `(tactic| fail) => `(tactic| ((with_reducible refine put_l ?_ (by (try simp only [frz_nil, frz_cons, fz_nil, fz_own, fz_imm, fz_no, fz_row, fz_jk, fz_s, st_z, st_s]); rfl) ?_); (· rfl)))
local macro_rules | `(tactic| fail) => `(tactic| ((with_reducible refine ret_lz ?_ ?_); (· rfl)))
local macro_rules | `(tactic| fail) => `(tactic| ((with_reducible refine ret_l ?_ ?_); (· rfl)))
local macro_rules | `(tactic| fail) => `(tactic| (with_reducible refine ret_f inferInstance ?_))
local macro_rules | `(tactic| fail) => `(tactic| ((with_reducible refine Is_lenS ?_ ?_); (· decide)))
local macro_rules | `(tactic| fail) => `(tactic| ((with_reducible refine Is_mod ?_ ?_); (· omega)))
local macro_rules | `(tactic| fail) => `(tactic| (with_reducible refine W_getG Ht.h ?_))
local macro_rules | `(tactic| fail) => `(tactic| (with_reducible refine W_inG Ht.h ?_))
local macro_rules | `(tactic| fail) => `(tactic| ((with_reducible refine W_callR ?_ ?_); (· exact rfl)))
local macro_rules | `(tactic| fail) => `(tactic| ((with_reducible show WT (turnF _ _ _ _ _ _ _ _ _) _ _); refine WT_cmp (by exact rfl) ?_))
local macro_rules | `(tactic| fail) => `(tactic| (with_reducible refine W_call0 ?_))
local macro_rules | `(tactic| fail) => `(tactic| ((with_reducible show W (evE _ _ _ (.dget _ _) _) _); refine W_dget (by exact rfl) ?_))
local macro_rules | `(tactic| fail) => `(tactic| ((with_reducible show W (evE _ _ _ (.var _) _) _); refine W_var (by exact rfl) (by first | exact nrm_f | exact nrm_list | exact rfl) ?_))
local macro_rules | `(tactic| fail) => `(tactic| (with_reducible refine put_f (by (try simp only [frz_nil, frz_cons, fz_nil, fz_own, fz_imm, fz_no, fz_row, fz_jk, fz_s, st_z, st_s]); rfl) ?_))
local macro_rules | `(tactic| fail) => `(tactic| (with_reducible refine X_forK (by (try simp only [frz_nil, frz_cons, fz_nil, fz_own, fz_imm, fz_no, fz_row, fz_jk, fz_s, st_z, st_s]); rfl) ?_))
local macro_rules | `(tactic| fail) => `(tactic| (with_reducible refine X_for (by (try simp only [frz_nil, frz_cons, fz_nil, fz_own, fz_imm, fz_no, fz_row, fz_jk, fz_s, st_z, st_s]); rfl) ?_))
local macro_rules | `(tactic| fail) => `(tactic| (with_reducible refine X_tup (by (try simp only [frz_nil, frz_cons, fz_nil, fz_own, fz_imm, fz_no, fz_row, fz_jk, fz_s, st_z, st_s]); rfl) ?_))
local macro_rules | `(tactic| fail) => `(tactic| (with_reducible refine X_asg (by (try simp only [frz_nil, frz_cons, fz_nil, fz_own, fz_imm, fz_no, fz_row, fz_jk, fz_s, st_z, st_s]); rfl) ?_))
local macro_rules | `(tactic| fail) => `(tactic| (with_reducible refine putT3 ?_))
local macro_rules | `(tactic| fail) => `(tactic| (with_reducible refine putT2 ?_))
local macro_rules | `(tactic| fail) => `(tactic| (with_reducible refine putT1 ?_))
local macro_rules | `(tactic| fail) => `(tactic| (with_reducible refine Is_cutL1 ?_))
local macro_rules | `(tactic| fail) => `(tactic| (with_reducible refine Is_cutT1 ?_))
local macro_rules | `(tactic| fail) => `(tactic| (with_reducible refine Is_dkey ?_))
local macro_rules | `(tactic| fail) => `(tactic| (with_reducible refine Is_itL ?_))
local macro_rules | `(tactic| fail) => `(tactic| (with_reducible refine Is_itT ?_))
local macro_rules | `(tactic| fail) => `(tactic| (with_reducible refine Is_intB ?_))
local macro_rules | `(tactic| fail) => `(tactic| (with_reducible refine Is_intI ?_))
local macro_rules | `(tactic| fail) => `(tactic| (with_reducible refine Is_lisL ?_))
local macro_rules | `(tactic| fail) => `(tactic| (with_reducible refine Is_lisT ?_))
local macro_rules | `(tactic| fail) => `(tactic| (with_reducible refine Is_tupT ?_))
local macro_rules | `(tactic| fail) => `(tactic| (with_reducible refine Is_tupL ?_))
local macro_rules | `(tactic| fail) => `(tactic| (with_reducible refine Is_lenL ?_))
local macro_rules | `(tactic| fail) => `(tactic| (with_reducible refine Is_lenT ?_))
local macro_rules | `(tactic| fail) => `(tactic| (with_reducible refine Is_subI ?_))
local macro_rules | `(tactic| fail) => `(tactic| (with_reducible refine Is_addI ?_))
local macro_rules | `(tactic| fail) => `(tactic| (with_reducible refine Is_isiL ?_))
local macro_rules | `(tactic| fail) => `(tactic| (with_reducible refine Is_isiT ?_))
local macro_rules | `(tactic| fail) => `(tactic| (with_reducible refine Is_isiS ?_))
local macro_rules | `(tactic| fail) => `(tactic| (with_reducible refine Is_isiB ?_))
local macro_rules | `(tactic| fail) => `(tactic| (with_reducible refine Is_isiI ?_))
local macro_rules | `(tactic| fail) => `(tactic| (with_reducible refine Is_nin3 ?_))
local macro_rules | `(tactic| fail) => `(tactic| (with_reducible refine Is_in3 ?_))
local macro_rules | `(tactic| fail) => `(tactic| (with_reducible refine Is_nin2 ?_))
local macro_rules | `(tactic| fail) => `(tactic| (with_reducible refine Is_in2 ?_))
local macro_rules | `(tactic| fail) => `(tactic| (with_reducible refine Is_ninL ?_))
local macro_rules | `(tactic| fail) => `(tactic| (with_reducible refine Is_nin ?_))
local macro_rules | `(tactic| fail) => `(tactic| (with_reducible refine Is_scp ?_))
local macro_rules | `(tactic| fail) => `(tactic| (with_reducible refine Is_cpT ?_))
local macro_rules | `(tactic| fail) => `(tactic| (with_reducible refine Is_cpL ?_))
local macro_rules | `(tactic| fail) => `(tactic| (with_reducible refine Is_inL ?_))
local macro_rules | `(tactic| fail) => `(tactic| (with_reducible refine Is_in ?_))
local macro_rules | `(tactic| fail) => `(tactic| (with_reducible refine Is_geI ?_))
local macro_rules | `(tactic| fail) => `(tactic| (with_reducible refine Is_leI ?_))
local macro_rules | `(tactic| fail) => `(tactic| (with_reducible refine Is_gtI ?_))
local macro_rules | `(tactic| fail) => `(tactic| (with_reducible refine Is_ltI ?_))
local macro_rules | `(tactic| fail) => `(tactic| (with_reducible refine Is_neB ?_))
local macro_rules | `(tactic| fail) => `(tactic| (with_reducible refine Is_eqB ?_))
local macro_rules | `(tactic| fail) => `(tactic| (with_reducible refine Is_neNilT ?_))
local macro_rules | `(tactic| fail) => `(tactic| (with_reducible refine Is_eqNilT ?_))
local macro_rules | `(tactic| fail) => `(tactic| (with_reducible refine Is_neNil ?_))
local macro_rules | `(tactic| fail) => `(tactic| (with_reducible refine Is_eqNil ?_))
local macro_rules | `(tactic| fail) => `(tactic| (with_reducible refine Is_neS ?_))
local macro_rules | `(tactic| fail) => `(tactic| (with_reducible refine Is_eqS ?_))
local macro_rules | `(tactic| fail) => `(tactic| (with_reducible refine Is_neI ?_))
local macro_rules | `(tactic| fail) => `(tactic| (with_reducible refine Is_eqI ?_))
local macro_rules | `(tactic| fail) => `(tactic| (with_reducible refine IS_s ?_))
local macro_rules | `(tactic| fail) => `(tactic| (with_reducible refine II_i ?_))
local macro_rules | `(tactic| fail) => `(tactic| (with_reducible refine IB_b ?_))
local macro_rules | `(tactic| fail) => `(tactic| (with_reducible refine ILs_l ?_))
local macro_rules | `(tactic| fail) => `(tactic| (with_reducible refine X_dnew ?_))
local macro_rules | `(tactic| fail) => `(tactic| (with_reducible refine X_tryR ?_))
local macro_rules | `(tactic| fail) => `(tactic| (with_reducible refine X_retX ?_))
local macro_rules | `(tactic| fail) => `(tactic| (with_reducible refine X_raiC ?_))
local macro_rules | `(tactic| fail) => `(tactic| (with_reducible refine X_sto ?_))
local macro_rules | `(tactic| fail) => `(tactic| (with_reducible refine X_ins ?_))
local macro_rules | `(tactic| fail) => `(tactic| (with_reducible refine X_apo ?_))
local macro_rules | `(tactic| fail) => `(tactic| (with_reducible refine X_pas ?_))
local macro_rules | `(tactic| fail) => `(tactic| (with_reducible refine X_spo ?_))
local macro_rules | `(tactic| fail) => `(tactic| (with_reducible refine X_ext ?_))
local macro_rules | `(tactic| fail) => `(tactic| (with_reducible refine X_rem ?_))
local macro_rules | `(tactic| fail) => `(tactic| (with_reducible refine X_app ?_))
local macro_rules | `(tactic| fail) => `(tactic| (with_reducible refine X_par3 ?_))
local macro_rules | `(tactic| fail) => `(tactic| (with_reducible refine X_par2 ?_))
local macro_rules | `(tactic| fail) => `(tactic| (with_reducible refine X_exp ?_))
local macro_rules | `(tactic| fail) => `(tactic| (with_reducible refine X_whl ?_))
local macro_rules | `(tactic| fail) => `(tactic| (with_reducible refine X_ret ?_))
local macro_rules | `(tactic| fail) => `(tactic| (with_reducible refine X_ite ?_))
local macro_rules | `(tactic| fail) => `(tactic| (with_reducible refine X_nil ?_))
local macro_rules | `(tactic| fail) => `(tactic| (with_reducible refine X_cons ?_))
local macro_rules | `(tactic| fail) => `(tactic| (with_reducible refine CL_cons ?_))
local macro_rules | `(tactic| fail) => `(tactic| (with_reducible refine CL_nil ?_))
local macro_rules | `(tactic| fail) => `(tactic| (with_reducible refine WC_evB ?_))
local macro_rules | `(tactic| fail) => `(tactic| (with_reducible refine WI_rng3 ?_))
local macro_rules | `(tactic| fail) => `(tactic| (with_reducible refine WI_rng2 ?_))
local macro_rules | `(tactic| fail) => `(tactic| (with_reducible refine WI_rng1 ?_))
local macro_rules | `(tactic| fail) => `(tactic| (with_reducible refine WI_val ?_))
local macro_rules | `(tactic| fail) => `(tactic| (with_reducible refine WC_cons ?_))
local macro_rules | `(tactic| fail) => `(tactic| (with_reducible refine WC_nil ?_))
local macro_rules | `(tactic| fail) => `(tactic| (with_reducible refine WO_cons ?_))
local macro_rules | `(tactic| fail) => `(tactic| (with_reducible refine WO_nil ?_))
local macro_rules | `(tactic| fail) => `(tactic| (with_reducible refine WL_cons ?_))
local macro_rules | `(tactic| fail) => `(tactic| (with_reducible refine WL_nil ?_))
local macro_rules | `(tactic| fail) => `(tactic| (with_reducible refine W_sset ?_))
local macro_rules | `(tactic| fail) => `(tactic| (with_reducible refine W_scp ?_))
local macro_rules | `(tactic| fail) => `(tactic| (with_reducible refine W_lcp ?_))
local macro_rules | `(tactic| fail) => `(tactic| (with_reducible refine W_lrg ?_))
local macro_rules | `(tactic| fail) => `(tactic| (with_reducible refine W_meth ?_))
local macro_rules | `(tactic| fail) => `(tactic| (with_reducible refine W_join ?_))
local macro_rules | `(tactic| fail) => `(tactic| (with_reducible refine W_isq ?_))
local macro_rules | `(tactic| fail) => `(tactic| (with_reducible refine W_neg ?_))
local macro_rules | `(tactic| fail) => `(tactic| (with_reducible refine W_slc ?_))
local macro_rules | `(tactic| fail) => `(tactic| (with_reducible refine W_noN ?_))
local macro_rules | `(tactic| fail) => `(tactic| (with_reducible refine W_isN ?_))
local macro_rules | `(tactic| fail) => `(tactic| (with_reducible refine W_chn ?_))
local macro_rules | `(tactic| fail) => `(tactic| (with_reducible refine W_isi ?_))
local macro_rules | `(tactic| fail) => `(tactic| (with_reducible refine W_bi ?_))
local macro_rules | `(tactic| fail) => `(tactic| (with_reducible refine W_comp ?_))
local macro_rules | `(tactic| fail) => `(tactic| (with_reducible refine W_lst ?_))
local macro_rules | `(tactic| fail) => `(tactic| (with_reducible refine W_tup ?_))
local macro_rules | `(tactic| fail) => `(tactic| (with_reducible refine W_ite ?_))
local macro_rules | `(tactic| fail) => `(tactic| (with_reducible refine W_not ?_))
local macro_rules | `(tactic| fail) => `(tactic| (with_reducible refine W_or ?_))
local macro_rules | `(tactic| fail) => `(tactic| (with_reducible refine W_and ?_))
local macro_rules | `(tactic| fail) => `(tactic| (with_reducible refine W_sub ?_))
local macro_rules | `(tactic| fail) => `(tactic| (with_reducible refine W_cmp ?_))
local macro_rules | `(tactic| fail) => `(tactic| (with_reducible refine W_bin ?_))
local macro_rules | `(tactic| fail) => `(tactic| (with_reducible refine W_glo ?_))
local macro_rules | `(tactic| fail) => `(tactic| (with_reducible refine W_cst ?_))
def duB : Ss := (.cons (.asg 11 [] (.lst .nil)) (.cons (.for1 (.one 12) [] (.rng1 (.cst (.int 3))) (.cons (.asg 13 [] (.lst .nil)) (.cons (.for1 (.one 10) [9] (.val (.var 9)) (.cons (.asg 14 [10, 12] (.bin .add (.bin .add (.slc (.var 10) .nil (.cons (.var 12) .nil)) (.tup (.cons (.cst (.int 0)) .nil))) (.slc (.var 10) (.cons (.bin .add (.var 12) (.cst (.int 1))) .nil) .nil))) (.cons (.ite (.and (.isN (.sub (.var 8) (.var 12))) (.cmp .ne (.dget 3 (.var 10)) (.dget 3 (.var 14)))) (.cons (.app 13 (.var 10)) .nil) .nil) .nil))) (.cons (.asg 11 [11, 12, 13] (.bin .add (.var 11) (.bin .mul (.lst (.cons (.var 12) .nil)) (.bi .int (.cons (.cmp .ne (.var 13) (.lst .nil)) .nil))))) .nil)))) (.cons (.ite (.cmp .ne (.call "matter" none (.cons (.var 2) (.cons (.var 8) .nil))) (.var 11)) (.cons (.ret (.cst (.bool false))) .nil) .nil) .nil)))
def fbB : Ss := (.cons (.ite (.cmp .eq (.comp (.var 12) (.one 12) (.rng1 (.cst (.int 3))) (.cons (.and (.noN (.sub (.var 8) (.var 12))) (.cmp .ne (.sub (.var 8) (.var 12)) (.sub (.var 10) (.var 12)))) .nil)) (.lst .nil)) (.cons (.app 9 (.var 10)) .nil) .nil) .nil)
def fdB : Ss := (.cons (.forD (.one 10) 3 fbB) duB)
def agB : Ss := (.cons (.asg 8 [] (.bi .tuple (.cons (.comp (.ite (.cmp .eq (.call "_law_taken" (some 1) (.cons (.cst (.int 2)) .nil)) (.cst (.int 0))) (.cst .none) (.var 15)) (.one 15) (.val (.call "_law_answers" (some 1) .nil)) .nil) .nil))) (.cons (.asg 9 [] (.lst .nil)) fdB))
def askB : Ss := (.cons (.asg 5 [] (.lst .nil)) (.cons (.for1 (.one 6) [2] (.val (.sub (.var 2) (.cst (.int 1)))) (.cons (.ite (.cmp .isin (.sub (.var 6) (.cst (.int 0))) (.tup (.cons (.cst (.str "when")) (.cons (.cst (.str "only")) .nil)))) (.cons (.asg 5 [5, 6] (.bin .add (.var 5) (.call "_law_asked" none (.cons (.sub (.var 6) (.cst (.int 1))) .nil)))) .nil) .nil) .nil)) (.cons (.ite (.cmp .ne (.comp (.var 12) (.one 12) (.val (.call "matter" none (.cons (.var 2) (.cons (.tup (.cons (.cst .none) (.cons (.cst .none) (.cons (.cst .none) .nil)))) .nil)))) (.cons (.cmp .notin (.var 12) (.var 5)) .nil)) (.lst .nil)) (.cons (.ret (.cst (.bool false))) .nil) .nil) (.cons (.asg 7 [2] (.tup (.cons (.sub (.var 2) (.cst (.int 0))) (.cons (.bi .tuple (.cons (.comp (.var 6) (.one 6) (.val (.sub (.var 2) (.cst (.int 1)))) (.cons (.cmp .notin (.sub (.var 6) (.cst (.int 0))) (.tup (.cons (.cst (.str "when")) (.cons (.cst (.str "only")) .nil)))) .nil)) .nil)) .nil)))) (.cons (.ret (.and (.cmp .eq (.call "matter" none (.cons (.var 2) (.cons (.tup (.cons (.cst (.int 0)) (.cons (.cst (.int 1)) (.cons (.cst (.int 2)) .nil)))) .nil))) (.lst .nil)) (.cmp .eq (.call "matter" none (.cons (.var 7) (.cons (.tup (.cons (.cst .none) (.cons (.cst .none) (.cons (.cst .none) .nil)))) .nil))) (.lst .nil)))) .nil)))))
def lawB2 : Ss := (.cons (.asg 2 [] (.call "_law_book" (some 1) (.cons (.cst (.int 4)) .nil))) (.cons (.dof 3 (.comp (.tup (.cons (.var 10) (.cons (.call "papers" none (.cons (.var 2) (.cons (.var 10) (.cons (.lst .nil) .nil)))) .nil))) (.one 10) (.val (.call "_law_all" none .nil)) .nil)) (.cons (.for1 (.one 4) [] (.rng1 (.cst (.int 5))) agB) askB)))
theorem lawB_is : lawB = lawB2 := rfl
abbrev E27 (b : Book) := fE (p0D b) allAns
def Inv27 (b : Book) (ρ : SEnv) (g : G) : Prop := Gk g ∧ ∃ s3 s4 s8 s9 s10 s11 s12 s13 s14 : Sl, (s3 = .dcm (E27 b) ∨ s3 = .dcl (E27 b)) ∧ ρ = [.no, .row, .imm b.d, s3, s4, .no, .no, .no, s8, s9, s10, s11, s12, s13, s14, .no]
section
variable {k : Nat} {b : Book} {l : Kn} {g : G}
theorem du_go (hb : b.ok) (hl : knOk l) (hg : Gk g) (s4 s10 s11 s12 s13 s14 : Sl) : WX (execs (run tbl fs (k + 20)) tbl duB [.no, .row, .imm b.d, .dcl (E27 b), s4, .no, .no, .no, .imm (knD l), .own (rowsD (someA l)), s10, s11, s12, s13, s14, .no] g) (Inv27 b) (fun d _ _ => d = .bool true) := by
  have hsl := someA_len (l := l)
  unfold duB
  repeat' (first | fail | done)
  rw [rng_Ri]
  refine for_gen (enc := PyData.int) (fun pre ρ g' => g' = g ∧ ∃ s9 s10 s11 s12 s13 s14 : Sl, (s9 = Sl.own (rowsD (someA l)) ∨ s9 = Sl.imm (rowsD (someA l))) ∧ (s11 = Sl.own (.list ((pre.filter (dueQ b l)).map PyData.int)) ∨ s11 = Sl.imm (.list ((pre.filter (dueQ b l)).map PyData.int))) ∧ ρ = [.no, .row, .imm b.d, .dcl (E27 b), s4, .no, .no, .no, .imm (knD l), s9, s10, s11, s12, s13, s14, .no]) ⟨rfl, _, _, _, _, _, _, .inl rfl, .inl rfl, rfl⟩ (fun pre q post e ρ g' h0 => ?_) (fun ρ g' h0 => ?_)
  · obtain ⟨rfl, s9, s10, s11, s12, s13, s14, h9, h11, rfl⟩ := h0
    have e' : Ri 0 3 = pre ++ q :: post := e
    have hq := mem_Ri.mp (show q ∈ Ri 0 3 by rw [e']; simp)
    have q0 : 0 ≤ q := hq.1
    have q3 : q < 3 := by have := hq.2; omega
    have hpl : pre.length ≤ 3 := by
      have := congrArg List.length e'
      rw [Ri_len] at this
      simp at this
      omega
    have hfl := List.length_filter_le (dueQ b l) pre
    have core : WX (forL (.one 10) .fz (fun ρ g => execs (run tbl fs (k + 20)) tbl (.cons (.asg 14 [10, 12] (.bin .add (.bin .add (.slc (.var 10) .nil (.cons (.var 12) .nil)) (.tup (.cons (.cst (.int 0)) .nil))) (.slc (.var 10) (.cons (.bin .add (.var 12) (.cst (.int 1))) .nil) .nil))) (.cons (.ite (.and (.isN (.sub (.var 8) (.var 12))) (.cmp .ne (.dget 3 (.var 10)) (.dget 3 (.var 14)))) (.cons (.app 13 (.var 10)) .nil) .nil) .nil)) ρ g) ((someA l).map fun l => .tuple (l.map PyData.int)) [.no, .row, .imm b.d, .dcl (E27 b), s4, .no, .no, .no, .imm (knD l), .imm (rowsD (someA l)), s10, s11, .imm (.int q), .own (.list []), s14, .no] g')
        (fun ρ' g2 => g2 = g' ∧ ∃ s10 s14 : Sl, ρ' = [.no, .row, .imm b.d, .dcl (E27 b), s4, .no, .no, .no, .imm (knD l), .imm (rowsD (someA l)), s10, s11, .imm (.int q), .own (rowsD ((someA l).filter fun a => (kAt l q).isNone && dueA b q a)), s14, .no]) (fun d _ _ => d = .bool true) := by
      refine for_gen (enc := fun l : List Int => PyData.tuple (l.map PyData.int)) (fun done ρ g2 => g2 = g' ∧ ∃ s10 s14 : Sl, ρ = [.no, .row, .imm b.d, .dcl (E27 b), s4, .no, .no, .no, .imm (knD l), .imm (rowsD (someA l)), s10, s11, .imm (.int q), .own (rowsD (done.filter fun a => (kAt l q).isNone && dueA b q a)), s14, .no]) ⟨rfl, _, _, rfl⟩ (fun done a post2 e2 ρ g2 h0 => ?_) (fun ρ g2 h0 => h0)
      obtain ⟨rfl, s10, s14, rfl⟩ := h0
      have has : a ∈ someA l := by rw [e2]; simp
      have hao := (someA_mem.mp has).1
      have hal := hao.1
      have hdl : (done.filter fun a => (kAt l q).isNone && dueA b q a).length ≤ 27 := by
        have h1 := List.length_filter_le (fun a => (kAt l q).isNone && dueA b q a) done
        have h2 := congrArg List.length e2
        rw [List.length_append] at h2
        omega
      have hcut : cutD (a.map PyData.int) none (some q) ++ [PyData.int 0] ++ cutD (a.map PyData.int) (some (q + 1)) none = (setA a q 0).map PyData.int := by
        rw [cut_to q0, cut_from (by omega)]
        unfold setA
        rw [List.map_append, List.map_append, List.map_take, List.map_drop]
        rfl
      rw [List.filter_append]
      repeat' (first | fail | (refine Is_addT (by first | (rw [cut_to q0, cut_from (by omega)]; simp; unfold LINE; omega) | (rw [cut_to q0]; simp; unfold LINE; omega)) ?_) | (fail_if_success skip) | done)
      rw [hcut]
      repeat' (first | fail | (refine Is_idx (enc := oD) (a := kAt l q) q0 (kAt_get hl.1 q0 q3) ?_) | (fail_if_success skip) | done)
      rw [isNone_oD]
      have hk1 : a ∈ allAns := allAns_mem.mpr hao
      have hk2 : setA a q 0 ∈ allAns := allAns_mem.mpr (setA_ok hao q0 q3 (by omega) (by omega))
      cases hk : (kAt l q).isNone with
      | false =>
        refine two_f rfl ?_
        repeat' (first | fail | done)
        rw [show [a].filter (fun a => false && dueA b q a) = [] from rfl, List.append_nil]
        exact ⟨rfl, _, _, rfl⟩
      | true =>
        refine two_t rfl ?_
        repeat' (first | fail | (refine Is_fE (k := a) hk1 ?_) | (refine Is_fE (k := setA a q 0) hk2 ?_) | (refine Is_neD (enc := rowsD) (a := b.papers0 a) (b := b.papers0 (setA a q 0)) (rowsD_dp _) ?_) | (fail_if_success skip) | done)
        rw [hk] at hdl
        have hdl2 : ((done.filter fun a => true && dueA b q a).map fun l : List Int => PyData.tuple (l.map PyData.int)).length < 1000000 := by
          rw [List.length_map]
          omega
        refine two (fun hu => ?_) (fun hu => ?_)
        · repeat' (first | fail | done)
          rw [show [a].filter (fun a => true && dueA b q a) = [a] by rw [List.filter_cons]; unfold dueA; rw [hu]; rfl]
          exact ⟨rfl, .imm (rowD a), .imm (rowD (setA a q 0)), by unfold rowsD; rw [List.map_append]; rfl⟩
        · repeat' (first | fail | done)
          rw [show [a].filter (fun a => true && dueA b q a) = [] by rw [List.filter_cons]; unfold dueA; rw [hu]; rfl, List.append_nil]
          exact ⟨rfl, _, _, rfl⟩
    have hc : (!((someA l).filter fun a => (kAt l q).isNone && dueA b q a).isEmpty) = dueQ b l q := by
      rw [any_filter]
      unfold dueQ
      cases (kAt l q).isNone with
      | true => rfl
      | false => simp
    have hf : (pre ++ [q]).filter (dueQ b l) = pre.filter (dueQ b l) ++ if dueQ b l q then [q] else [] := by
      rw [List.filter_append, List.filter_cons]
      rfl
    rw [hf]
    generalize pre.filter (dueQ b l) = acc at *
    have hmul : ∀ c : Bool, binD .mul (.list [.int q]) (.int (if c then 1 else 0)) = some (.list ((if c then [q] else []).map PyData.int)) := fun c => by cases c <;> rfl
    have fin : ∀ (s10 s14 : Sl), WX (execs (run tbl fs (k + 20)) tbl (.cons (.asg 11 [11, 12, 13] (.bin .add (.var 11) (.bin .mul (.lst (.cons (.var 12) .nil)) (.bi .int (.cons (.cmp .ne (.var 13) (.lst .nil)) .nil))))) .nil) [.no, .row, .imm b.d, .dcl (E27 b), s4, .no, .no, .no, .imm (knD l), .imm (rowsD (someA l)), s10, s11, .imm (.int q), .own (rowsD ((someA l).filter fun a => (kAt l q).isNone && dueA b q a)), s14, .no] g')
        (fun ρ g2 => g2 = g' ∧ ∃ s9 s10 s11 s12 s13 s14 : Sl, (s9 = Sl.own (rowsD (someA l)) ∨ s9 = Sl.imm (rowsD (someA l))) ∧ (s11 = Sl.own (.list ((acc ++ if dueQ b l q then [q] else []).map PyData.int)) ∨ s11 = Sl.imm (.list ((acc ++ if dueQ b l q then [q] else []).map PyData.int))) ∧ ρ = [.no, .row, .imm b.d, .dcl (E27 b), s4, .no, .no, .no, .imm (knD l), s9, s10, s11, s12, s13, s14, .no]) (fun d _ _ => d = .bool true) := fun s10 s14 => by
      have hil : ((if dueQ b l q then [q] else []) : List Int).length ≤ 1 := by split <;> simp
      rw [List.map_append]
      rcases h11 with rfl | rfl
      all_goals
        repeat' (first | fail | done)
        rw [List.isEmpty_map, hc]
        repeat' (first | fail | (refine Is_s (hmul (dueQ b l q)) ?_) | (refine Is_addL (by simp only [List.length_map]; unfold LINE; omega) ?_) | (fail_if_success skip) | done)
        first
          | exact ⟨rfl, _, _, _, _, _, _, .inr rfl, .inr rfl, rfl⟩
          | exact ⟨rfl, _, _, _, _, _, _, .inr rfl, .inl rfl, rfl⟩
    rcases h9 with rfl | rfl
    all_goals
      repeat' (first | fail | done)
      refine WX_mono core (fun ρ' g2 h => ?_) (fun _ _ _ h => h)
      obtain ⟨rfl, s10, s14, rfl⟩ := h
      exact fin s10 s14
  · obtain ⟨rfl, s9, s10, s11, s12, s13, s14, h9, h11, rfl⟩ := h0
    have rm : ∀ g, run tbl fs (k + 20) "matter" false [b.d, knD l] g = some (.list (((Ri 0 3).filter (dueQ b l)).map PyData.int), .fr, g) := fun g => by
      have := matter_run (tbl := tbl) (fs := fs) (k := k + 11) (g := g) hb hl
      rw [matter_due] at this
      exact this
    rcases h11 with rfl | rfl
    all_goals
      repeat' (first | fail | ((with_reducible show W (run _ _ _ _ _ _ _) _); (with_reducible apply W_is); (· with_reducible apply (rm))) | (refine Is_neSelf (intsL_dp _) (eqv_self (enc := fun l : List Int => PyData.list (l.map PyData.int)) _) ?_) | (fail_if_success skip) | done)
      exact ⟨hg, _, _, _, _, _, _, _, _, _, .inr rfl, rfl⟩
theorem fd_go (hb : b.ok) (hl : knOk l) (hg : Gk g) {s3 : Sl} (h3 : s3 = .dcm (E27 b) ∨ s3 = .dcl (E27 b)) (s4 s10 s11 s12 s13 s14 : Sl) : WX (execs (run tbl fs (k + 20)) tbl fdB [.no, .row, .imm b.d, s3, s4, .no, .no, .no, .imm (knD l), .own (.list []), s10, s11, s12, s13, s14, .no] g) (Inv27 b) (fun d _ _ => d = .bool true) := by
  have core : WX (forL (.one 10) .fz (fun ρ g => execs (run tbl fs (k + 20)) tbl fbB ρ g) (allAns.map fun l => .tuple (l.map PyData.int)) [.no, .row, .imm b.d, .dcl (E27 b), s4, .no, .no, .no, .imm (knD l), .own (.list []), s10, s11, s12, s13, s14, .no] g)
      (fun ρ' g' => WX (execs (run tbl fs (k + 20)) tbl duB ρ' g') (Inv27 b) (fun d _ _ => d = .bool true)) (fun d _ _ => d = .bool true) := by
    refine for_gen (enc := fun l : List Int => PyData.tuple (l.map PyData.int)) (fun pre ρ g' => g' = g ∧ ∃ s10 : Sl, ρ = [.no, .row, .imm b.d, .dcl (E27 b), s4, .no, .no, .no, .imm (knD l), .own (rowsD (pre.filter (fits l))), s10, s11, s12, s13, s14, .no]) ⟨rfl, _, rfl⟩ (fun pre a post e ρ g' h0 => ?_) (fun ρ g' h0 => ?_)
    · obtain ⟨rfl, s10, rfl⟩ := h0
      have ha := allAns_mem.mp (show a ∈ allAns by rw [e]; simp)
      have hpl : (pre.filter (fits l)).length ≤ 27 := by
        have h1 := List.length_filter_le (fits l) pre
        have h2 := congrArg List.length e
        rw [List.length_append, show allAns.length = 27 from rfl] at h2
        omega
      rw [List.filter_append]
      unfold fbB
      repeat' (first | fail | done)
      rw [rng_Ri]
      refine comp_filter (enc := PyData.int) (known1 l a) (fun i hi => ?_) ?_
      · have hi := mem_Ri.mp hi
        have hi0 : 0 ≤ i := hi.1
        have hi3 : i < 3 := by omega
        have hk := kAt_get hl.1 hi0 hi3
        unfold known1
        cases e : kAt l i with
        | none =>
          rw [e] at hk
          repeat' (first | fail | (refine Is_idx (enc := oD) (a := none) hi0 hk ?_) | (fail_if_success skip) | done)
          dsimp only [oD]
          repeat' (first | fail | done)
          exact ⟨rfl, rfl⟩
        | some v =>
          rw [e] at hk
          repeat' (first | fail | (refine Is_idx (enc := oD) (a := some v) hi0 hk ?_) | (refine Is_idx (enc := PyData.int) (a := at0 a i) hi0 (at0_some ha.1 hi0 hi3) ?_) | (fail_if_success skip) | done)
          dsimp only [oD]
          repeat' (first | fail | done)
          refine two (fun hu => ?_) (fun hu => ?_)
          · repeat' (first | fail | done)
            exact ⟨hu, rfl, rfl, rfl⟩
          · exact ⟨hu, rfl⟩
      · have hfi : (((Ri 0 (3 : Int).toNat).filter (known1 l a)).map PyData.int).isEmpty = fits l a := by rw [List.isEmpty_map]; rfl
        repeat' (first | fail | done)
        refine two (fun hu => ?_) (fun hu => ?_)
        · repeat' (first | fail | done)
          rw [show [a].filter (fits l) = [a] by rw [List.filter_cons, show fits l a = true from hfi.symm.trans hu]; rfl]
          exact ⟨rfl, .imm (rowD a), by unfold rowsD; rw [List.map_append]; rfl⟩
        · repeat' (first | fail | done)
          rw [show [a].filter (fits l) = [] by rw [List.filter_cons, show fits l a = false from hfi.symm.trans hu]; rfl, List.append_nil]
          exact ⟨rfl, _, rfl⟩
    · obtain ⟨rfl, s10, rfl⟩ := h0
      exact du_go hb hl hg ..
  unfold fdB
  refine X_cons ?_
  rcases h3 with rfl | rfl
  · refine X_forD rfl ?_
    rw [fE_keys]
    exact core
  · refine X_forDl rfl ?_
    rw [fE_keys]
    exact core
theorem ask_go (hb : b.ok) (hg : Gk g) (s3 s4 s8 s9 s10 s11 s12 s13 s14 : Sl) : WX (execs (run tbl fs (k + 20)) tbl askB [.no, .row, .imm b.d, s3, s4, .no, .no, .no, s8, s9, s10, s11, s12, s13, s14, .no] g) (fun _ _ => False) (fun d _ _ => d = .bool true) := by
  have w16 := hb.w16
  unfold askB
  repeat' (first | fail | done)
  unfold Book.d
  repeat' (first | fail | done)
  refine for_gen (enc := Want.d) (fun pre ρ g' => g' = g ∧ ∃ s5 s6 : Sl, (s5 = Sl.own (.list ((pre.flatMap askedW).map PyData.int)) ∨ s5 = Sl.imm (.list ((pre.flatMap askedW).map PyData.int))) ∧ ρ = [.no, .row, .imm b.d, s3, s4, s5, s6, .no, s8, s9, s10, s11, s12, s13, s14, .no]) ⟨rfl, _, _, .inl rfl, rfl⟩ (fun pre w post e ρ g' h0 => ?_) (fun ρ g' h0 => ?_)
  · obtain ⟨rfl, s5, s6, h5, rfl⟩ := h0
    have hw := hb.ws w (by rw [e]; simp)
    have alen : ∀ w ∈ b.ws, (askedW w).length ≤ 16 := fun w hw => by
      have hok := hb.ws w hw
      cases w with
      | when c i => exact Nat.le_trans (asked_len hok.1) (by decide)
      | only c i => exact Nat.le_trans (asked_len hok.1) (by decide)
      | _ => exact Nat.zero_le _
    have hpl : (pre.flatMap askedW).length ≤ 256 := by
      have h2 : ∀ (l : List Want), (∀ c ∈ l, c ∈ b.ws) → (l.flatMap askedW).length ≤ l.length * 16 := by
        intro l
        induction l with
        | nil => intro _; simp
        | cons x l ih =>
          intro h
          have i1 := ih fun c hc => h c (List.mem_cons_of_mem _ hc)
          have i2 := alen x (h x (List.mem_cons_self ..))
          rw [List.flatMap_cons, List.length_append, List.length_cons, Nat.add_mul]
          omega
      have h3 := h2 pre fun c hc => by rw [e]; simp [hc]
      have h4 := congrArg List.length e
      rw [List.length_append] at h4
      have : pre.length * 16 ≤ 16 * 16 := Nat.mul_le_mul_right _ (by omega)
      omega
    have hwl := alen w (by rw [e]; simp)
    rw [List.flatMap_append, List.map_append, List.flatMap_cons, List.flatMap_nil, List.append_nil]
    generalize pre.flatMap askedW = acc at *
    cases w with
    | when c i =>
      have hc : c.ok _ := hw.1
      obtain ⟨t, ht, hr⟩ := asked_run c (k := k + 16) (g := g') hc (by decide)
      dsimp only [Want.d]
      have hwl : (asked c).length ≤ 16 := hwl
      rcases h5 with rfl | rfl <;> rcases ht with rfl | rfl
      all_goals
        repeat' (first | fail | ((with_reducible show W (run _ _ _ _ _ _ _) _); (with_reducible apply W_is); (· with_reducible apply (hr))) | (refine Is_addL (by simp only [List.length_map]; unfold LINE; omega) ?_) | (fail_if_success skip) | done)
        try rw [show nrm c.d Tag.fr = Tag.fr from by unfold nrm; split <;> rfl]
        repeat' (first | fail | done)
        first
          | exact ⟨rfl, _, _, .inr rfl, rfl⟩
          | exact ⟨rfl, _, _, .inl rfl, rfl⟩
    | only c i =>
      have hc : c.ok _ := hw.1
      obtain ⟨t, ht, hr⟩ := asked_run c (k := k + 16) (g := g') hc (by decide)
      dsimp only [Want.d]
      have hwl : (asked c).length ≤ 16 := hwl
      rcases h5 with rfl | rfl <;> rcases ht with rfl | rfl
      all_goals
        repeat' (first | fail | ((with_reducible show W (run _ _ _ _ _ _ _) _); (with_reducible apply W_is); (· with_reducible apply (hr))) | (refine Is_addL (by simp only [List.length_map]; unfold LINE; omega) ?_) | (fail_if_success skip) | done)
        try rw [show nrm c.d Tag.fr = Tag.fr from by unfold nrm; split <;> rfl]
        repeat' (first | fail | done)
        first
          | exact ⟨rfl, _, _, .inr rfl, rfl⟩
          | exact ⟨rfl, _, _, .inl rfl, rfl⟩
    | needs i j =>
      dsimp only [Want.d, askedW]
      rw [List.map_nil, List.append_nil]
      repeat' (first | fail | done)
      exact ⟨rfl, _, _, h5, rfl⟩
    | bars i j =>
      dsimp only [Want.d, askedW]
      rw [List.map_nil, List.append_nil]
      repeat' (first | fail | done)
      exact ⟨rfl, _, _, h5, rfl⟩
    | ahead i j =>
      dsimp only [Want.d, askedW]
      rw [List.map_nil, List.append_nil]
      repeat' (first | fail | done)
      exact ⟨rfl, _, _, h5, rfl⟩
    | one l =>
      dsimp only [Want.d, askedW]
      rw [List.map_nil, List.append_nil]
      repeat' (first | fail | done)
      exact ⟨rfl, _, _, h5, rfl⟩
    | some l =>
      dsimp only [Want.d, askedW]
      rw [List.map_nil, List.append_nil]
      repeat' (first | fail | done)
      exact ⟨rfl, _, _, h5, rfl⟩
  · obtain ⟨rfl, s5, s6, h5, rfl⟩ := h0
    have h3 : knOk [none, none, none] := ⟨rfl, fun v h => by simp at h⟩
    have h12 : knOk [some 0, some 1, some 2] := ⟨rfl, fun v h => by simp at h; omega⟩
    have rm : ∀ g, run tbl fs (k + 20) "matter" false [.tuple [.tuple (b.cl.map Clause.d), .tuple (b.ws.map Want.d)], .tuple [.none, .none, .none]] g = some (.list ((b.matter [none, none, none]).map PyData.int), .fr, g) := fun g => matter_run (l := [none, none, none]) (k := k + 11) hb h3
    have rb : ∀ g, run tbl fs (k + 20) "matter" false [.tuple [.tuple (b.cl.map Clause.d), .tuple ((b.ws.filter notCond).map Want.d)], .tuple [.none, .none, .none]] g = some (.list [], .fr, g) := fun g => by
      have := matter_run (tbl := tbl) (fs := fs) (l := [none, none, none]) (k := k + 11) (g := g) (bareB_ok hb) h3
      rw [matter_bare hb] at this
      exact this
    have r12 : ∀ g, run tbl fs (k + 20) "matter" false [.tuple [.tuple (b.cl.map Clause.d), .tuple (b.ws.map Want.d)], .tuple [.int 0, .int 1, .int 2]] g = some (.list [], .fr, g) := fun g => by
      have := matter_run (tbl := tbl) (fs := fs) (l := [some 0, some 1, some 2]) (k := k + 11) (g := g) hb h12
      rw [matter_known (fun i h0 h3 => by
        have : i = 0 ∨ i = 1 ∨ i = 2 := by omega
        rcases this with rfl | rfl | rfl <;> rfl)] at this
      exact this
    rcases h5 with rfl | rfl
    all_goals
      unfold Book.d
      repeat' (first | fail | ((with_reducible show W (run _ _ _ _ _ _ _) _); (with_reducible apply W_is); (· with_reducible apply (rm))) | (fail_if_success skip) | done)
      refine comp_none (enc := PyData.int) (fun x hx => ?_) ?_
      · have hx := has_iff.mpr (matter_asked hb hx)
        have hx : (!has (b.ws.flatMap askedW) x) = false := by rw [hx]; rfl
        repeat' (first | fail | ((with_reducible refine two_t ?_ ?_); (· (first | rfl | exact hx | (simp [ofs_eq, hx]; done) | (simp; omega)))) | ((with_reducible refine two_f ?_ ?_); (· (first | rfl | exact hx | (simp [ofs_eq, hx]; done) | (simp; omega)))) | done)
        rfl
      · repeat' (first | fail | done)
        refine comp_filter (enc := Want.d) notCond (fun w hw => ?_) ?_
        · cases w
          all_goals
            dsimp only [Want.d]
            repeat' (first | fail | done)
            first
              | exact ⟨rfl, rfl⟩
              | exact ⟨rfl, rfl, rfl, rfl⟩
        · repeat' (first | fail | ((with_reducible show W (run _ _ _ _ _ _ _) _); (with_reducible apply W_is); (· with_reducible apply (r12))) | ((with_reducible show W (run _ _ _ _ _ _ _) _); (with_reducible apply W_is); (· with_reducible apply (rb))) | (fail_if_success skip) | done)
          rfl
theorem ag_go (hb : b.ok) (hg : Gk g) {s3 : Sl} (h3 : s3 = .dcm (E27 b) ∨ s3 = .dcl (E27 b)) (s4 s8 s9 s10 s11 s12 s13 s14 : Sl) : WX (execs (run tbl fs (k + 20)) tbl agB [.no, .row, .imm b.d, s3, s4, .no, .no, .no, s8, s9, s10, s11, s12, s13, s14, .no] g) (Inv27 b) (fun d _ _ => d = .bool true) := by
  unfold agB
  repeat' (first | fail | done)
  refine answers_W hg (fun a g1 ha hg1 => ?_)
  repeat' (first | fail | done)
  refine comp_draw (enc := PyData.int) (enc' := oD) Gk (fun o => ∀ v, o = some v → 0 ≤ v ∧ v < 3) hg1 (fun x hx g hg => ?_) (fun ys g2 hg2 hyl hy => ?_)
  · have hx := ha.2 x hx
    repeat' (first | fail | ((with_reducible refine taken_W ?_ ?_ ?_ (fun _ _ _ _ _ => ?_)); (· assumption); (· (first | omega | (simp; done) | (simp; omega))); (· (first | omega | (simp; done) | (simp; omega)))) | done)
    refine two (fun _ => ?_) (fun _ => ?_)
    · repeat' (first | fail | ((with_reducible refine taken_W ?_ ?_ ?_ (fun _ _ _ _ _ => ?_)); (· assumption); (· (first | omega | (simp; done) | (simp; omega))); (· (first | omega | (simp; done) | (simp; omega)))) | done)
      exact ⟨⟨none, rfl, fun v h => nomatch h⟩, rfl, by assumption⟩
    · repeat' (first | fail | ((with_reducible refine taken_W ?_ ?_ ?_ (fun _ _ _ _ _ => ?_)); (· assumption); (· (first | omega | (simp; done) | (simp; omega))); (· (first | omega | (simp; done) | (simp; omega)))) | done)
      exact ⟨⟨some x, rfl, fun v h => by cases h; exact hx⟩, rfl, by assumption⟩
  · have hl : knOk ys := ⟨by rw [hyl]; exact ha.1, fun v h => hy _ h v rfl⟩
    repeat' (first | fail | done)
    exact fd_go hb hl hg2 h3 ..
end
theorem law_go (k : Nat) (ns : List Int) : WX (execs (run tbl fs (k + 20)) tbl lawB [.no, .row, .no, .no, .no, .no, .no, .no, .no, .no, .no, .no, .no, .no, .no, .no] ⟨ns, 0, 0, 0⟩) (fun _ _ => False) (fun d _ _ => d = .bool true) := by
  rw [lawB_is]
  unfold lawB2
  have hg0 : Gk ⟨ns, 0, 0, 0⟩ := Int.le_refl 0
  repeat' (first | fail | done)
  refine book_W hg0 (by omega) (by omega) (fun b g1 hb hbm hg1 => ?_)
  have ra : ∀ g, run tbl fs (k + 20) "_law_all" false [] g = some (.list (allAns.map fun l => .tuple (l.map PyData.int)), .fz, g) := fun g => law_all_run (k := k + 19)
  have hw0 : wishesOk b.cl.length [] := ⟨by simp, by simp⟩
  repeat' (first | fail | done)
  refine X_dof ?_
  repeat' (first | fail | ((with_reducible show W (run _ _ _ _ _ _ _) _); (with_reducible apply W_is); (· with_reducible apply (ra))) | (fail_if_success skip) | done)
  refine comp_map (enc := fun l : List Int => PyData.tuple (l.map PyData.int)) (fun a => .tuple [.tuple (a.map PyData.int), p0D b a]) (fun a ha => ?_) ?_
  · have ha := allAns_mem.mp ha
    have rp : ∀ g, run tbl fs (k + 20) "papers" false [b.d, rowD a, .list []] g = some (p0D b a, .fr, g) := fun g => by
      have := papers_run (tbl := tbl) (fs := fs) (k := k + 11) (g := g) hb ha hw0
      rw [papers_nil] at this
      exact this
    repeat' (first | fail | ((with_reducible show W (run _ _ _ _ _ _ _) _); (with_reducible apply W_is); (· with_reducible apply (rp))) | (fail_if_success skip) | done)
    exact ⟨rfl, rfl, rfl⟩
  · refine ⟨rfl, _, fE (p0D b) allAns, rfl, pairs_fE, fE_nodup allAns_nodup, ?_⟩
    repeat' (first | fail | done)
    rw [rng_Ri]
    refine for_inv (enc := PyData.int) (Inv27 b) ⟨hg1, _, _, _, _, _, _, _, _, _, .inl rfl, rfl⟩ (fun i hi ρ g h0 => ?_) (fun ρ g h0 => ?_)
    · obtain ⟨hg, s3, s4, s8, s9, s10, s11, s12, s13, s14, h3, rfl⟩ := h0
      repeat' (first | fail | done)
      exact ag_go hb hg h3 ..
    · obtain ⟨hg, s3, s4, s8, s9, s10, s11, s12, s13, s14, h3, rfl⟩ := h0
      exact ask_go hb hg ..
theorem law_true : LawTrue := fun ns _ => law_of (law_go 0 ns)
end Mi.L
end
theorem PySem.Challenge.cw_clausebook_k27_whole_questions_asked_on_holds : PySem.Challenge.rw_clausebook_k27_whole_questions_asked_on.Holds := by
  exact Mi.L.holds_of Mi.L.law_true
