import PyProof.Rows.All
import PySem.Challenge.RW_troupe_k34_one_or_apart
import HandS.ForMost
import HandS.Conv
import HandS.TupAny
import HandS.Deep
import HandS.Flow
import KE.GoesEnum
import KE.GoesMore
import HandS.TupMul
import HandS.SortKw
import KE.DataMinMax
import HandS.Zip
import HandS.IsInst
import HandS.SortRule
import HandS.SortInts
import HandS.Words
import HandS.Ends
import HandS.Codes
set_option Elab.async false
set_option linter.all false
set_option linter.all false
/-! A small language of plain data: terms that mirror the text's expressions and statements, and what they compute. -/
namespace R
open PySem L2

/-- plain data -/
inductive D where
  | non | bl (b : Bool) | int (i : Int) | str (x : Str)
  | tup (xs : List D) | lst (xs : List D)
  | dk (ks : List Key) (vs : List D) | dt (ks : List (List Key)) (vs : List D)
  | scr (ns : List Int)
  deriving Inhabited

inductive Kd | fz | ow | bo
  deriving DecidableEq, Inhabited

inductive BOp | add | sub | mul | fdiv | mod | pow
  deriving DecidableEq
inductive COp | eq | ne | lt | le | gt | ge | is | isnt | isin | notin
  deriving DecidableEq
/-- built-in functions -/
inductive BI | len | tuple | list | int | str | sorted | all | max | min | sum | maxd (d : Int) | lenset | isBool | isInt | isStr | isList | isTuple | tupRange | lstRange | dict | ord | reversed | sortedSet
  deriving DecidableEq
/-- methods of built-in types -/
inductive MI | join | split | strip | get | index
  deriving DecidableEq
/-- .. that change their object -/
inductive MS | append | reverse | insert | pop0 | pop1 | remove
  deriving DecidableEq
/-- what is walked -/
inductive SK | seq | rng | enum | zip | rev | keys
  deriving DecidableEq
inductive Tg | nm (i : Nat) | tp (is : List Nat)
  deriving DecidableEq

inductive IE where
  | var (i : Nat)
  | int (i : Int) | bl (b : Bool) | non | str (x : Str)
  | glb (x : Str) (d : D)
  | bin (op : BOp) (a b : IE)
  | cmp (op : COp) (a b : IE)
  | chain (op op' : COp) (a b c : IE)
  | and (a b : IE) | or (a b : IE) | not (a : IE) | neg (a : IE)
  | ifx (c a b : IE)
  | tup (es : List IE) | lst (es : List IE)
  | ix (a b : IE) | slc (a : IE) (lo hi : Option IE)
  | call (f : Nat) (es : List IE)
  | bi (b : BI) (es : List IE)
  | mt (m : MI) (o : IE) (es : List IE)
  | lc (elt : IE) (g : Tg) (k : SK) (src : List IE) (ifs : List IE)
  | dnew (t : Bool)
  | disp (t : Bool) (ks vs : List IE)

inductive IS where
  | set (g : Tg) (e : IE)
  | setix (i : Nat) (k v : IE)
  | ms (m : MS) (i : Nat) (es : List IE)
  | msv (m : MS) (t i : Nat) (es : List IE)
  | frz (i : Nat)
  | ite (c : IE) (a b : List IS)
  | for_ (g : Tg) (k : SK) (src : List IE) (body : List IS)
  | forq (g : Tg) (i : Nat) (c e : IE)
  | whl (c : IE) (body : List IS)
  | ret (e : IE) | retn | brk | cnt | pass
  | expr (e : IE)
  | stuck

abbrev Env := List (Option (Kd × D))
inductive Out | nx (ρ : Env) | rt (k : Kd) (d : D) | bk (ρ : Env) | ct (ρ : Env)

abbrev LINE : Nat := 16777216

def okS (x : Str) : Bool := decide (x.length ≤ LINE) && PyData.strOk x
def okK : Key → Bool
  | .inl _ => true
  | .inr x => okS x
def okKs (k : List Key) : Bool := decide (k.length ≤ LINE) && k.all okK
/-! ### data: depth, as the library's own -/
mutual
def D.py : D → PyData
  | .non => .none
  | .bl b => .bool b
  | .int i => .int i
  | .str x => .str x
  | .tup xs => .tuple (D.pys xs)
  | .lst xs => .list (D.pys xs)
  | .dk _ _ => .dict []
  | .dt _ _ => .dict []
  | .scr ns => .list (ns.map .int)
def D.pys : List D → List PyData
  | [] => []
  | x :: xs => D.py x :: D.pys xs
end
mutual
def D.dep : D → Nat
  | .tup xs => D.deps xs + 1
  | .lst xs => D.deps xs + 1
  | .dk _ _ => 1000
  | .dt _ _ => 1000
  | .scr _ => 1
  | .non => 0
  | .bl _ => 0
  | .int _ => 0
  | .str _ => 0
def D.deps : List D → Nat
  | [] => 0
  | x :: xs => max (D.dep x) (D.deps xs)
end
def eqv (a b : D) : Bool := PyData.eqv a.py b.py
def flat : D → Bool
  | .non => true | .bl _ => true | .int _ => true | .str _ => true | _ => false
def keyOf : D → Option Key
  | .int i => some (.inl i)
  | .str x => some (.inr x)
  | _ => none
def keysOf : List D → Option (List Key)
  | [] => some []
  | d :: ds => match keyOf d, keysOf ds with
    | some k, some ks => some (k :: ks)
    | _, _ => none
def dOfKey : Key → D
  | .inl i => .int i
  | .inr x => .str x
def look {κ : Type} [DecidableEq κ] : List κ → List D → κ → Option D
  | k :: ks, v :: vs, q => if k = q then some v else look ks vs q
  | _, _, _ => none
def has {κ : Type} [DecidableEq κ] (ks : List κ) (q : κ) : Bool := ks.any fun z => decide (z = q)
/-- d[k] = v: in its place, or at the end -/
def put {κ : Type} [DecidableEq κ] (ks : List κ) (vs : List D) (q : κ) (w : D) : List D :=
  if has ks q then (ks.zip vs).map (fun p => if p.1 = q then w else p.2) else vs ++ [w]
def putk {κ : Type} [DecidableEq κ] (ks : List κ) (q : κ) : List κ := if has ks q then ks else ks ++ [q]
/-- truth -/
def truD : D → Option Bool
  | .non => some false
  | .bl b => some b
  | .int i => some (i != 0)
  | .str x => some ((x.length : Int) != 0)
  | .tup xs => some (!xs.isEmpty)
  | .lst xs => some (!xs.isEmpty)
  | .scr ns => some (!ns.isEmpty)
  | _ => none
def onT : Option (Kd × D) → Option Bool
  | some (_, d) => truD d
  | none => none
/-- a list's items -/
def items : D → Option (List D)
  | .lst ds => some ds
  | .tup ds => some ds
  | .scr ns => some (ns.map .int)
  | _ => none
def litems : D → Option (List D)
  | .lst ds => some ds
  | .scr ns => some (ns.map .int)
  | _ => none
def signs (x : Str) : List D := x.cps.toList.map fun c => .str ⟨#[c]⟩
def small64 (i : Int) : Bool := decide (-(2 ^ 64) < i) && decide (i < 2 ^ 64)
def small62 (i : Int) : Bool := decide (-(2 ^ 62) ≤ i) && decide (i < 2 ^ 62)
def cut {α : Type} (xs : List α) (lo hi : Option Int) : List α := (xs.drop (HT.sIx xs.length 0 lo)).take (HT.sIx xs.length xs.length hi - HT.sIx xs.length 0 lo)

/-- the greatest, or d -/
def maxDI (d : Int) : List Int → Int
  | [] => d
  | n :: ns => ns.foldl max n
def binD : BOp → D → D → Option (Kd × D)
  | .add, .int i, .int j => some (.fz, .int (i + j))
  | .add, .str x, .str y => if x.length + y.length ≤ LINE then some (.fz, .str (x ++ y)) else none
  | .add, .lst xs, .lst ys => if xs.length + ys.length ≤ LINE then some (.ow, .lst (xs ++ ys)) else none
  | .add, .tup xs, .tup ys => if xs.length + ys.length ≤ LINE then some (.fz, .tup (xs ++ ys)) else none
  | .sub, .int i, .int j => some (.fz, .int (i - j))
  | .mul, .int i, .int j => if small64 i || small64 j then some (.fz, .int (i * j)) else none
  | .mul, .lst xs, .int k => if small62 k && decide (xs.length * k.toNat ≤ LINE) then some (.ow, .lst (List.replicate k.toNat xs).flatten) else none
  | .mul, .tup xs, .int k => if (xs.length ≠ 0 ∧ xs.length ≤ 1000) ∧ -1000 ≤ k ∧ k ≤ 1000 then some (.fz, .tup (List.replicate k.toNat xs).flatten) else none
  | .fdiv, .int i, .int j => if j ≠ 0 ∧ j.natAbs < 1073741824 then some (.fz, .int (i.fdiv j)) else none
  | .mod, .int i, .int j => if j ≠ 0 then some (.fz, .int (i.fmod j)) else none
  | .pow, .int i, .int j => if 0 ≤ j ∧ j ≤ 1000000 ∧ small62 i then some (.fz, .int (i ^ j.toNat)) else none
  | _, _, _ => none

def isNon : D → Bool
  | .non => true
  | _ => false
def cmpD : COp → D → D → Option Bool
  | .eq, a, b => if a.dep ≤ 60 ∧ b.dep ≤ 60 then some (eqv a b) else none
  | .ne, a, b => if a.dep ≤ 60 ∧ b.dep ≤ 60 then some (!eqv a b) else none
  | .lt, .int i, .int j => some (decide (i < j))
  | .le, .int i, .int j => some (decide (i ≤ j))
  | .gt, .int i, .int j => some (decide (j < i))
  | .ge, .int i, .int j => some (decide (j ≤ i))
  | .is, a, .non => some (isNon a)
  | .isnt, a, .non => some (!isNon a)
  | .isin, a, .lst ds => if a.dep ≤ 60 ∧ D.deps ds ≤ 60 then some (ds.any fun z => eqv z a) else none
  | .notin, a, .lst ds => if a.dep ≤ 60 ∧ D.deps ds ≤ 60 then some (!ds.any fun z => eqv z a) else none
  | .isin, a, .tup ds => if flat a && ds.all flat then some (ds.any fun z => eqv z a) else none
  | .notin, a, .tup ds => if flat a && ds.all flat then some (!ds.any fun z => eqv z a) else none
  | .isin, .str x, .str y => if x.length = 1 then some (decide (x.cps.getD 0 0 ∈ y.cps.toList)) else none
  | .notin, .str x, .str y => if x.length = 1 then some (!decide (x.cps.getD 0 0 ∈ y.cps.toList)) else none
  | .isin, a, .dk ks _ => (keyOf a).map fun (q : Key) => has ks q
  | .notin, a, .dk ks _ => (keyOf a).map fun (q : Key) => !has ks q
  | .isin, .tup a, .dt ks _ => (keysOf a).map fun (q : List Key) => has ks q
  | .notin, .tup a, .dt ks _ => (keysOf a).map fun (q : List Key) => !has ks q
  | _, _, _ => none

def ixD : D → D → Option D
  | .lst xs, .int i => atI xs i
  | .tup xs, .int i => atI xs i
  | .scr ns, .int i => (atI ns i).map .int
  | .str x, .int i => (atI x.cps.toList i).map fun c => .str ⟨#[c]⟩
  | .dk ks vs, .int i => if i < 0 then none else look ks vs (.inl i)
  | .dk ks vs, .str x => look ks vs (.inr x)
  | .dt ks vs, .tup a => (keysOf a).bind (look ks vs)
  | _, _ => none

def slcD : D → Option Int → Option Int → Option (Kd × D)
  | .lst xs, lo, hi => some (.ow, .lst (cut xs lo hi))
  | .tup xs, lo, hi => some (.fz, .tup (cut xs lo hi))
  | .scr ns, lo, hi => some (.ow, .lst ((cut ns lo hi).map .int))
  | .str x, lo, hi => some (.fz, .str ⟨(cut x.cps.toList lo hi).toArray⟩)
  | _, _, _ => none

def intsD : List D → Option (List Int)
  | [] => some []
  | .int i :: ds => (intsD ds).map (i :: ·)
  | _ :: _ => none
def boolsD : List D → Option (List Bool)
  | [] => some []
  | .bl i :: ds => (boolsD ds).map (i :: ·)
  | _ :: _ => none
def strsD : List D → Option (List Str)
  | [] => some []
  | .str i :: ds => (strsD ds).map (i :: ·)
  | _ :: _ => none
/-- pairsD of intsD -/
def pairsD : List D → Option (List (Int × Int))
  | [] => some []
  | .tup [.int i, .int j] :: ds => (pairsD ds).map ((i, j) :: ·)
  | _ :: _ => none
def maxI : List Int → Int
  | [] => 0
  | [x] => x
  | x :: xs => max x (maxI xs)
def minI : List Int → Int
  | [] => 0
  | [x] => x
  | x :: xs => min x (minI xs)
def insI (x : Int) : List Int → List Int
  | [] => [x]
  | y :: ys => if x ≤ y then x :: y :: ys else y :: insI x ys
def sortI : List Int → List Int
  | [] => []
  | x :: xs => insI x (sortI xs)
def leP (x y : Int × Int) : Bool := decide (x.1 < y.1) || (decide (x.1 = y.1) && decide (x.2 ≤ y.2))
def insP (x : Int × Int) : List (Int × Int) → List (Int × Int)
  | [] => [x]
  | y :: ys => if leP x y then x :: y :: ys else y :: insP x ys
def sortP : List (Int × Int) → List (Int × Int)
  | [] => []
  | x :: xs => insP x (sortP xs)
def ofPair (p : Int × Int) : D := .tup [.int p.1, .int p.2]
/-- the first of each -/
def dedup (ns : List Int) : List Int := ns.foldl PyProof.Rows.step_dedup []
def rangeL (a b : Int) : List Int := (List.range (b - a).toNat).map fun i => a + (i : Nat)

def downL (a b : Int) : List Int := (List.range (a - b).toNat).map fun i => a - (i : Nat)

def isD : BI → D → Option Bool
  | _, .dk _ _ => none
  | _, .dt _ _ => none
  | .isBool, .bl _ => some true
  | .isBool, _ => some false
  | .isInt, .bl _ => some true
  | .isInt, .int _ => some true
  | .isInt, _ => some false
  | .isStr, .str _ => some true
  | .isStr, _ => some false
  | .isList, .lst _ => some true
  | .isList, .scr _ => some true
  | .isList, _ => some false
  | .isTuple, .tup _ => some true
  | .isTuple, _ => some false
  | _, _ => none
def biD : BI → List D → Option (Kd × D)
  | .len, [.lst xs] => some (.fz, .int xs.length)
  | .len, [.tup xs] => some (.fz, .int xs.length)
  | .len, [.scr xs] => some (.fz, .int xs.length)
  | .len, [.str x] => some (.fz, .int x.length)
  | .tuple, [.lst xs] => some (.fz, .tup xs)
  | .tuple, [.tup xs] => some (.fz, .tup xs)
  | .list, [.lst xs] => some (.ow, .lst xs)
  | .list, [.tup xs] => some (.ow, .lst xs)
  | .list, [.scr ns] => some (.ow, .lst (ns.map .int))
  | .int, [.bl b] => some (.fz, .int (if b then 1 else 0))
  | .int, [.int i] => some (.fz, .int i)
  | .int, [.str x] => if x.length ≤ 640 then (intText? x).map fun n => (.fz, .int n) else none
  | .str, [.int i] => if i.natAbs.log2 < 1920 ∧ okS (Str.ofString (toString i)) = true then some (.fz, .str (Str.ofString (toString i))) else none
  | .all, [.lst xs] => (boolsD xs).map fun bs => (.fz, .bl (bs.all id))
  | .max, [.int i, .int j] => some (.fz, .int (if j > i then j else i))
  | .min, [.int i, .int j] => some (.fz, .int (if j < i then j else i))
  | .max, [.lst xs] => (intsD xs).bind fun ns => if ns = [] then none else some (.fz, .int (maxI ns))
  | .min, [.lst xs] => (intsD xs).bind fun ns => if ns = [] then none else some (.fz, .int (minI ns))
  | .sum, [.lst xs] => (intsD xs).map fun ns => (.fz, .int ns.sum)
  | .isBool, [d] => (isD .isBool d).map fun c => (.fz, .bl c)
  | .isInt, [d] => (isD .isInt d).map fun c => (.fz, .bl c)
  | .isStr, [d] => (isD .isStr d).map fun c => (.fz, .bl c)
  | .isList, [d] => (isD .isList d).map fun c => (.fz, .bl c)
  | .isTuple, [d] => (isD .isTuple d).map fun c => (.fz, .bl c)
  | .tupRange, [.int n] => if small62 n ∧ n.toNat ≤ LINE then some (.fz, .tup ((rangeL 0 n).map .int)) else none
  | .tupRange, [.int a, .int b] => if small62 a ∧ small62 b ∧ (b - a).toNat ≤ LINE then some (.fz, .tup ((rangeL a b).map .int)) else none
  | .lstRange, [.int n] => if small62 n ∧ n.toNat ≤ LINE then some (.ow, .lst ((rangeL 0 n).map .int)) else none
  | .lstRange, [.int a, .int b] => if small62 a ∧ small62 b ∧ (b - a).toNat ≤ LINE then some (.ow, .lst ((rangeL a b).map .int)) else none
  | .sorted, [.lst xs] => match intsD xs with
    | some ns => some (.ow, .lst ((sortI ns).map .int))
    | none => match pairsD xs with
      | some ps => some (.ow, .lst ((sortP ps).map ofPair))
      | none => none
  | .maxd d, [.lst xs] => match intsD xs with
    | some ns => some (.fz, .int (maxDI d ns))
    | none => none
  | .lenset, [.lst xs] => match intsD xs with
    | some ns => if ns.length ≤ 4000 then some (.fz, .int (dedup ns).length) else none
    | none => none
  | _, _ => none

def mtD : MI → D → List D → Option (Kd × D)
  | .join, .str a, [.lst xs] => (strsD xs).bind fun ys => if (ys.map (·.length)).sum + ys.length * a.length ≤ LINE ∧ okS (Txt.join a ys) = true then some (.fz, .str (Txt.join a ys)) else none
  | .split, .str a, [.str b] => if (b.length == 0) = false ∧ a.length + 2 ≤ LINE ∧ (Txt.split a b).length ≤ LINE ∧ (Txt.split a b).all okS = true then some (.ow, .lst ((Txt.split a b).map .str)) else none
  | .get, .dk ks vs, [k, d] => if flat d then (keyOf k).map fun q => (.fz, (look ks vs q).getD d) else none
  | .get, .dt ks vs, [.tup k, d] => if flat d then (keysOf k).map fun q => (.fz, (look ks vs q).getD d) else none
  | _, _, _ => none
def dispD : Bool → List D → List D → Option (Kd × D)
  | _, _, _ => none
/-- what is walked, as a list -/
def srcD : SK → List D → Option (List D)
  | .seq, [.str x] => some (signs x)
  | .seq, [d] => items d
  | .rng, [.int n] => if small62 n ∧ n.toNat ≤ LINE then some ((rangeL 0 n).map .int) else none
  | .rng, [.int a, .int b] => if small62 a ∧ small62 b ∧ (b - a).toNat ≤ LINE then some ((rangeL a b).map .int) else none
  | .rng, [.int a, .int b, .int c] => if small62 a ∧ small62 b ∧ (a - b).toNat ≤ LINE ∧ c = -1 then some ((downL a b).map .int) else none
  | .enum, [.lst ds] => some ((ds.zipIdx).map fun p => .tup [.int (p.2 : Nat), p.1])
  | .enum, [.tup ds] => some ((ds.zipIdx).map fun p => .tup [.int (p.2 : Nat), p.1])
  | .zip, [.lst xs, .lst ys] => some ((xs.zip ys).map fun p => .tup [p.1, p.2])
  | .keys, [.dk ks _] => some (ks.map dOfKey)
  | .keys, [.dt ks _] => some (ks.map fun k => .tup (k.map dOfKey))
  | _, _ => none

def setMany : List Nat → List D → Env → Option Env
  | [], [], ρ => some ρ
  | i :: is, d :: ds, ρ => if i < ρ.length then setMany is ds (ρ.set i (some (.fz, d))) else none
  | _, _, _ => none
def setTg : Tg → D → Env → Option Env
  | .nm i, d, ρ => if i < ρ.length then some (ρ.set i (some (.fz, d))) else none
  | .tp is, .tup ds, ρ => setMany is ds ρ
  | .tp _, _, _ => none
def tgS : Tg → List Nat
  | .nm i => [i]
  | .tp is => is
def wipeR (ρ : Env) : List Nat → Env
  | [] => ρ
  | v :: vs => (wipeR ρ vs).set v none

/-- a value that is handed on -/
def esc : Kd × D → Option D
  | (.bo, _) => none
  | (_, d) => some d
def consO : Option D → List D → List D
  | some y, ys => y :: ys
  | none, ys => ys
/-- a dict that is walked is frozen -/
def srcV (k : SK) (a b : Option (List D)) : Option (List D) := match k with
  | .keys => a
  | _ => b
def lcRun (f : D → Option (Option D)) : List D → Option (List D)
  | [] => some []
  | x :: xs => match f x with
    | none => none
    | some r => match lcRun f xs with
      | none => none
      | some ys => some (consO r ys)

section
variable (cl : Nat → List D → Option (Kd × D))
mutual
def evE : IE → Env → Option (Kd × D)
  | .var i, ρ => match ρ[i]? with
    | some (some (.fz, d)) => some (.fz, d)
    | some (some (_, d)) => some (.bo, d)
    | _ => none
  | .int i, _ => some (.fz, .int i)
  | .bl b, _ => some (.fz, .bl b)
  | .non, _ => some (.fz, .non)
  | .str x, _ => some (.fz, .str x)
  | .glb _ d, _ => some (.fz, d)
  | .bin op a b, ρ => match evE a ρ with
    | none => none
    | some (_, x) => match evE b ρ with
      | none => none
      | some (_, y) => binD op x y
  | .cmp op a b, ρ => match evE a ρ with
    | none => none
    | some (_, x) => match evE b ρ with
      | none => none
      | some (_, y) => match cmpD op x y with
        | none => none
        | some c => some (.fz, .bl c)
  | .chain op op' a b c, ρ => match evE a ρ with
    | none => none
    | some (_, x) => match evE b ρ with
      | none => none
      | some (_, y) => match cmpD op x y with
        | none => none
        | some false => some (.fz, .bl false)
        | some true => match evE c ρ with
          | none => none
          | some (_, z) => match cmpD op' y z with
            | none => none
            | some c => some (.fz, .bl c)
  | .and a b, ρ => match onT (evE a ρ) with
    | none => none
    | some true => evE b ρ
    | some false => evE a ρ
  | .or a b, ρ => match onT (evE a ρ) with
    | none => none
    | some true => evE a ρ
    | some false => evE b ρ
  | .not a, ρ => match onT (evE a ρ) with
    | none => none
    | some c => some (.fz, .bl (!c))
  | .neg a, ρ => match evE a ρ with
    | some (_, .int i) => some (.fz, .int (-i))
    | _ => none
  | .ifx c a b, ρ => match onT (evE c ρ) with
    | none => none
    | some true => evE a ρ
    | some false => evE b ρ
  | .tup es, ρ => match evF es ρ with
    | none => none
    | some ds => some (.fz, .tup ds)
  | .lst es, ρ => match evF es ρ with
    | none => none
    | some ds => some (.ow, .lst ds)
  | .ix a b, ρ => match evE a ρ with
    | none => none
    | some (_, x) => match evE b ρ with
      | none => none
      | some (_, y) => match ixD x y with
        | none => none
        | some d => some (.fz, d)
  | .slc a lo hi, ρ => match evE a ρ with
    | none => none
    | some (_, x) => match evO lo ρ with
      | none => none
      | some l => match evO hi ρ with
        | none => none
        | some h => slcD x l h
  | .call f es, ρ => match evF es ρ with
    | none => none
    | some ds => cl f ds
  | .bi b es, ρ => match evB es ρ with
    | none => none
    | some ds => biD b ds
  | .mt m o es, ρ => match evE o ρ with
    | none => none
    | some (_, x) => match evB es ρ with
      | none => none
      | some ds => mtD m x ds
  | .lc elt g k src ifs, ρ => match srcV k (evF src ρ) (evB src ρ) with
    | none => none
    | some ds => match srcD k ds with
      | none => none
      | some xs => match lcRun (fun x => match setTg g x (wipeR ρ (tgS g)) with
          | none => none
          | some ρ' => match evI ifs ρ' with
            | none => none
            | some false => some none
            | some true => match evE elt ρ' with
              | none => none
              | some r => match esc r with
                | none => none
                | some d => some (some d)) xs with
        | none => none
        | some ys => some (.ow, .lst ys)
  | .dnew t, _ => some (.ow, if t then .dt [] [] else .dk [] [])
  | .disp t ks vs, ρ => match evF ks ρ, evF vs ρ with
    | some ds, some ws => dispD t ds ws
    | _, _ => none
/-- several, handed on -/
def evF : List IE → Env → Option (List D)
  | [], _ => some []
  | e :: es, ρ => match evE e ρ with
    | none => none
    | some r => match esc r with
      | none => none
      | some d => match evF es ρ with
        | none => none
        | some ds => some (d :: ds)
/-- several, looked at -/
def evB : List IE → Env → Option (List D)
  | [], _ => some []
  | e :: es, ρ => match evE e ρ with
    | none => none
    | some (_, d) => match evB es ρ with
      | none => none
      | some ds => some (d :: ds)
/-- tests, all true -/
def evI : List IE → Env → Option Bool
  | [], _ => some true
  | e :: es, ρ => match onT (evE e ρ) with
    | none => none
    | some true => evI es ρ
    | some false => some false
def evO : Option IE → Env → Option (Option Int)
  | none, _ => some none
  | some e, ρ => match evE e ρ with
    | some (_, .int i) => some (some i)
    | _ => none
end

/-! ### statements -/
/-- a loop over items -/
def forRun (f : D → Env → Option Out) : List D → Env → Option Out
  | [], ρ => some (.nx ρ)
  | x :: xs, ρ => match f x ρ with
    | some (.nx ρ') => forRun f xs ρ'
    | some (.ct ρ') => forRun f xs ρ'
    | some (.bk ρ') => some (.nx ρ')
    | some (.rt k d) => some (.rt k d)
    | none => none
def whlRun (c : Env → Option Bool) (f : Env → Option Out) : Nat → Env → Option Out
  | 0, _ => none
  | n + 1, ρ => match c ρ with
    | none => none
    | some false => some (.nx ρ)
    | some true => match f ρ with
      | some (.nx ρ') => whlRun c f n ρ'
      | some (.ct ρ') => whlRun c f n ρ'
      | some (.bk ρ') => some (.nx ρ')
      | some (.rt k d) => some (.rt k d)
      | none => none
/-- turns of a while -/
abbrev WHL : Nat := 100000
def setR (g : Tg) (r : Kd × D) (ρ : Env) : Option Env := match g, r with
  | _, (.bo, _) => none
  | .nm i, (k, d) => if i < ρ.length then some (ρ.set i (some (k, d))) else none
  | .tp is, (_, .tup ds) => setMany is ds ρ
  | .tp _, _ => none
/-- an owned thing changed by a method -/
def msD : MS → D → List D → Option D
  | .append, .lst xs, [d] => if xs.length < LINE then some (.lst (xs ++ [d])) else none
  | .reverse, .lst xs, [] => some (.lst xs.reverse)
  | _, _, _ => none
def setD : D → D → D → Option D
  | .lst xs, .int k, d => (ixN xs.length k).map fun j => .lst (xs.set j d)
  | .dk ks vs, k, d => if ks.length < LINE then (keyOf k).map fun q => .dk (putk ks q) (put ks vs q d) else none
  | .dt ks vs, .tup k, d => if ks.length < LINE then (keysOf k).map fun q => .dt (putk ks q) (put ks vs q d) else none
  | _, _, _ => none
def ownAt (ρ : Env) (i : Nat) : Option D := match ρ[i]? with
  | some (some (.ow, d)) => some d
  | _ => none
mutual
def evS : IS → Env → Option Out
  | .set g e, ρ => match evE cl e ρ with
    | none => none
    | some r => match setR g r ρ with
      | none => none
      | some ρ' => some (.nx ρ')
  | .setix i k v, ρ => match evE cl v ρ with
    | none => none
    | some r => match esc r with
      | none => none
      | some d => match ownAt ρ i with
        | none => none
        | some o => match evE cl k ρ with
          | none => none
          | some (_, q) => match setD o q d with
            | none => none
            | some o' => some (.nx (ρ.set i (some (.ow, o'))))
  | .ms m i es, ρ => match ownAt ρ i with
    | none => none
    | some o => match evF cl es ρ with
      | none => none
      | some ds => match msD m o ds with
        | none => none
        | some o' => some (.nx (ρ.set i (some (.ow, o'))))
  | .msv _ _ _ _, _ => none
  | .frz i, ρ => match ρ[i]? with
    | some (some (_, d)) => some (.nx (ρ.set i (some (.fz, d))))
    | _ => some (.nx ρ)
  | .ite c a b, ρ => match onT (evE cl c ρ) with
    | none => none
    | some true => evSs a ρ
    | some false => evSs b ρ
  | .for_ g k src body, ρ => match evF cl src ρ with
    | none => none
    | some ds => match srcD k ds with
      | none => none
      | some xs => forRun (fun x ρ1 => match setTg g x ρ1 with
        | none => none
        | some ρ2 => evSs body ρ2) xs ρ
  | .forq g i c e, ρ => match ownAt ρ i with
    | some (.lst xs) => if (tgS g).contains i then none else forRun (fun x ρ1 => match setTg g x ρ1 with
        | none => none
        | some ρ2 => match onT (evE cl c ρ2) with
          | none => none
          | some true => (match evE cl e ρ2 with
            | none => none
            | some (.fz, d) => some (.rt .fz d)
            | some (_, d) => some (.rt .ow d))
          | some false => some (.nx ρ2)) xs ρ
    | _ => none
  | .whl c body, ρ => whlRun (fun ρ1 => onT (evE cl c ρ1)) (fun ρ1 => evSs body ρ1) WHL ρ
  | .ret e, ρ => match evE cl e ρ with
    | none => none
    | some (.fz, d) => some (.rt .fz d)
    | some (_, d) => some (.rt .ow d)
  | .retn, _ => some (.rt .fz .non)
  | .brk, ρ => some (.bk ρ)
  | .cnt, ρ => some (.ct ρ)
  | .pass, ρ => some (.nx ρ)
  | .expr e, ρ => match evE cl e ρ with
    | none => none
    | some _ => some (.nx ρ)
  | .stuck, _ => none
def evSs : List IS → Env → Option Out
  | [], ρ => some (.nx ρ)
  | s :: ss, ρ => match evS s ρ with
    | some (.nx ρ') => evSs ss ρ'
    | r => r
end
end

/-- a def -/
structure Fn where
  np : Nat
  ns : Nat
  body : List IS
def start0 (fn : Fn) (ds : List D) : Env := ds.map (fun d => some (.fz, d)) ++ List.replicate (fn.ns - fn.np) none
def finD : Option Out → Option (Kd × D)
  | some (.nx _) => some (.fz, .non)
  | some (.rt .fz d) => some (.fz, d)
  | some (.rt _ d) => some (.ow, d)
  | _ => none
def run (cl : Nat → List D → Option (Kd × D)) (fn : Fn) (ds : List D) : Option (Kd × D) :=
  if ds.length = fn.np then finD (evSs cl fn.body (start0 fn ds)) else none
/-- the defs by numbers; n: how deep calls go -/
def evFn (tbl : List (Nat × Fn)) : Nat → Nat → List D → Option (Kd × D)
  | 0, _, _ => none
  | n + 1, f, ds => match tbl.lookup f with
    | none => none
    | some fn => run (evFn tbl n) fn ds
/-! ### which terms are served -/
def keysPath : List IE → Bool
  | [.var _] => true
  | [.ix (.var _) (.int j)] => decide (j < 0)
  | _ => false
def glOk : D → Bool
  | .int _ => true | .bl _ => true | .non => true | .str y => okS y | _ => false
def biAr : BI → Nat → Bool
  | .max, n => n == 1 || n == 2
  | .min, n => n == 1 || n == 2
  | .tupRange, n => n == 1 || n == 2
  | .lstRange, n => n == 1 || n == 2
  | .len, n => n == 1
  | .tuple, n => n == 1
  | .list, n => n == 1
  | .int, n => n == 1
  | .str, n => n == 1
  | .all, n => n == 1
  | .sum, n => n == 1
  | .isBool, n => n == 1
  | .isInt, n => n == 1
  | .isStr, n => n == 1
  | .isList, n => n == 1
  | .isTuple, n => n == 1
  | .lenset, n => n == 1
  | .maxd _, n => n == 1
  | .sorted, n => n == 1
  | _, _ => false
def mtAr : MI → Nat → Bool
  | .get, n => n == 2
  | .join, n => n == 1
  | .split, n => n == 1
  | _, _ => false
mutual
def okE : IE → Bool
  | .var _ => true
  | .int _ => true
  | .bl _ => true
  | .non => true
  | .str x => okS x
  | .glb _ d => glOk d
  | .bin _ a b => okE a && okE b
  | .cmp _ a b => okE a && okE b
  | .chain op op' a b c => okE a && okE b && okE c && op != .isin && op != .notin && op' != .isin && op' != .notin
  | .and a b => okE a && okE b
  | .or a b => okE a && okE b
  | .not a => okE a
  | .neg a => okE a
  | .ifx c a b => okT c && okE a && okE b
  | .tup es => okL es && decide (es.length ≤ LINE)
  | .lst es => okL es && decide (es.length ≤ LINE)
  | .ix a b => okE a && okE b
  | .slc a lo hi => okE a && okO lo && okO hi
  | .call _ es => okL es
  | .bi b es => okL es && biAr b es.length
  | .mt m o es => okE o && okL es && mtAr m es.length
  | .lc elt _ k src ifs => okE elt && okL src && okI ifs && (k != .keys || keysPath src)
  | .dnew _ => true
  | .disp _ _ _ => false
def okT : IE → Bool
  | .cmp _ a b => okE a && okE b
  | .chain op op' a b c => okE a && okE b && okE c && op != .isin && op != .notin && op' != .isin && op' != .notin
  | .and a b => okT a && okT b
  | .or a b => okT a && okT b
  | .not a => okT a
  | .var _ => true
  | .int _ => true
  | .bl _ => true
  | .ix a b => okE a && okE b
  | .call _ es => okL es
  | .bi b es => okL es && biAr b es.length
  | _ => false
def okL : List IE → Bool
  | [] => true
  | e :: es => okE e && okL es
def okI : List IE → Bool
  | [] => true
  | [e] => okT e
  | _ :: _ :: _ => false
def okO : Option IE → Bool
  | none => true
  | some e => okE e
end
def msAr : MS → Nat → Bool
  | .append, n => n == 1
  | .reverse, n => n == 0
  | _, _ => false
mutual
def okS1 : IS → Bool
  | .set _ e => okE e
  | .setix _ k v => okE k && okE v
  | .ms m _ es => okL es && msAr m es.length
  | .msv _ _ _ _ => false
  | .frz _ => true
  | .ite c a b => okT c && okSs a && okSs b
  | .for_ _ k src body => okL src && okSs body && (k != .keys || keysPath src)
  | .forq _ _ c e => okT c && okE e
  | .whl c body => okT c && okSs body
  | .ret e => okE e
  | .retn => true
  | .brk => true
  | .cnt => true
  | .pass => true
  | .expr e => okE e
  | .stuck => true
def okSs : List IS → Bool
  | [] => true
  | s :: ss => okS1 s && okSs ss
end
end R

set_option linter.all false
/-! How data lies in the heap; what a term's reading asks, from what it computes. -/
namespace R
open PySem L2

def isDic : HO → Bool
  | .dK _ => true
  | .dT _ => true
  | _ => false
/-- all that is frozen lies in the heap (a dict perhaps locked) -/
def Sub (I H : Hp) : Prop := ∀ b u, I b = some u → H b = some u ∨ (isDic u = true ∧ ∃ od, H b = some (.frz od u))
section
variable (K : PySem.W.Frag) (I : Hp)
mutual
def Rep : D → V → Prop
  | .non, v => v = .non
  | .bl b, v => v = .bl b
  | .int i, v => v = .int i
  | .str x, v => v = .str x ∧ x.length ≤ LINE ∧ PyData.strOk x = true
  | .tup ds, v => ∃ a xs, v = .ref a ∧ I a = some (.tup xs) ∧ Reps ds xs ∧ ds.length ≤ LINE
  | .lst ds, v => ∃ a xs, v = .ref a ∧ I a = some (.lst xs) ∧ Reps ds xs ∧ ds.length ≤ LINE
  | .dk ks ws, v => ∃ a xs, v = .ref a ∧ I a = some (.dK (ks.zip xs)) ∧ Reps ws xs ∧ ks.length = xs.length ∧ ks.length ≤ LINE ∧ ks.all okK = true
  | .dt ks ws, v => ∃ a xs, v = .ref a ∧ I a = some (.dT (ks.zip xs)) ∧ Reps ws xs ∧ ks.length = xs.length ∧ ks.length ≤ LINE ∧ ks.all okKs = true
  | .scr ns, v => ∃ a, v = .ref a ∧ SqL K I a (ns.map V.int) ∧ ns.length ≤ LINE
def Reps : List D → List V → Prop
  | [], xs => xs = []
  | d :: ds, xs => ∃ x r, xs = x :: r ∧ Rep d x ∧ Reps ds r
end
end
def isTup : HO → Bool
  | .tup _ => true
  | _ => false
structure Ext (I H I' H' : Hp) : Prop where
  ii : ∀ b o, I b = some o → I' b = some o
  hh : ∀ b o, H b = some o → H' b = some o
  su : Sub I' H'
  fr : ∀ b o, H b = some o → isTup o = false → I' b = I b
theorem Ext.refl {I H : Hp} (s : Sub I H) : Ext I H I H := ⟨fun _ _ h => h, fun _ _ h => h, s, fun _ _ _ _ => rfl⟩
theorem Ext.trans {I H I1 H1 I2 H2 : Hp} (a : Ext I H I1 H1) (b : Ext I1 H1 I2 H2) : Ext I H I2 H2 :=
  ⟨fun c o h => b.ii c o (a.ii c o h), fun c o h => b.hh c o (a.hh c o h), b.su, fun c o h n => (b.fr c o (a.hh c o h) n).trans (a.fr c o h n)⟩
theorem Sub.there {I H : Hp} (s : Sub I H) {b : Addr} {u : HO} (h : I b = some u) : ∃ o, H b = some o := by
  rcases s b u h with q | ⟨_, od, q⟩
  · exact ⟨_, q⟩
  · exact ⟨_, q⟩
theorem Sub.fresh {I H : Hp} (s : Sub I H) {b : Addr} (h : H b = none) : I b = none := by
  cases q : I b with
  | none => rfl
  | some u =>
    obtain ⟨o, e⟩ := s.there q
    rw [h] at e
    cases e
/-- a new object, not frozen -/
theorem Ext.new {I H : Hp} (s : Sub I H) {p : Addr} {o : HO} (h : H p = none) : Ext I H I (upd H p o) := by
  refine ⟨fun _ _ q => q, fun b u q => ?_, fun b u q => ?_, fun _ _ _ _ => rfl⟩
  · rw [upd_ne (ne_of_none q h)]
    exact q
  · have : b ≠ p := fun e => by
      rw [e, s.fresh h] at q
      cases q
    rw [upd_ne this]
    exact s b u q
/-- something that was not there at first is frozen -/
theorem Ext.freeze {I H I1 H1 : Hp} (a : Ext I H I1 H1) {p : Addr} {o : HO} (hp : H1 p = some o) (h0 : H p = none) (hi : I1 p = none) : Ext I H (upd I1 p o) H1 := by
  refine ⟨fun b u q => ?_, a.hh, fun b u q => ?_, fun b u q n => ?_⟩
  · have q' := a.ii b u q
    rw [upd_ne (ne_of_none q' hi)]
    exact q'
  · by_cases e : b = p
    · rw [e, upd_same] at q
      cases q
      rw [e]
      exact .inl hp
    · rw [upd_ne e] at q
      exact a.su b u q
  · rw [upd_ne (ne_of_none q h0)]
    exact a.fr b u q n
/-- a tuple that is there is frozen -/
theorem Ext.freezeT {I H I1 H1 : Hp} (a : Ext I H I1 H1) {p : Addr} {xs : List V} (hp : H1 p = some (.tup xs)) (hi : I1 p = none) : Ext I H (upd I1 p (.tup xs)) H1 := by
  refine ⟨fun b u q => ?_, a.hh, fun b u q => ?_, fun b u q n => ?_⟩
  · have q' := a.ii b u q
    rw [upd_ne (ne_of_none q' hi)]
    exact q'
  · by_cases e : b = p
    · rw [e, upd_same] at q
      cases q
      rw [e]
      exact .inl hp
    · rw [upd_ne e] at q
      exact a.su b u q
  · have : b ≠ p := fun e => by
      have q' := a.hh b u q
      rw [e, hp] at q'
      cases q'
      cases n
    rw [upd_ne this]
    exact a.fr b u q n
/-- a new object, frozen at once -/
theorem Ext.newF {I H : Hp} (s : Sub I H) {p : Addr} {o : HO} (h : H p = none) : Ext I H (upd I p o) (upd H p o) :=
  (Ext.new s h).freeze upd_same h (s.fresh h)

section
variable {K : PySem.W.Frag} {I I' H H' : Hp}
theorem rd_mono (ii : ∀ b o, I b = some o → I' b = some o) {a : Addr} {xs : List V} (h : SqL K I a xs) : SqL K I' a xs := by
  rcases h with (h | ⟨o, h⟩) | h
  · exact .inl (.inl (ii _ _ h))
  · exact .inl (.inr ⟨o, ii _ _ h⟩)
  · exact .inr h
mutual
theorem Rep.mono (ii : ∀ b o, I b = some o → I' b = some o) : ∀ (d : D) (v : V), Rep K I d v → Rep K I' d v
  | .non, v, h => by simpa only [Rep] using h
  | .bl _, v, h => by simpa only [Rep] using h
  | .int _, v, h => by simpa only [Rep] using h
  | .str _, v, h => by simpa only [Rep] using h
  | .tup ds, v, h => by
    simp only [Rep] at h ⊢
    obtain ⟨a, xs, e, h1, h2, h3⟩ := h
    exact ⟨a, xs, e, ii _ _ h1, Reps.mono ii ds xs h2, h3⟩
  | .lst ds, v, h => by
    simp only [Rep] at h ⊢
    obtain ⟨a, xs, e, h1, h2, h3⟩ := h
    exact ⟨a, xs, e, ii _ _ h1, Reps.mono ii ds xs h2, h3⟩
  | .dk ks ws, v, h => by
    simp only [Rep] at h ⊢
    obtain ⟨a, xs, e, h1, h2, h3⟩ := h
    exact ⟨a, xs, e, ii _ _ h1, Reps.mono ii ws xs h2, h3⟩
  | .dt ks ws, v, h => by
    simp only [Rep] at h ⊢
    obtain ⟨a, xs, e, h1, h2, h3⟩ := h
    exact ⟨a, xs, e, ii _ _ h1, Reps.mono ii ws xs h2, h3⟩
  | .scr ns, v, h => by
    simp only [Rep] at h ⊢
    obtain ⟨a, e, h1, h2⟩ := h
    exact ⟨a, e, rd_mono ii h1, h2⟩
theorem Reps.mono (ii : ∀ b o, I b = some o → I' b = some o) : ∀ (ds : List D) (xs : List V), Reps K I ds xs → Reps K I' ds xs
  | [], xs, h => by simpa only [Reps] using h
  | d :: ds, xs, h => by
    simp only [Reps] at h ⊢
    obtain ⟨x, r, e, h1, h2⟩ := h
    exact ⟨x, r, e, Rep.mono ii d x h1, Reps.mono ii ds r h2⟩
end
theorem Reps.len : ∀ {ds : List D} {xs : List V}, Reps K I ds xs → xs.length = ds.length
  | [], xs, h => by
    simp only [Reps] at h
    rw [h]
    rfl
  | d :: ds, xs, h => by
    simp only [Reps] at h
    obtain ⟨x, r, e, h1, h2⟩ := h
    rw [e, List.length_cons, List.length_cons, Reps.len h2]
theorem Reps.get : ∀ {ds : List D} {xs : List V} {i : Nat} {d : D}, Reps K I ds xs → ds[i]? = some d → ∃ x, xs[i]? = some x ∧ Rep K I d x
  | [], _, _, _, _, h => by simp at h
  | d :: ds, xs, 0, d', h, e => by
    simp only [Reps] at h
    obtain ⟨x, r, rfl, h1, h2⟩ := h
    cases (Option.some.inj e : d = d')
    exact ⟨x, rfl, h1⟩
  | d :: ds, xs, i + 1, d', h, e => by
    simp only [Reps] at h
    obtain ⟨x, r, rfl, h1, h2⟩ := h
    exact Reps.get (i := i) h2 e
theorem Reps.app : ∀ {ds es : List D} {xs ys : List V}, Reps K I ds xs → Reps K I es ys → Reps K I (ds ++ es) (xs ++ ys)
  | [], _, xs, _, h, g => by
    simp only [Reps] at h
    subst h
    exact g
  | d :: ds, es, xs, ys, h, g => by
    simp only [Reps] at h
    obtain ⟨x, r, rfl, h1, h2⟩ := h
    show Reps K I (d :: (ds ++ es)) (x :: (r ++ ys))
    simp only [Reps]
    exact ⟨x, _, rfl, h1, Reps.app h2 g⟩
theorem Reps.cons {d : D} {ds : List D} {x : V} {xs : List V} (h : Rep K I d x) (g : Reps K I ds xs) : Reps K I (d :: ds) (x :: xs) := by
  simp only [Reps]
  exact ⟨x, xs, rfl, h, g⟩
theorem Reps.nil : Reps K I [] [] := by simp only [Reps]
theorem Reps.take : ∀ {ds : List D} {xs : List V} (n : Nat), Reps K I ds xs → Reps K I (ds.take n) (xs.take n)
  | _, _, 0, _ => by simp only [List.take_zero, Reps]
  | [], xs, n + 1, h => by
    simp only [Reps] at h
    subst h
    exact Reps.nil
  | d :: ds, xs, n + 1, h => by
    simp only [Reps] at h
    obtain ⟨x, r, rfl, h1, h2⟩ := h
    exact Reps.cons h1 (Reps.take n h2)
theorem Reps.drop : ∀ {ds : List D} {xs : List V} (n : Nat), Reps K I ds xs → Reps K I (ds.drop n) (xs.drop n)
  | _, _, 0, h => h
  | [], xs, n + 1, h => by
    simp only [Reps] at h
    subst h
    exact Reps.nil
  | d :: ds, xs, n + 1, h => by
    simp only [Reps] at h
    obtain ⟨x, r, rfl, h1, h2⟩ := h
    exact Reps.drop n h2
theorem Reps.cut {ds : List D} {xs : List V} (h : Reps K I ds xs) (lo hi : Option Int) : Reps K I (R.cut ds lo hi) (cutV xs lo hi) := by
  unfold R.cut cutV
  rw [h.len]
  exact (h.drop _).take _
theorem Reps.rev : ∀ {ds : List D} {xs : List V}, Reps K I ds xs → Reps K I ds.reverse xs.reverse
  | [], xs, h => by
    simp only [Reps] at h
    subst h
    exact Reps.nil
  | d :: ds, xs, h => by
    simp only [Reps] at h
    obtain ⟨x, r, rfl, h1, h2⟩ := h
    rw [List.reverse_cons, List.reverse_cons]
    exact (Reps.rev h2).app (Reps.cons h1 Reps.nil)
theorem Reps.set : ∀ {ds : List D} {xs : List V} {d : D} {x : V} (i : Nat), Reps K I ds xs → Rep K I d x → Reps K I (ds.set i d) (xs.set i x)
  | [], xs, d, x, i, h, _ => by
    simp only [Reps] at h
    subst h
    exact Reps.nil
  | e :: ds, xs, d, x, 0, h, g => by
    simp only [Reps] at h
    obtain ⟨y, r, rfl, h1, h2⟩ := h
    exact Reps.cons g h2
  | e :: ds, xs, d, x, i + 1, h, g => by
    simp only [Reps] at h
    obtain ⟨y, r, rfl, h1, h2⟩ := h
    exact Reps.cons h1 (Reps.set i h2 g)
theorem reps_ints : ∀ ns : List Int, Reps K I (ns.map .int) (ns.map V.int)
  | [] => Reps.nil
  | n :: ns => Reps.cons (by simp only [Rep]) (reps_ints ns)
theorem Reps.at {ds : List D} {xs : List V} {i : Int} {d : D} (h : Reps K I ds xs) (e : atI ds i = some d) : ∃ x, atI xs i = some x ∧ Rep K I d x := by
  unfold atI at e ⊢
  rw [h.len]
  cases q : ixN ds.length i with
  | none => rw [q] at e; cases e
  | some j =>
    rw [q] at e
    exact h.get e

/-- an object of one's own: tracked, not frozen -/
def OwnC (K : PySem.W.Frag) (I H : Hp) (p : Addr) : D → Prop
  | .lst ds => ∃ xs, H p = some (.lst xs) ∧ Reps K I ds xs ∧ ds.length ≤ LINE
  | .dk ks ws => ∃ xs, H p = some (.dK (ks.zip xs)) ∧ Reps K I ws xs ∧ ks.length = xs.length ∧ ks.length ≤ LINE ∧ ks.all okK = true
  | .dt ks ws => ∃ xs, H p = some (.dT (ks.zip xs)) ∧ Reps K I ws xs ∧ ks.length = xs.length ∧ ks.length ≤ LINE ∧ ks.all okKs = true
  | _ => False
def Own (K : PySem.W.Frag) (I H : Hp) (d : D) (v : V) : Prop := ∃ p, v = .ref p ∧ I p = none ∧ OwnC K I H p d
/-- what may be looked at -/
def See (K : PySem.W.Frag) (I H : Hp) (d : D) (v : V) : Prop := Rep K I d v ∨ Own K I H d v
def RK (K : PySem.W.Frag) (B : Addr → Prop) (Hs I H : Hp) : Kd → D → V → Prop
  | .fz, d, v => Rep K I d v
  | .ow, d, v => Own K I H d v ∧ ∃ p, v = .ref p ∧ Hs p = none
  | .bo, d, v => Own K I H d v ∧ ∃ p, v = .ref p ∧ ¬ B p
theorem RK.see {B : Addr → Prop} {Hs : Hp} {k : Kd} {d : D} {v : V} (h : RK K B Hs I H k d v) : See K I H d v := by
  cases k with
  | fz => exact .inl h
  | ow => exact .inr h.1
  | bo => exact .inr h.1
theorem OwnC.there {p : Addr} {d : D} (h : OwnC K I H p d) : ∃ o, H p = some o ∧ isTup o = false := by
  cases d with
  | lst _ => obtain ⟨xs, e, _⟩ := h; exact ⟨_, e, rfl⟩
  | dk _ _ => obtain ⟨xs, e, _⟩ := h; exact ⟨_, e, rfl⟩
  | dt _ _ => obtain ⟨xs, e, _⟩ := h; exact ⟨_, e, rfl⟩
  | _ => exact False.elim h
theorem OwnC.ext {p : Addr} {d : D} (h : OwnC K I H p d) (ii : ∀ b o, I b = some o → I' b = some o) (hp : ∀ o, H p = some o → H' p = some o) : OwnC K I' H' p d := by
  cases d with
  | lst _ => obtain ⟨xs, e, r, z⟩ := h; exact ⟨xs, hp _ e, r.mono ii _ _, z⟩
  | dk _ _ => obtain ⟨xs, e, r, z⟩ := h; exact ⟨xs, hp _ e, r.mono ii _ _, z⟩
  | dt _ _ => obtain ⟨xs, e, r, z⟩ := h; exact ⟨xs, hp _ e, r.mono ii _ _, z⟩
  | _ => exact False.elim h
theorem Own.ext {d : D} {v : V} (h : Own K I H d v) (e : Ext I H I' H') : Own K I' H' d v := by
  obtain ⟨p, rfl, hp, c⟩ := h
  obtain ⟨o, ho, n⟩ := c.there
  exact ⟨p, rfl, (e.fr p o ho n).trans hp, c.ext e.ii fun u q => e.hh p u q⟩
theorem See.ext {d : D} {v : V} (h : See K I H d v) (e : Ext I H I' H') : See K I' H' d v := by
  rcases h with h | h
  · exact .inl (h.mono e.ii _ _)
  · exact .inr (h.ext e)
theorem RK.ext {B : Addr → Prop} {Hs : Hp} {k : Kd} {d : D} {v : V} (h : RK K B Hs I H k d v) (e : Ext I H I' H') : RK K B Hs I' H' k d v := by
  cases k with
  | fz => exact Rep.mono e.ii _ _ h
  | ow => exact ⟨h.1.ext e, h.2⟩
  | bo => exact ⟨h.1.ext e, h.2⟩
/-- frozen: what was of one's own -/
theorem OwnC.rep {p : Addr} {d : D} {o : HO} (h : OwnC K I H p d) (ho : H p = some o) (hi : I p = none) : Rep K (upd I p o) d (.ref p) := by
  have ii : ∀ b u, I b = some u → upd I p o b = some u := fun b u q => by
    rw [upd_ne (ne_of_none q hi)]
    exact q
  cases d with
  | lst _ =>
    obtain ⟨xs, e, r, z⟩ := h
    rw [e] at ho
    cases ho
    simp only [Rep]
    exact ⟨p, xs, rfl, upd_same, r.mono ii _ _, z⟩
  | dk _ _ =>
    obtain ⟨xs, e, r, z⟩ := h
    rw [e] at ho
    cases ho
    simp only [Rep]
    exact ⟨p, xs, rfl, upd_same, r.mono ii _ _, z⟩
  | dt _ _ =>
    obtain ⟨xs, e, r, z⟩ := h
    rw [e] at ho
    cases ho
    simp only [Rep]
    exact ⟨p, xs, rfl, upd_same, r.mono ii _ _, z⟩
  | _ => exact False.elim h

/-- the slots -/
structure SR (K : PySem.W.Frag) (B : Addr → Prop) (I H : Hp) (σ : List (Option V)) (ρ : List (Option (Kd × D))) : Prop where
  len : σ.length = ρ.length
  fz : ∀ (i : Nat) (d : D), ρ[i]? = some (some (Kd.fz, d)) → ∃ v, σ[i]? = some (some v) ∧ Rep K I d v
  ow : ∀ (i : Nat) (d : D), ρ[i]? = some (some (Kd.ow, d)) → ∃ p, σ[i]? = some (some (V.ref p)) ∧ I p = none ∧ OwnC K I H p d ∧ ¬ B p
  bo : ∀ (i : Nat) (d : D), ρ[i]? ≠ some (some (Kd.bo, d))
  ne : ∀ (i j : Nat) (d e : D) (p : Addr), i ≠ j → ρ[i]? = some (some (Kd.ow, d)) → ρ[j]? = some (some (Kd.ow, e)) → σ[i]? = some (some (V.ref p)) → σ[j]? ≠ some (some (V.ref p))
/-- a state -/
structure Sta (K : PySem.W.Frag) (B : Addr → Prop) (I H : Hp) (σ : List (Option V)) (ρ : List (Option (Kd × D))) : Prop where
  su : Sub I H
  ba : ∀ b, B b → ∃ o, H b = some o
  sl : SR K B I H σ ρ
theorem Sta.ext {B : Addr → Prop} {σ : L2.St} {ρ : Env} (s : Sta K B I H σ ρ) (e : Ext I H I' H') : Sta K B I' H' σ ρ := by
  refine ⟨e.su, fun b hb => ?_, s.sl.len, fun i d h => ?_, fun i d h => ?_, s.sl.bo, s.sl.ne⟩
  · obtain ⟨o, q⟩ := s.ba b hb
    exact ⟨o, e.hh b o q⟩
  · obtain ⟨v, h1, h2⟩ := s.sl.fz i d h
    exact ⟨v, h1, h2.mono e.ii _ _⟩
  · obtain ⟨p, h1, h2, h3, h4⟩ := s.sl.ow i d h
    obtain ⟨o, q, n⟩ := h3.there
    exact ⟨p, h1, (e.fr p o q n).trans h2, h3.ext e.ii fun u z => e.hh p u z, h4⟩

/-- what a list's looking at gives -/
theorem See.lst {ds : List D} {v : V} (h : See K I H (.lst ds) v) (s : Sub I H) : ∃ a xs, v = .ref a ∧ H a = some (.lst xs) ∧ Reps K I ds xs ∧ ds.length ≤ LINE := by
  rcases h with h | ⟨p, rfl, hp, xs, e, r, z⟩
  · simp only [Rep] at h
    obtain ⟨a, xs, e, h1, h2, h3⟩ := h
    rcases s a _ h1 with q | ⟨q, _⟩
    · exact ⟨a, xs, e, q, h2, h3⟩
    · cases q
  · exact ⟨p, xs, rfl, e, r, z⟩
theorem See.tup {ds : List D} {v : V} (h : See K I H (.tup ds) v) (s : Sub I H) : ∃ a xs, v = .ref a ∧ H a = some (.tup xs) ∧ I a = some (.tup xs) ∧ Reps K I ds xs ∧ ds.length ≤ LINE := by
  rcases h with h | ⟨p, rfl, hp, c⟩
  · simp only [Rep] at h
    obtain ⟨a, xs, e, h1, h2, h3⟩ := h
    rcases s a _ h1 with q | ⟨q, _⟩
    · exact ⟨a, xs, e, q, h1, h2, h3⟩
    · cases q
  · exact False.elim c
theorem sql_sub {a : Addr} {xs : List V} (s : Sub I H) (h : SqL K I a xs) : SqL K H a xs := by
  rcases h with (h | ⟨o, h⟩) | h
  · rcases s a _ h with q | ⟨q, _⟩
    · exact .inl (.inl q)
    · cases q
  · rcases s a _ h with q | ⟨q, _⟩
    · exact .inl (.inr ⟨o, q⟩)
    · cases q
  · exact .inr h
theorem See.scr {ns : List Int} {v : V} (h : See K I H (.scr ns) v) (s : Sub I H) : ∃ a, v = .ref a ∧ SqL K H a (ns.map V.int) ∧ ns.length ≤ LINE := by
  rcases h with h | ⟨p, rfl, hp, c⟩
  · simp only [Rep] at h
    obtain ⟨a, e, h1, h2⟩ := h
    exact ⟨a, e, sql_sub s h1, h2⟩
  · exact False.elim c
theorem See.dk {ks : List Key} {ws : List D} {v : V} (h : See K I H (.dk ks ws) v) (s : Sub I H) : ∃ a xs, v = .ref a ∧ Rd H a (.dK (ks.zip xs)) ∧ Reps K I ws xs ∧ ks.length = xs.length ∧ ks.length ≤ LINE ∧ ks.all okK = true := by
  rcases h with h | ⟨p, rfl, hp, xs, e, r, z⟩
  · simp only [Rep] at h
    obtain ⟨a, xs, e, h1, h2, h3⟩ := h
    rcases s a _ h1 with q | ⟨_, od, q⟩
    · exact ⟨a, xs, e, .inl q, h2, h3⟩
    · exact ⟨a, xs, e, .inr ⟨od, q⟩, h2, h3⟩
  · exact ⟨p, xs, rfl, .inl e, r, z⟩
theorem See.dt {ks : List (List Key)} {ws : List D} {v : V} (h : See K I H (.dt ks ws) v) (s : Sub I H) : ∃ a xs, v = .ref a ∧ Rd H a (.dT (ks.zip xs)) ∧ Reps K I ws xs ∧ ks.length = xs.length ∧ ks.length ≤ LINE ∧ ks.all okKs = true := by
  rcases h with h | ⟨p, rfl, hp, xs, e, r, z⟩
  · simp only [Rep] at h
    obtain ⟨a, xs, e, h1, h2, h3⟩ := h
    rcases s a _ h1 with q | ⟨_, od, q⟩
    · exact ⟨a, xs, e, .inl q, h2, h3⟩
    · exact ⟨a, xs, e, .inr ⟨od, q⟩, h2, h3⟩
  · exact ⟨p, xs, rfl, .inl e, r, z⟩
theorem See.int {i : Int} {v : V} (h : See K I H (.int i) v) : v = .int i := by
  rcases h with h | ⟨p, _, _, c⟩
  · simpa only [Rep] using h
  · exact False.elim c
theorem See.bl {i : Bool} {v : V} (h : See K I H (.bl i) v) : v = .bl i := by
  rcases h with h | ⟨p, _, _, c⟩
  · simpa only [Rep] using h
  · exact False.elim c
theorem See.non {v : V} (h : See K I H .non v) : v = .non := by
  rcases h with h | ⟨p, _, _, c⟩
  · simpa only [Rep] using h
  · exact False.elim c
theorem See.str {x : Str} {v : V} (h : See K I H (.str x) v) : v = .str x ∧ x.length ≤ LINE ∧ PyData.strOk x = true := by
  rcases h with h | ⟨p, _, _, c⟩
  · simpa only [Rep] using h
  · exact False.elim c
theorem rep_int {i : Int} : Rep K I (.int i) (.int i) := by simp only [Rep]
theorem rep_bl {i : Bool} : Rep K I (.bl i) (.bl i) := by simp only [Rep]
theorem rep_non : Rep K I .non .non := by simp only [Rep]
end
end R

set_option linter.all false
set_option maxRecDepth 100000
/-! enumerate over a tuple. -/
namespace PySem
open Sem (wp)
open AutoSeq1 (wpAny_loadPart')
theorem meets_enumT (l : Addr) (items : Array Value) (n : Nat) (dct : Option Addr) (sl : Array (Option Value)) :
    Meets (Builtin.«enumerate.__new__» ⟨[.type "enumerate", .ref l], []⟩) (fun _ R s => s.heap.get? l = some { cls := .type "tuple", dict := dct, data := .seq items n, slots := sl } ∧
      R (.ok (.ret (.ref (s.heap.push { cls := .type "tuple_iterator", data := .fields #[.ref l, .int 0 0] }).objs.size)))
        { s with heap := (s.heap.push { cls := .type "tuple_iterator", data := .fields #[.ref l, .int 0 0] }).push { cls := .type "enumerate", data := .fields #[.none, .bool false, .ref s.heap.objs.size, rawInt 0, .none, .none] } }) :=
  .of_wp fun prog w A R s h => by
    obtain ⟨hp, g, d, tk, os⟩ := s
    obtain ⟨hl, h⟩ := h
    have isub := sub_enumerate
    have hL : Heap.IsTuple (Shared.heap ⟨hp, g, d, tk, os⟩) l items := ⟨_, hl, rfl, n, rfl⟩
    wp_walk using AutoSeq1.wpAny_loadPart' hl
    refine wpAny_stack_any fun st => wpAny_pure ?_
    split
    · rename_i c _ _ _ _ _
      cases (c == Value.type "enumerate")
      · wp_walk using AutoSeq1.wpAny_loadPart' hl, wpAny_pyIter_tuple hL
        exact ⟨_, rfl, h⟩
      · wp_walk using AutoSeq1.wpAny_loadPart' hl, wpAny_pyIter_tuple hL
        exact ⟨_, rfl, h⟩
    · wp_walk using AutoSeq1.wpAny_loadPart' hl, wpAny_pyIter_tuple hL
      exact ⟨_, rfl, h⟩
theorem wpAny_pyNext_enum_endT {prog : Program} {w : World} {A : Around} {E : Value → Shared → Prop} {s : Shared} {e it t : Addr} {items : Array Value} {j : Nat} {i : Int} {old : Value} {Q : Option Value → Shared → Prop}
    (hh : A.handled = none) (he : IsEnum s.heap e it i old) (hit : s.heap.IsTupleIter it t j) (ht : s.heap.IsTuple t items) (hx : items[j]? = none)
    (hQ : ∀ h', Heap.ExtBut it s.heap h' → Q none { s with heap := h' }) : wpAny (model prog w) A (pyNext (.ref e)) Q E s := by
  have hT : s.TypeIs (.ref e) "enumerate" := ⟨_, he, rfl⟩
  unfold pyNext
  refine wpAny_bind (wpAny_attempt (wpAny_callSpecial?_slot (name := Str.ofString "__next__") hT F.slot_enumerate_next
    (wpAny_call_entry F.slot_enumerate_next hT F.entry_enumerate_next ?_ (F.args_enumerate_next_1 _))))
  show wpAny _ _ (field (.ref e) 2 >>= _) _ _ _
  refine wpAny_bind (wpAny_field he rfl (x := .ref it) rfl ?_)
  refine wpAny_bind (wpAny_nextOf_tuple_end (A := A.in1) hh hit ht hx fun h' x he' hx' => ?_)
  obtain ⟨o, ho, hc⟩ := hx'
  refine wpAny_bind (wpAny_isInstance (T := "StopIteration") (b := true) ⟨o, ho, hc⟩ isSubtype_stop ?_)
  exact wpAny_pure (hQ _ he')
theorem call_enumT {prog : Program} {w : World} {A : Around} {E : Value → Shared → Prop} {s : Shared} {l : Addr} {items : Array Value} {Q : Value → Shared → Prop} (hL : s.heap.IsTuple l items)
    (h : ∀ h', IsEnum h' (s.heap.objs.size + 1) s.heap.objs.size 0 .none → h'.IsTupleIter s.heap.objs.size l 0 → h'.objs.size = s.heap.objs.size + 2 →
      (∀ b o, s.heap.get? b = some o → h'.get? b = some o) → Q (.ref (s.heap.objs.size + 1)) { s with heap := h' }) :
    wpAny (model prog w) A (call (.type "enumerate") [.ref l]) Q E s := by
  obtain ⟨⟨c, dct, dt, sl⟩, hl, hc, n, hd⟩ := hL
  replace hc : c = .type "tuple" := hc
  replace hd : dt = .seq items n := hd
  subst hc hd
  refine callType_new F.called_enumerate (by decide) (F.typeCall_enumerate_1 _) (F.newCall_enumerate_1 _) (fun obj => F.args_object_init_2 obj _) F.entry_enumerate_new
    (meets_enumT l items n dct sl) ⟨hl, ?_⟩
  generalize hi : ({ cls := .type "tuple_iterator", data := .fields #[.ref l, .int 0 0] } : Obj) = io
  generalize ho : ({ cls := .type "enumerate", data := .fields #[.none, .bool false, .ref s.heap.objs.size, rawInt 0, .none, .none] } : Obj) = eo
  have fi : io.isFreed = false := by rw [← hi]; rfl
  have fo : eo.isFreed = false := by rw [← ho]; rfl
  have hz : (s.heap.push io).objs.size = s.heap.objs.size + 1 := Heap.size_push ..
  show _ ∧ _
  rw [hz]
  have he : ((s.heap.push io).push eo).get? (s.heap.objs.size + 1) = some eo := by
    have := Heap.get?_push_size (s.heap.push io) (o := eo) fo
    rw [hz] at this
    exact this
  have k : ∀ b o, s.heap.get? b = some o → ((s.heap.push io).push eo).get? b = some o := fun b o x => Heap.get?_push_of_some _ (Heap.get?_push_of_some _ x)
  have q := h ((s.heap.push io).push eo) (by rw [← ho] at he ⊢; exact he) ⟨io, Heap.get?_push_of_some _ (Heap.get?_push_size _ fi), by rw [← hi], by rw [← hi]; rfl⟩ (by rw [Heap.size_push, hz]) k
  exact ⟨⟨eo, he, by rw [← ho]⟩, q⟩
end PySem
namespace R
open PySem PySem.Spec PyProof.Rows L2
/-- the items of the tuple at a, each in a new pair -/
def IteT (K : PySem.W.Frag) (a : Addr) : It :=
  ⟨fun i H => ∃ (xs : List V) (x : V), SqT K H a xs ∧ xs[i]? = some x, fun i H v H' => ∃ T x, v = .ref T ∧ H T = none ∧ H' = upd H T (.tup [.int (i : Nat), x]) ∧ ∀ xs, SqT K H a xs → xs[i]? = some x, fun i H => ∃ xs : List V, SqT K H a xs ∧ xs.length ≤ i⟩
theorem turn_enumT {P : Program} {w : World} {K : PySem.W.Frag} {elts : List Expr} {kk : Nat} {tpos : Pos} (a e it : Addr) :
    Turn P w K (.Tuple elts kk tpos) (IteT K a) [e, it] e (fun i h => ((∃ old, IsEnum h e it ((i : Nat) : Int) old) ∧ h.IsTupleIter it a i ∧ e ≠ it ∧ a ≠ it) ∧ e ≠ a) where
  mem := by simp
  obj := fun i h st b hb => by
    obtain ⟨⟨⟨old, he⟩, ⟨o, ho, hc, hd⟩, _⟩, _⟩ := st
    have e' : b = e ∨ b = it := by simpa using hb
    rcases e' with z | z
    · rw [z]; exact ⟨_, he, fun v q => nomatch q⟩
    · rw [z]; exact ⟨o, ho, fun v q => by rw [hd] at q; cases q⟩
  keep := fun i h h' st k => by
    obtain ⟨⟨⟨old, he⟩, hi, n1, n2⟩, n3⟩ := st
    exact ⟨⟨⟨old, k e (by simp) _ he⟩, hi.at fun o q => k it (by simp) o q, n1, n2⟩, n3⟩
  item := by
    intro X hP hw hK hc i pins s σ H E I hf st hg
    subst hP hw hK
    obtain ⟨⟨⟨old, he⟩, hit, hne, hna⟩, hea⟩ := st
    obtain ⟨xs, x, hq, hx⟩ := hg
    obtain ⟨its, rv, p, hz⟩ := I.tuple hq
    obtain ⟨u, hu, ru⟩ := rv.get hx
    have hel : e < s.heap.objs.size := Heap.lt_size he
    have hil : it < s.heap.objs.size := by obtain ⟨_, q, _⟩ := hit; exact Heap.lt_size q
    have D := Draws.tuple (prog := X.prog) (w := X.w) (A := X.A.in1) (show X.A.in1.handled = none from I.ok.hd hc) it a hna its.toArray
    have lt : i < its.toArray.size := by
      have := (List.getElem?_eq_some_iff.mp hu).1
      simpa using this
    refine wpAny_pyNext_enum_itemC D he ⟨hit, p⟩ lt hne (by simp; exact ⟨hne, hea⟩) fun u' h' tk hu' ho hst hT hsz hk => ?_
    have : u' = u := by
      have z : its.toArray[i]? = some u := by simpa using hu
      rw [z] at hu'
      exact (Option.some.inj hu').symm
    subst this
    refine ⟨_, rfl, wpAny_letOwnedTupleGo_enum (s := { s with heap := h', toks := tk + 1 }) ho fun h'' he' sb => ?_⟩
    have hT2 : h''.get? s.heap.objs.size = some { cls := .type "tuple", data := .seq #[.int i tk, u'] } := (sb.2 _ (Nat.ne_of_gt hel)).trans hT
    have new : ObjOk X.prog X.w (upd H s.heap.objs.size (.tup [.int (i : Nat), x])) h'' s.heap.objs.size (.tup [.int (i : Nat), x]) :=
      ⟨by show 2 ≤ sizeLine; decide, [.int i tk, u'], .cons ⟨_, rfl⟩ (.cons ru .nil), ⟨_, hT2, rfl, _, rfl⟩⟩
    have I1 : Inv X pins σ (upd H s.heap.objs.size (.tup [.int (i : Nat), x])) { s with heap := h'', toks := tk + 1 } :=
      I.turnedNew (ch := [e, it]) (fun b ob hb q => (sb.2 b (fun z => hb (by simp [z]))).trans (hk b ob (fun z => hb (by simp [z])) (fun z => hb (by simp [z])) q)) hf (Nat.le_refl _) new
    refine ⟨.ref s.heap.objs.size, _, I1, rfl, ⟨_, x, rfl, I.hok.fresh (Nat.le_refl _), rfl, fun ys hy => by rw [I.tuple_inj hy hq]; exact hx⟩, ⟨⟨⟨u', ?_⟩, hst.1.at fun o q => (sb.2 it (Ne.symm hne)).trans q, hne, hna⟩, hea⟩, fun b hb => ?_⟩
    · have e1 : ((i + 1 : Nat) : Int) = (i : Int) + 1 := by omega
      rw [e1]; exact he'
    · have hb' : b < s.heap.objs.size := by
        have e' : b = e ∨ b = it := by simpa using hb
        rcases e' with z | z
        · rw [z]; exact hel
        · rw [z]; exact hil
      rw [upd_ne (Nat.ne_of_lt hb')]
      exact (hf b hb).1
  done := by
    intro X hP hw hK hc i pins s σ H E I hf st hg
    subst hP hw hK
    obtain ⟨⟨⟨old, he⟩, hit, hne, hna⟩, hea⟩ := st
    obtain ⟨xs, hq, hx⟩ := hg
    obtain ⟨its, rv, p, hz⟩ := I.tuple hq
    obtain ⟨f0, f1, f2, f3, f4, f5⟩ := hf it (by simp)
    have hl := rv.length
    exact wpAny_pyNext_enum_endT (I.ok.hd hc) he hit p (by simp; omega) fun h' eb => ⟨rfl, I.turned (t' := s.toks) (fun b o hb q => eb b o hb q) f0 f1 f3 f4 f5⟩
  self := fun A i s Q E st h => by
    obtain ⟨⟨⟨_, he⟩, _⟩, _⟩ := st
    exact wpAny_pyIter_enum he h
def iEnumT (K : PySem.W.Frag) (ta : TA) : TI := fun σ H R => ta σ H fun vs H1 => ∃ a xs, vs = [.ref a] ∧ SqT K H1 a xs ∧ R (IteT K a) H1
theorem pi_enumT {X : Cx} {e : Expr} {ta : TA} {p pos tpos : Pos} {elts : List Expr} {kk : Nat} (hg : Gl X "enumerate") (hm : X.mg "enumerate" = none) (ha : PA X [e] ta) (hs : starEach [e] X.env = [(false, eval e X.env)] := by rfl) :
    PI X (.Tuple elts kk tpos) (.Call (.Name "enumerate" p) [e] [] pos) (iEnumT X.K ta) := by
  refine ⟨fun pins s σ H R I h => ?_⟩
  refine Call_ (ld_blt I hg hm boot_enumerate (PyProof.Rows.callWith_type1 (thn (ha.run pos pins s σ H _ I h) fun us s1 ⟨vs, H1, I1, r1, q1⟩ => ?_) hs rfl))
  obtain ⟨a, xs, ex, hq, q⟩ := q1
  subst ex
  cases r1 with
  | cons r rr =>
    cases rr
    cases r
    obtain ⟨its, rv, p', hz⟩ := I1.tuple hq
    have hal : a < s1.heap.objs.size := by obtain ⟨_, q, _⟩ := p'; exact Heap.lt_size q
    refine call_enumT p' fun h' he hit hsz hk => wpAny_pyIter_enum he ?_
    have I2 : Inv X pins σ H1 { s1 with heap := h' } := I1.kept (t' := s1.toks) hk
    refine ⟨s1.heap.objs.size + 1, [s1.heap.objs.size + 1, s1.heap.objs.size], _, _, H1, rfl, I2, turn_enumT a (s1.heap.objs.size + 1) s1.heap.objs.size, ⟨⟨⟨.none, he⟩, hit, Nat.succ_ne_self _, Nat.ne_of_lt hal⟩, ?_⟩, fun b hb => ?_, q⟩
    · intro z
      rw [← z] at hal
      exact Nat.not_succ_lt_self hal
    have e' : b = s1.heap.objs.size + 1 ∨ b = s1.heap.objs.size := by simpa using hb
    have hle : s1.heap.objs.size ≤ b := by
      rcases e' with z | z
      · rw [z]; exact Nat.le_add_right _ _
      · rw [z]; exact Nat.le_refl _
    exact I1.fpOk hle (I1.hok.fresh hle)
end R

set_option linter.all false
set_option maxRecDepth 100000
set_option maxHeartbeats 4000000
/-! tuple * int, any int. -/
namespace L2
open PySem PySem.Spec PyProof.Rows
theorem tuple_mul0 (l : Addr) (items : Array Value) (n : Nat) (dd : Option Addr) (sl : Array (Option Value)) (x : Int) (u : Tok) (c0 : (decide (x < -(2 ^ 63)) || decide (x ≥ 2 ^ 63)) = false) (c1 : (items.isEmpty || x == 1) = false) (c2 : (decide (x ≤ 0) || items.isEmpty) = true) :
    Meets (Builtin.«tuple.__mul__» ⟨[.ref l, .int x u], []⟩) (fun _ R s => s.heap.get? l = some { cls := .type "tuple", dict := dd, data := .seq items n, slots := sl } ∧
      R (.ok (.ret (Value.ref s.heap.objs.size))) { s with heap := s.heap.push { cls := Value.type "tuple", data := Data.seq #[] }, toks := s.toks }) :=
  .of_wp fun prog w A R s h => by
    obtain ⟨hp, g, d, tk, os⟩ := s
    obtain ⟨hl, h⟩ := h
    have f1 := AutoSeq1.idx_int
    wp_walk using wpAny_loadPart' hl
    repeat (first
      | (refine wpAny_ite_false (decide_eq_false (by rw [c0]; exact Bool.false_ne_true)) ?_; wp_walk using wpAny_loadPart' hl)
      | (refine wpAny_ite_false (decide_eq_false (by rw [c1]; exact Bool.false_ne_true)) ?_; wp_walk using wpAny_loadPart' hl)
      | (refine wpAny_ite_true (decide_eq_true (by rw [c2])) ?_; wp_walk using wpAny_loadPart' hl))
    exact ⟨_, rfl, h⟩
theorem tuple_mul1 (l : Addr) (items : Array Value) (n : Nat) (dd : Option Addr) (sl : Array (Option Value)) (x : Int) (u : Tok) (c0 : (decide (x < -(2 ^ 63)) || decide (x ≥ 2 ^ 63)) = false) (c1 : (items.isEmpty || x == 1) = true) :
    Meets (Builtin.«tuple.__mul__» ⟨[.ref l, .int x u], []⟩) (fun _ R s => s.heap.get? l = some { cls := .type "tuple", dict := dd, data := .seq items n, slots := sl } ∧
      R (.ok (.ret (Value.ref l))) s) :=
  .of_wp fun prog w A R s h => by
    obtain ⟨hp, g, d, tk, os⟩ := s
    obtain ⟨hl, h⟩ := h
    have f1 := AutoSeq1.idx_int
    wp_walk using wpAny_loadPart' hl
    repeat (first
      | (refine wpAny_ite_false (decide_eq_false (by rw [c0]; exact Bool.false_ne_true)) ?_; wp_walk using wpAny_loadPart' hl)
      | (refine wpAny_ite_true (decide_eq_true (by rw [c1])) ?_; wp_walk using wpAny_loadPart' hl))
    exact ⟨_, rfl, h⟩
def rMulT (K : PySem.W.Frag) : R2 := fun x y H Q => ∃ l k xs, x = .ref l ∧ y = .int k ∧ SqT K H l xs ∧ xs ≠ [] ∧ -1000 ≤ k ∧ k ≤ 1000 ∧ xs.length ≤ 1000 ∧ (k = 1 → Q (.ref l) H) ∧ (k ≠ 1 → ∀ p, H p = none → Q (.ref p) (upd H p (.tup (List.replicate k.toNat xs).flatten)))
section
variable {X : Cx}
theorem op_mulT : OpR X (binaryOp .Mult) (rMulT X.K) := by
  intro pins s σ H x y v u Q I rx ry h
  obtain ⟨l, k, xs, rfl, rfl, hT, hne, h1, h2, hz, q1, q2⟩ := h
  rcases Int.lt_or_le 1 k with hk | hk
  · exact op_repT pins s σ H (.ref l) (.int k) v u Q I rx ry ⟨l, k, xs, rfl, rfl, hT, hne, by omega, h2, hz, q2 (by omega)⟩
  cases rx
  obtain ⟨t, rfl⟩ := ry
  obtain ⟨its, r, ⟨⟨cls, dd, data, sl⟩, ho, hc, n, hd⟩, hs⟩ := I.tuple hT
  simp only at hc hd
  subst hc hd
  have hle : its.length = xs.length := r.length.symm
  have hn : its ≠ [] := fun e => hne (by
    rw [e] at hle
    exact List.eq_nil_of_length_eq_zero hle.symm)
  have hi : its.toArray.isEmpty = false := by
    cases its with
    | nil => exact absurd rfl hn
    | cons a b => rfl
  have c0 : (decide (k < -(2 ^ 63)) || decide (k ≥ 2 ^ 63)) = false := by
    rw [decide_eq_false (by omega), decide_eq_false (by omega)] <;> rfl
  by_cases k1 : k = 1
  · have c1 : (its.toArray.isEmpty || k == 1) = true := by
      rw [k1, Bool.or_eq_true]
      exact .inr rfl
    refine wpAny_binaryOp_repeat_ref (T := "tuple") (U := "int") (by decide) ⟨_, ho, rfl⟩ (fun s' => typeIs_int s' k t) noFill_tuple_mul F.fills_int_mul F.slot_int_rmul repeat_tuple F.slot_int_index.lookup
      (call_meets F.slot_int_rmul (typeIs_int s k t) F.entry_int_rmul (F.args_int_rmul_2 _ _) (int_rmul_tuple k t l its.toArray n dd sl)
        ⟨ho, rfl, ⟨_, ho, rfl⟩, call_meets F.slot_tuple_mul ⟨_, ho, rfl⟩ F.entry_tuple_mul (F.args_tuple_mul_2 _ _) (tuple_mul1 l its.toArray n dd sl k t c0 c1) ⟨ho, ?_⟩⟩)
    exact ⟨.ref l, H, I, rfl, q1 k1⟩
  · have c1 : (its.toArray.isEmpty || k == 1) = false := by
      rw [hi, Bool.false_or]
      exact beq_eq_false_iff_ne.mpr k1
    have c2 : (decide (k ≤ 0) || its.toArray.isEmpty) = true := by
      rw [decide_eq_true (by omega)]
      rfl
    refine wpAny_binaryOp_repeat_ref (T := "tuple") (U := "int") (by decide) ⟨_, ho, rfl⟩ (fun s' => typeIs_int s' k t) noFill_tuple_mul F.fills_int_mul F.slot_int_rmul repeat_tuple F.slot_int_index.lookup
      (call_meets F.slot_int_rmul (typeIs_int s k t) F.entry_int_rmul (F.args_int_rmul_2 _ _) (int_rmul_tuple k t l its.toArray n dd sl)
        ⟨ho, rfl, ⟨_, ho, rfl⟩, call_meets F.slot_tuple_mul ⟨_, ho, rfl⟩ F.entry_tuple_mul (F.args_tuple_mul_2 _ _) (tuple_mul0 l its.toArray n dd sl k t c0 c1 c2) ⟨ho, ?_⟩⟩)
    have e0 : (List.replicate k.toNat xs).flatten = [] := by
      rw [show k.toNat = 0 by omega]
      rfl
    rw [e0] at q2
    refine ⟨.ref s.heap.objs.size, _, I.laid (t' := s.toks) (o := .tup []) (fun b ob q => Heap.get?_push_of_some _ q) (Nat.le_refl _) ?_, rfl, q2 k1 _ (I.hok.fresh (Nat.le_refl _))⟩
    exact ⟨by show 0 ≤ sizeLine; exact Nat.zero_le _, [], .nil, IsTup.new _ _⟩
end
/-! ### max(xs, default=d) -/
theorem reads_ints {h : Heap} : ∀ {ns : List Int} {us : List Value}, Vals (ns.map V.int) us → ∃ as, ReadsAll h us (ns.map PyData.int) as
  | [], _, .nil => ⟨_, .nil⟩
  | n :: ns, _, .cons r t => by
    obtain ⟨u, rfl⟩ := r
    obtain ⟨as, h2⟩ := reads_ints t
    exact ⟨_, .cons (.int n u) h2⟩
theorem alike_ints (ns : List Int) : PySem.W.AlikeAll (ns.map PyData.int) := by
  refine ⟨fun x hx y hy => ?_, fun x hx => ?_⟩
  · obtain ⟨i, _, rfl⟩ := List.mem_map.mp hx
    obtain ⟨j, _, rfl⟩ := List.mem_map.mp hy
    simp [PySem.W.alike]
  · obtain ⟨i, _, rfl⟩ := List.mem_map.mp hx
    exact fun e => by cases e
theorem depth_ints : ∀ ns : List Int, PyData.depthAll (ns.map PyData.int) = 0
  | [] => by simp [PyData.depthAll]
  | n :: ns => by
    rw [List.map_cons, PyData.depthAll, depth_ints ns]
    simp [PyData.depth]
def rMaxDef (K : PySem.W.Frag) : List V → List V → Hp → VK → Prop := fun vs zs H Q => ∃ (a : Addr) (ns : List Int) (d : Int), vs = [V.ref a] ∧ zs = [.int d] ∧ SqL K H a (ns.map V.int) ∧ Q (.int (R.maxDI d ns)) H
theorem cr_maxDef {X : Cx} (hc : X.calm = true) (hu : X.A.units + 65 < cLine) : CallRK X (.builtin "max") [Str.ofString "default"] (rMaxDef X.K) := by
  intro pins s σ H vs zs us ws Q I r rz h
  obtain ⟨a, ns, d, rfl, rfl, hs, q⟩ := h
  obtain rfl := Vals.ref1 r
  obtain ⟨w1, rfl, e1⟩ := vals1 rz
  obtain ⟨t, rfl⟩ := e1
  obtain ⟨its, rv, p, hz⟩ := I.list hs
  obtain ⟨as, hr⟩ := reads_ints (h := s.heap) rv
  have hv : its.toArray.toList = its := by simp
  refine PySem.W.max_list_default (I.ok.hd hc) p.isList (by rw [hv]; exact hr) (alike_ints ns) (by rw [depth_ints]; omega) (fun e h' tk k => ?_) fun y ys i v h' tk bs e hi rd k => ?_
  · have : ns = [] := by
      cases ns with
      | nil => rfl
      | cons _ _ => cases e
    subst this
    exact ⟨.int d, H, I.kept (t' := tk) k, ⟨t, rfl⟩, q⟩
  · cases ns with
    | nil => cases e
    | cons n ns =>
      rw [List.map_cons] at e
      obtain ⟨rfl, rfl⟩ := List.cons.inj e
      rw [PySem.W.maxD_ints] at rd
      cases rd with
      | int i t2 => exact ⟨.int _, H, I.kept (t' := tk) k, ⟨t2, rfl⟩, q⟩
end L2

set_option linter.all false
/-! The readings of the terms, and that they are met by what the terms compute: expressions. -/
namespace R
open PySem L2

def vOf : D → V
  | .int i => .int i
  | .str x => .str x
  | .bl b => .bl b
  | _ => .non
/-! ### readings by values -/
section
variable (K : PySem.W.Frag)
def rAddS : R2 := fun x y H Q => ∃ i j, x = .str i ∧ y = .str j ∧ i.length + j.length ≤ sizeLine ∧ Q (.str (i ++ j)) H
def rBin : BOp → R2
  | .add => fun x y H Q => rI0 (fun i j => .int (i + j)) x y H Q ∨ (rAddS x y H Q ∨ (rCat x y H Q ∨ rCatA K x y H Q))
  | .sub => rI0 fun i j => .int (i - j)
  | .mul => fun x y H Q => rI CMul (fun i j => .int (i * j)) x y H Q ∨ (rRep x y H Q ∨ rMulT K x y H Q)
  | .fdiv => rI CDivN fun i j => .int (i.fdiv j)
  | .mod => rI (fun _ j => j ≠ 0) fun i j => .int (i.fmod j)
  | .pow => rI CPow fun i j => .int (i ^ j.toNat)
def rSign (neg : Bool) : R2 := fun x y H Q => ∃ (c : Nat) (z : Str), x = .str ⟨#[c]⟩ ∧ y = .str z ∧ Q (.bl (if neg then !decide (c ∈ z.cps.toList) else decide (c ∈ z.cps.toList))) H
def rCmp : COp → R2
  | .eq => rEqD K
  | .ne => rNeD K
  | .lt => rI0 fun i j => .bl (decide (i < j))
  | .le => rI0 fun i j => .bl (decide (i ≤ j))
  | .gt => rI0 fun i j => .bl (decide (j < i))
  | .ge => rI0 fun i j => .bl (decide (j ≤ i))
  | .is => fun x y H Q => y = .non ∧ Q (.bl (decide (x = .non))) H
  | .isnt => fun x y H Q => y = .non ∧ Q (.bl (!decide (x = .non))) H
  | .isin => fun x y H Q => rInD K x y H Q ∨ (rIn K false x y H Q ∨ rSign false x y H Q)
  | .notin => fun x y H Q => rNotInD K x y H Q ∨ (rIn K true x y H Q ∨ rSign true x y H Q)
def rdCmp (op : COp) (ta tb : TE) : TE := match op with
  | .isin => fun σ H Q => tOp (rCmp K .isin) ta tb σ H Q ∨ tDIn ta tb σ H Q
  | .notin => fun σ H Q => tOp (rCmp K .notin) ta tb σ H Q ∨ tDNotIn ta tb σ H Q
  | op => tOp (rCmp K op) ta tb
def rSl : V → Option Int → Option Int → Hp → VK → Prop := fun x lo hi H Q => rSlL K x lo hi H Q ∨ (rSlA K x lo hi H Q ∨ rSlS x lo hi H Q)
def tTru (te : TE) : TT := fun σ H Q => te σ H fun x H' => ∃ k, TruV K x H' k ∧ Q k H'
def rList : List V → Hp → VK → Prop := fun xs H Q => ∃ p ys, xs = [.ref p] ∧ (SqL K H p ys ∨ SqT K H p ys) ∧ ∀ l, H l = none → Q (.ref l) (upd H l (.lst ys))
def rLen : List V → Hp → VK → Prop := fun xs H Q => ∃ x n, xs = [x] ∧ LenV K x H n ∧ Q (.int n) H
def rInt : List V → Hp → VK → Prop := fun xs H Q => ((∃ i, xs = [.int i] ∧ Q (.int i) H) ∨ ∃ k, xs = [.bl k] ∧ Q (.int (if k then 1 else 0)) H) ∨ ∃ a n, xs = [.str a] ∧ PySem.intText? a = some n ∧ a.length ≤ 640 ∧ Q (.int n) H
def rStr : List V → Hp → VK → Prop := fun xs H Q => ∃ i, xs = [.int i] ∧ i.natAbs.log2 < 1920 ∧ Q (.str (toString i)) H
def rMx2 : List V → Hp → VK → Prop := fun xs H Q => ∃ i j, xs = [.int i, .int j] ∧ Q (.int (if j > i then j else i)) H
def rMn2 : List V → Hp → VK → Prop := fun xs H Q => ∃ i j, xs = [.int i, .int j] ∧ Q (.int (if j < i then j else i)) H
def rMax1 : List V → Hp → VK → Prop := fun xs H Q => rMx2 xs H Q ∨ rMax K xs H Q
def rMin1 : List V → Hp → VK → Prop := fun xs H Q => rMn2 xs H Q ∨ rMin K xs H Q
/-- len(set(xs)) of ints -/
def tLenSet (ta : TE) : TE := fun σ H Q => ta σ H fun x H1 => ∃ (l : Addr) (ns : List Int), x = .ref l ∧ SqL K H1 l (ns.map V.int) ∧ ns.length ≤ 4000 ∧ Q (.int ((dedup ns).length : Nat)) H1
def tyNm : BI → String
  | .isBool => "bool" | .isInt => "int" | .isStr => "str" | .isList => "list" | .isTuple => "tuple" | _ => ""
end
def tNev : TE := fun _ _ _ => False
section
variable (K : PySem.W.Frag) (sp : Nat → Sp)
def rdBi : BI → List TE → TA → TE
  | .len, [_], ta => tCB (rLen K) ta
  | .tuple, [t], _ => tThen t (kTup K)
  | .list, [_], ta => tCB (rList K) ta
  | .int, [_], ta => tCB rInt ta
  | .str, [_], ta => tCB rStr ta
  | .all, [_], ta => tCB (rAll K) ta
  | .max, [_], ta => tCB (rMax1 K) ta
  | .max, [_, _], ta => tCB (rMax1 K) ta
  | .min, [_], ta => tCB (rMin1 K) ta
  | .min, [_, _], ta => tCB (rMin1 K) ta
  | .sum, [_], ta => tCB (rSum K) ta
  | .isBool, [t], _ => tCB (rIsi K) (tCons t (tCons (tC (.ty "bool")) tNil))
  | .isInt, [t], _ => tCB (rIsi K) (tCons t (tCons (tC (.ty "int")) tNil))
  | .isStr, [t], _ => tCB (rIsi K) (tCons t (tCons (tC (.ty "str")) tNil))
  | .isList, [t], _ => tCB (rIsi K) (tCons t (tCons (tC (.ty "list")) tNil))
  | .isTuple, [t], _ => tCB (rIsi K) (tCons t (tCons (tC (.ty "tuple")) tNil))
  | .tupRange, [t], _ => tTupRg (tRg1 t)
  | .tupRange, [t, u], _ => tTupRg (tRg2 t u)
  | .lstRange, [t], _ => tLstRg (tRg1 t)
  | .lstRange, [t, u], _ => tLstRg (tRg2 t u)
  | .lenset, [t], _ => tLenSet K t
  | .maxd d, [_], ta => tCKw (rMaxDef K) ta (tCons (tC (.int d)) tNil)
  | .sorted, [_], ta => tCB (fun vs H Q => rSortedI K vs H Q ∨ rSortedPO K vs H Q) ta
  | _, _, _ => tNev
def rJoin : V → List V → Hp → VK → Prop := fun x xs H Q => ∃ a p, ∃ ys : List Str, x = .str a ∧ xs = [.ref p] ∧ (SqL K H p (ys.map V.str) ∨ SqT K H p (ys.map V.str)) ∧ (ys.map (·.length)).sum + ys.length * a.length ≤ 16777216 ∧ Q (.str (Txt.join a ys)) H
def rSplit : V → List V → Hp → VK → Prop := fun x xs H Q => ∃ a b, x = .str a ∧ xs = [.str b] ∧ (b.length == 0) = false ∧ a.length + 2 ≤ sizeLine ∧ rNewStrs (Txt.split a b) H Q
def rdMt : MI → TE → List TE → TA → TE
  | .get, to, [tk, td], _ => tDGet2 to tk td
  | .join, to, [te], _ => tM1 (rJoin K) to te
  | .split, to, [te], _ => tM1 rSplit to te
  | _, _, _, _ => tNev
def rdG : Tg → TG
  | .nm i => gName i
  | .tp is => gTup K is.length (rdGs is)
where rdGs : List Nat → TGs
  | [] => gNil
  | i :: is => gCons (gName i) (rdGs is)
def rdSrc : SK → List TE → TA → TI
  | .seq, [t], _ => fun σ H R => iList K t σ H R ∨ (iTup K t σ H R ∨ iStr t σ H R)
  | .rng, [_], ta => iRng1 ta
  | .rng, [_, _], ta => iRng2 ta
  | .rng, [_, _, _], ta => iRng3 ta
  | .enum, [_], ta => fun σ H R => iEnum K ta σ H R ∨ iEnumT K ta σ H R
  | .zip, [_, _], ta => iZip K ta
  | .keys, [t], _ => iKeys t
  | _, _, _ => fun _ _ _ => False
mutual
def rdE : IE → TE
  | .var i => tVar i
  | .int i => tC (.int i)
  | .bl b => tC (.bl b)
  | .non => tC .non
  | .str x => tC (.str x)
  | .glb _ d => tC (vOf d)
  | .bin op a b => tOp (rBin K op) (rdE a) (rdE b)
  | .cmp op a b => rdCmp K op (rdE a) (rdE b)
  | .chain op op' a b c => tChain (rCmp K op) (rCmp K op') (rdE a) (rdE b) (rdE c)
  | .and a b => tAndT K (rdE a) (rdE b)
  | .or a b => tOrT K (rdE a) (rdE b)
  | .not a => tNotT K (rdE a)
  | .neg a => tUn (rU fun i => .int (-i)) (rdE a)
  | .ifx c a b => tIf (rdT c) (rdE a) (rdE b)
  | .tup es => tTup (rdA es)
  | .lst es => tLst (rdA es)
  | .ix a b => fun σ H Q => tOp (rIx K) (rdE a) (rdE b) σ H Q ∨ tDGet (rdE a) (rdE b) σ H Q
  | .slc a lo hi => tSl (rSl K) (rdE a) (rdO lo) (rdO hi)
  | .call f es => tCall (sp f) [] E0 (rdA es)
  | .bi b es => rdBi K b (rdL es) (rdA es)
  | .mt m o es => rdMt K m (rdE o) (rdL es) (rdA es)
  | .lc elt g k src ifs => match k with
    | .keys => fun σ H Q => tLockE (tLc (rdSrc K .keys (rdL src) (rdA src)) (rdG K g) (rdI ifs) (rdE elt) (tgS g)) σ H Q ∨ tLc (rdSrc K .keys (rdL src) (rdA src)) (rdG K g) (rdI ifs) (rdE elt) (tgS g) σ H Q
    | _ => tLc (rdSrc K k (rdL src) (rdA src)) (rdG K g) (rdI ifs) (rdE elt) (tgS g)
  | .dnew t => if t then tDNewT else tDNewK
  | .disp _ _ _ => tNev
def rdT : IE → TT
  | .cmp op a b => tB (rdCmp K op (rdE a) (rdE b))
  | .chain op op' a b c => tTest (tChain (rCmp K op) (rCmp K op') (rdE a) (rdE b) (rdE c))
  | .and a b => tAnd (rdT a) (rdT b)
  | .or a b => tOr (rdT a) (rdT b)
  | .not a => tNot (rdT a)
  | .ifx _ _ _ => fun _ _ _ => False
  | .var i => tTru K (tVar i)
  | .int i => tTru K (tC (.int i))
  | .bl b => tTru K (tC (.bl b))
  | .ix a b => tTru K (fun σ H Q => tOp (rIx K) (rdE a) (rdE b) σ H Q ∨ tDGet (rdE a) (rdE b) σ H Q)
  | .call f es => tTru K (tCall (sp f) [] E0 (rdA es))
  | .bi b es => tTru K (rdBi K b (rdL es) (rdA es))
  | _ => fun _ _ _ => False
def rdA : List IE → TA
  | [] => tNil
  | e :: es => tCons (rdE e) (rdA es)
def rdL : List IE → List TE
  | [] => []
  | e :: es => rdE e :: rdL es
def rdI : List IE → TT
  | [] => tYes
  | [e] => rdT e
  | _ :: _ :: _ => fun _ _ _ => False
def rdO : Option IE → TO
  | none => tNoPart
  | some e => tPart (rdE e)
end

section
variable (K : PySem.W.Frag) (sp : Nat → Sp)
def rdMs : MS → Nat → TA → TS
  | .append, i, ta => tDrop (tBM K "list" rAppend (tVar i) ta)
  | .reverse, i, _ => tDrop (tBM0 K "list" rReverse (tVar i))
  | _, _, _ => tNever
mutual
def rdS : IS → TS
  | .set g e => tAsg (rdE K sp e) (rdG K g)
  | .setix i k v => fun D σ H => tAsg (rdE K sp v) (gSub (tVar i) (rdE K sp k) rSetL) D σ H ∨ sDPut (tVar i) (rdE K sp k) (rdE K sp v) D σ H
  | .ms m i es => rdMs K m i (rdA K sp es)
  | .msv _ _ _ _ => tNever
  | .frz _ => tNext
  | .ite c a b => tIfS (rdT K sp c) (rdSs a) (rdSs b)
  | .for_ g k src body => match k with
    | .keys => fun D σ H => tLock (tFor (rdSrc K .keys (rdL K sp src) (rdA K sp src)) (rdG K g) (rdSs body)) D σ H ∨ tFor (rdSrc K .keys (rdL K sp src) (rdA K sp src)) (rdG K g) (rdSs body) D σ H
    | _ => tFor (rdSrc K k (rdL K sp src) (rdA K sp src)) (rdG K g) (rdSs body)
  | .forq g i c e => tFor (iList K (tVar i)) (rdG K g) (tSeq (tIfS (rdT K sp c) (tSeq (tRet (rdE K sp e)) tNext) tNext) tNext)
  | .whl c body => tWhile (rdT K sp c) (rdSs body)
  | .ret e => tRet (rdE K sp e)
  | .retn => tRetN
  | .brk => tBreak
  | .cnt => tCont
  | .pass => tNext
  | .expr e => tDrop (rdE K sp e)
  | .stuck => tNever
def rdSs : List IS → TS
  | [] => tNext
  | s :: ss => tSeq (rdS s) (rdSs ss)
end
end
end
end R

set_option linter.all false
set_option maxHeartbeats 1000000
/-! The operations on values. -/
namespace R
open PySem L2
section
variable {K : PySem.W.Frag} {B : Addr → Prop} {I H I' H' : Hp} {Q : VK}
theorem line_eq : LINE = sizeLine := by rw [sizeLine_eq]
theorem le_line {n : Nat} (h : n ≤ LINE) : n ≤ sizeLine := by rw [← line_eq]; exact h
theorem lt_line {n : Nat} (h : n < LINE) : n < sizeLine := by rw [← line_eq]; exact h
/-- a new list of one's own -/
theorem rk_newL {p : Addr} {xs : List V} {ds : List D} (s : Sub I H) (hp : H p = none) (r : Reps K I ds xs) (z : ds.length ≤ LINE) : Ext I H I (upd H p (.lst xs)) ∧ RK K B H I (upd H p (.lst xs)) .ow (.lst ds) (.ref p) :=
  ⟨Ext.new s hp, ⟨p, rfl, s.fresh hp, xs, upd_same, r, z⟩, p, rfl, hp⟩
/-- a new tuple, frozen -/
theorem rk_newT {p : Addr} {xs : List V} {ds : List D} (s : Sub I H) (hp : H p = none) (r : Reps K I ds xs) (z : ds.length ≤ LINE) : Ext I H (upd I p (.tup xs)) (upd H p (.tup xs)) ∧ Rep K (upd I p (.tup xs)) (.tup ds) (.ref p) := by
  refine ⟨Ext.newF s hp, ?_⟩
  simp only [Rep]
  exact ⟨p, xs, rfl, upd_same, r.mono (Ext.newF (o := .tup xs) s hp).ii _ _, z⟩
theorem rk_fz {B : Addr → Prop} {Hs : Hp} {d : D} {v : V} (h : Rep K I d v) : RK K B Hs I H .fz d v := h
theorem rep_str {x : Str} (h : x.length ≤ LINE) (o : PyData.strOk x = true) : Rep K I (.str x) (.str x) := by
  unfold Rep
  exact ⟨rfl, h, o⟩
theorem rep_tup {a : Addr} {xs : List V} {ds : List D} (h : I a = some (.tup xs)) (r : Reps K I ds xs) (z : ds.length ≤ LINE) : Rep K I (.tup ds) (.ref a) := by
  unfold Rep
  exact ⟨a, xs, rfl, h, r, z⟩
theorem see_int {i : Int} {v : V} (h : See K I H (.int i) v) : v = .int i := h.int
theorem strOk_app {x y : Str} (hx : PyData.strOk x = true) (hy : PyData.strOk y = true) : PyData.strOk (x ++ y) = true := by
  unfold PyData.strOk at *
  show ((x.cps ++ y.cps).all _) = true
  rw [Array.all_append, hx, hy]
  rfl
theorem len_app (x y : Str) : (x ++ y).length = x.length + y.length := by
  show (x.cps ++ y.cps).size = x.cps.size + y.cps.size
  exact Array.size_append
theorem bin_ok {op : BOp} {x y : D} {k : Kd} {d : D} {v w : V} (h : binD op x y = some (k, d)) (s : Sub I H) (hx : See K I H x v) (hy : See K I H y w)
    (q : ∀ u I' H', Ext I H I' H' → RK K B H I' H' k d u → Q u H') : rBin K op v w H Q := by
  unfold binD at h
  split at h
  · cases h
    exact .inl ⟨_, _, hx.int, hy.int, q _ I H (Ext.refl s) (rk_fz rep_int)⟩
  · split at h
    · rename_i hz
      cases h
      obtain ⟨e1, h1, o1⟩ := hx.str
      obtain ⟨e2, h2, o2⟩ := hy.str
      exact .inr (.inl ⟨_, _, e1, e2, le_line hz, q _ I H (Ext.refl s) (rk_fz (rep_str (by rw [len_app]; exact hz) (strOk_app o1 o2)))⟩)
    · cases h
  · split at h
    · rename_i hz
      cases h
      obtain ⟨a, xs, rfl, ha, ra, za⟩ := hx.lst s
      obtain ⟨b, ys, rfl, hb, rb, zb⟩ := hy.lst s
      refine .inr (.inr (.inl ⟨a, b, xs, ys, rfl, rfl, ha, hb, ?_, fun p hp => ?_⟩))
      · rw [ra.len, rb.len]
        exact le_line hz
      · obtain ⟨e, r⟩ := rk_newL (B := B) s hp (ra.app rb) (by rw [List.length_append]; exact hz)
        exact q _ _ _ e r
    · cases h
  · split at h
    · rename_i hz
      cases h
      obtain ⟨a, xs, rfl, ha, ia, ra, za⟩ := hx.tup s
      obtain ⟨b, ys, rfl, hb, ib, rb, zb⟩ := hy.tup s
      refine .inr (.inr (.inr ⟨a, b, xs, ys, rfl, rfl, .inl (.inl ha), .inl (.inl hb), by rw [ra.len, rb.len]; exact le_line hz, fun e => ?_, fun e1 e2 => ?_, fun e1 e2 p hp => ?_⟩))
      · subst e
        have z0 := ra.len
        rw [List.length_nil] at z0
        rw [List.eq_nil_of_length_eq_zero z0.symm, List.nil_append] at q
        exact q _ I H (Ext.refl s) (rk_fz (rep_tup ib rb zb))
      · subst e2
        have z0 := rb.len
        rw [List.length_nil] at z0
        rw [List.eq_nil_of_length_eq_zero z0.symm, List.append_nil] at q
        exact q _ I H (Ext.refl s) (rk_fz (rep_tup ia ra za))
      · obtain ⟨e, r⟩ := rk_newT s hp (ra.app rb) (by rw [List.length_append]; exact hz)
        exact q _ _ _ e r
    · cases h
  · cases h
    exact ⟨_, _, hx.int, hy.int, q _ I H (Ext.refl s) (rk_fz rep_int)⟩
  · split at h
    · rename_i hz
      cases h
      refine .inl ⟨_, _, hx.int, hy.int, ?_, q _ I H (Ext.refl s) (rk_fz rep_int)⟩
      simp only [small64, Bool.or_eq_true, Bool.and_eq_true, decide_eq_true_eq] at hz
      exact hz
    · cases h
  · split at h
    · rename_i hz
      cases h
      simp only [small62, Bool.and_eq_true, decide_eq_true_eq] at hz
      obtain ⟨a, xs, rfl, ha, ra, za⟩ := hx.lst s
      refine .inr (.inl ⟨a, _, xs, rfl, hy.int, ha, by omega, by omega, by rw [ra.len]; exact le_line hz.2, fun p hp => ?_⟩)
      have rr : ∀ n : Nat, Reps K I (List.replicate n _).flatten (List.replicate n xs).flatten := fun n => by
        induction n with
        | zero => exact Reps.nil
        | succ n ih =>
          rw [List.replicate_succ, List.replicate_succ, List.flatten_cons, List.flatten_cons]
          exact ra.app ih
      obtain ⟨e, r⟩ := rk_newL (B := B) s hp (rr _) (by rw [List.length_flatten, List.map_replicate, List.sum_replicate_nat, Nat.mul_comm]; exact hz.2)
      exact q _ _ _ e r
    · cases h
  · split at h
    · rename_i _ k hz
      cases h
      obtain ⟨⟨z1, z2⟩, z3, z4⟩ := hz
      obtain ⟨a, xs, rfl, ha, ia, ra, za⟩ := hx.tup s
      have rr : ∀ n : Nat, Reps K I (List.replicate n _).flatten (List.replicate n xs).flatten := fun n => by
        induction n with
        | zero => exact Reps.nil
        | succ n ih =>
          rw [List.replicate_succ, List.replicate_succ, List.flatten_cons, List.flatten_cons]
          exact ra.app ih
      refine .inr (.inr ⟨a, _, xs, rfl, hy.int, .inl (.inl ha), fun e => z1 ?_, z3, z4, by rw [ra.len]; exact z2, fun e => ?_, fun _ p hp => ?_⟩)
      · subst e
        have := ra.len
        rw [List.length_nil] at this
        exact this.symm
      · subst e
        have r1 := rr 1
        have e1 : ∀ {α : Type} (l : List α), (List.replicate 1 l).flatten = l := fun l => by simp
        rw [e1] at r1
        rw [show (1 : Int).toNat = 1 from rfl, e1] at q
        exact q _ I H (Ext.refl s) (rk_fz (rep_tup ia ra za))
      · obtain ⟨e, r⟩ := rk_newT s hp (rr _) (by
          rw [List.length_flatten, List.map_replicate, List.sum_replicate_nat]
          exact Nat.le_trans (Nat.mul_le_mul (show k.toNat ≤ 1000 by omega) z2) (by decide))
        exact q _ _ _ e r
    · cases h
  · split at h
    · rename_i hz
      cases h
      exact ⟨_, _, hx.int, hy.int, hz, q _ I H (Ext.refl s) (rk_fz rep_int)⟩
    · cases h
  · split at h
    · rename_i hz
      cases h
      exact ⟨_, _, hx.int, hy.int, hz, q _ I H (Ext.refl s) (rk_fz rep_int)⟩
    · cases h
  · split at h
    · rename_i hz
      cases h
      simp only [small62, Bool.and_eq_true, decide_eq_true_eq] at hz
      exact ⟨_, _, hx.int, hy.int, ⟨hz.1, hz.2.1, by omega⟩, q _ I H (Ext.refl s) (rk_fz rep_int)⟩
    · cases h
  · cases h
end
end R

set_option linter.all false
set_option maxHeartbeats 1000000
/-! Comparisons, items, slices. -/
namespace R
open PySem L2
section
variable {K : PySem.W.Frag} {B : Addr → Prop} {I H I' H' : Hp} {Q : VK}
mutual
theorem Rep.dp (s : Sub I H) : ∀ (d : D) (v : V), Rep K I d v → d.dep ≤ 900 → Dp K H v d.py ∧ d.py.canLay0 = true ∧ d.py.depth ≤ d.dep
  | .non, v, h, _ => by
    simp only [Rep] at h
    subst h
    simp only [D.py, PyData.canLay0, PyData.depth]
    exact ⟨.non, trivial, Nat.zero_le _⟩
  | .bl b, v, h, _ => by
    simp only [Rep] at h
    subst h
    simp only [D.py, PyData.canLay0, PyData.depth]
    exact ⟨.bl b, trivial, Nat.zero_le _⟩
  | .int i, v, h, _ => by
    simp only [Rep] at h
    subst h
    simp only [D.py, PyData.canLay0, PyData.depth]
    exact ⟨.int i, trivial, Nat.zero_le _⟩
  | .str x, v, h, _ => by
    simp only [Rep] at h
    obtain ⟨rfl, h1, h2⟩ := h
    simp only [D.py, PyData.canLay0, PyData.depth]
    exact ⟨.str x, h2, Nat.zero_le _⟩
  | .tup ds, v, h, z => by
    simp only [Rep] at h
    obtain ⟨a, xs, rfl, h1, h2, h3⟩ := h
    simp only [D.dep] at z ⊢
    obtain ⟨q1, q2, q3⟩ := Reps.dp s ds xs h2 (by omega)
    simp only [D.py, PyData.canLay0, PyData.depth]
    refine ⟨.tup (.inl (.inl ?_)) q1, q2, by omega⟩
    rcases s a _ h1 with q | ⟨q, _⟩
    · exact q
    · cases q
  | .lst ds, v, h, z => by
    simp only [Rep] at h
    obtain ⟨a, xs, rfl, h1, h2, h3⟩ := h
    simp only [D.dep] at z ⊢
    obtain ⟨q1, q2, q3⟩ := Reps.dp s ds xs h2 (by omega)
    simp only [D.py, PyData.canLay0, PyData.depth]
    refine ⟨.lst (.inl (.inl ?_)) q1, q2, by omega⟩
    rcases s a _ h1 with q | ⟨q, _⟩
    · exact q
    · cases q
  | .dk _ _, v, h, z => by simp only [D.dep] at z; omega
  | .dt _ _, v, h, z => by simp only [D.dep] at z; omega
  | .scr ns, v, h, _ => by
    simp only [Rep] at h
    obtain ⟨a, rfl, h1, h2⟩ := h
    have key : ∀ ms : List Int, DpAll K H (ms.map V.int) (ms.map PyData.int) ∧ PyData.canLayAll0 (ms.map PyData.int) = true ∧ PyData.depthAll (ms.map PyData.int) = 0 := fun ms => by
      induction ms with
      | nil => exact ⟨.nil, by simp only [List.map_nil, PyData.canLayAll0], by simp only [List.map_nil, PyData.depthAll]⟩
      | cons m ms ih =>
        simp only [List.map_cons, PyData.canLayAll0, PyData.depthAll, PyData.canLay0, PyData.depth, ih.2.1, ih.2.2]
        exact ⟨.cons (.int m) ih.1, rfl, rfl⟩
    obtain ⟨q1, q2, q3⟩ := key ns
    simp only [D.py, PyData.canLay0, PyData.depth, D.dep]
    exact ⟨.lst (sql_sub s h1) q1, q2, by omega⟩
theorem Reps.dp (s : Sub I H) : ∀ (ds : List D) (xs : List V), Reps K I ds xs → D.deps ds ≤ 900 → DpAll K H xs (D.pys ds) ∧ PyData.canLayAll0 (D.pys ds) = true ∧ PyData.depthAll (D.pys ds) ≤ D.deps ds
  | [], xs, h, _ => by
    simp only [Reps] at h
    subst h
    simp only [D.pys, PyData.canLayAll0, PyData.depthAll]
    exact ⟨.nil, trivial, Nat.zero_le _⟩
  | d :: ds, xs, h, z => by
    simp only [Reps] at h
    obtain ⟨x, r, rfl, h1, h2⟩ := h
    simp only [D.deps] at z ⊢
    obtain ⟨q1, q2, q3⟩ := Rep.dp s d x h1 (by omega)
    obtain ⟨p1, p2, p3⟩ := Reps.dp s ds r h2 (by omega)
    simp only [D.pys, PyData.canLayAll0, PyData.depthAll, q2, p2, Bool.and_self]
    exact ⟨.cons q1 p1, trivial, by omega⟩
end
theorem See.dp {d : D} {v : V} (h : See K I H d v) (s : Sub I H) (z : d.dep ≤ 900) : Dp K H v d.py ∧ d.py.canLay0 = true ∧ d.py.depth ≤ d.dep := by
  rcases h with h | ⟨p, rfl, hp, c⟩
  · exact Rep.dp s d v h z
  · cases d with
    | lst ds =>
      obtain ⟨xs, e, r, z'⟩ := c
      simp only [D.dep] at z ⊢
      obtain ⟨q1, q2, q3⟩ := Reps.dp s ds xs r (by omega)
      simp only [D.py, PyData.canLay0, PyData.depth]
      exact ⟨.lst (.inl (.inl e)) q1, q2, by omega⟩
    | dk _ _ => simp only [D.dep] at z; omega
    | dt _ _ => simp only [D.dep] at z; omega
    | _ => exact False.elim c
theorem shaped_of {p : PyData} {n : Nat} (h : p.canLay0 = true) (z : p.depth ≤ n) (hn : n ≤ 61) : SeqAt.shaped p = true := by
  show (p.canLay0 && decide (p.depth ≤ 64)) = true
  rw [h, Bool.true_and, decide_eq_true_eq]
  omega
theorem anyPy (a : D) : ∀ ds : List D, ((D.pys ds).any fun z => PyData.eqv z a.py) = ds.any fun z => eqv z a
  | [] => by simp only [D.pys, List.any_nil]
  | d :: ds => by
    simp only [D.pys, List.any_cons, anyPy a ds]
    rfl
theorem flat_v {d : D} {v : V} (h : See K I H d v) (f : flat d = true) : flatV v = true := by
  cases d with
  | non => rw [h.non]; rfl
  | bl b => rw [h.bl]; rfl
  | int i => rw [h.int]; rfl
  | str x => rw [h.str.1]; rfl
  | _ => simp only [flat] at f; cases f
theorem eqv_flat {d e : D} {v w : V} (h : See K I H d v) (g : See K I H e w) (f : flat d = true) (f' : flat e = true) : eqV v w = eqv d e := by
  cases d <;> simp only [flat] at f <;> first | cases f | skip
  all_goals (cases e <;> simp only [flat] at f' <;> first | cases f' | skip)
  all_goals (first | rw [h.non] | rw [h.bl] | rw [h.int] | rw [h.str.1])
  all_goals (first | rw [g.non] | rw [g.bl] | rw [g.int] | rw [g.str.1])
  all_goals simp only [eqv, D.py, PyData.eqv, eqV]
theorem inV_flat {d : D} {v : V} (h : See K I H d v) (f : flat d = true) : ∀ {ds : List D} {xs : List V}, Reps K I ds xs → ds.all flat = true → xs.all flatV = true ∧ inV v xs = ds.any fun z => eqv z d
  | [], xs, r, _ => by
    simp only [Reps] at r
    subst r
    exact ⟨rfl, rfl⟩
  | e :: ds, xs, r, fs => by
    simp only [Reps] at r
    obtain ⟨x, r', rfl, h1, h2⟩ := r
    simp only [List.all_cons, Bool.and_eq_true] at fs
    obtain ⟨q1, q2⟩ := inV_flat h f h2 fs.2
    have h1' : See K I H e x := .inl h1
    refine ⟨by simp only [List.all_cons, q1, flat_v h1' fs.1, Bool.and_self], ?_⟩
    show (eqV x v || inV v r') = _
    rw [eqv_flat h1' h fs.1 f, q2]
    rfl
theorem one_str {x : Str} (h : x.length = 1) : x = ⟨#[x.cps.getD 0 0]⟩ := by
  obtain ⟨c⟩ := x
  have hc : c.size = 1 := h
  show Str.mk c = Str.mk #[c.getD 0 0]
  congr 1
  apply Array.ext
  · simpa using hc
  · intro i h1 h2
    have : i = 0 := by omega
    subst this
    simp [Array.getD, hc]
theorem keyOf_v {d : D} {k : Key} {v : V} (h : keyOf d = some k) (g : See K I H d v) : v = kV k := by
  cases d <;> simp only [keyOf] at h <;> first | cases h | skip
  · rw [g.int]; rfl
  · rw [g.str.1]; rfl
theorem keysOf_v : ∀ {ds : List D} {ks : List Key} {xs : List V}, keysOf ds = some ks → Reps K I ds xs → xs = ks.map kV
  | [], ks, xs, h, r => by
    simp only [keysOf] at h
    simp only [Reps] at r
    cases h
    rw [r]
    rfl
  | d :: ds, ks, xs, h, r => by
    simp only [Reps] at r
    obtain ⟨x, r', rfl, h1, h2⟩ := r
    simp only [keysOf] at h
    cases e1 : keyOf d with
    | none => rw [e1] at h; cases h
    | some k =>
      cases e2 : keysOf ds with
      | none => rw [e1, e2] at h; cases h
      | some ks' =>
        rw [e1, e2] at h
        cases h
        rw [keysOf_v e2 h2, keyOf_v (I := I) (H := I) e1 (.inl h1)]
        rfl
theorem valV_look {κ : Type} [DecidableEq κ] (q : κ) : ∀ {ks : List κ} {ws : List D} {xs : List V}, Reps K I ws xs → ks.length = xs.length →
    (∀ d, look ks ws q = some d → ∃ v, valV (ks.zip xs) q = some v ∧ Rep K I d v) ∧ (look ks ws q = none → valV (ks.zip xs) q = none) ∧ (valV (ks.zip xs) q).isSome = has ks q
  | [], ws, xs, r, e => by
    refine ⟨fun d h => ?_, fun h => ?_, ?_⟩
    · unfold look at h; cases h
    · rfl
    · rfl
  | k :: ks, ws, [], r, e => by simp at e
  | k :: ks, [], x :: xs, r, e => by simp only [Reps] at r; cases r
  | k :: ks, w :: ws, x :: xs, r, e => by
    simp only [Reps] at r
    obtain ⟨x', r', e', h1, h2⟩ := r
    cases e'
    have ih := valV_look q (ks := ks) h2 (by simpa using e)
    show (∀ d, (if k = q then some w else look ks ws q) = some d → ∃ v, valV ((k, x) :: ks.zip xs) q = some v ∧ Rep K I d v) ∧ ((if k = q then some w else look ks ws q) = none → valV ((k, x) :: ks.zip xs) q = none) ∧ (valV ((k, x) :: ks.zip xs) q).isSome = (decide (k = q) || has ks q)
    by_cases c : k = q
    · rw [if_pos c, valV_pos c, decide_eq_true c]
      refine ⟨fun d h => ?_, fun h => ?_, rfl⟩
      · cases h
        exact ⟨x, rfl, h1⟩
      · cases h
    · rw [if_neg c, valV_neg c, decide_eq_false c, Bool.false_or]
      exact ih
end
end R

set_option linter.all false
set_option maxHeartbeats 1000000
/-! Comparisons, items, slices. -/
namespace R
open PySem L2
section
variable {K : PySem.W.Frag} {B : Addr → Prop} {I H I' H' : Hp} {Q : VK}
theorem eq_ok {x y : D} {c : Bool} {v w : V} (h1 : x.dep ≤ 60) (h2 : y.dep ≤ 60) (s : Sub I H) (hx : See K I H x v) (hy : See K I H y w) (q : Q (.bl (eqv x y)) H) : rEqD K v w H Q := by
  obtain ⟨a1, a2, a3⟩ := hx.dp s (by omega)
  obtain ⟨b1, b2, b3⟩ := hy.dp s (by omega)
  exact ⟨_, _, a1, b1, shaped_of a2 a3 (by omega), shaped_of b2 b3 (by omega), q⟩
theorem ne_ok {x y : D} {c : Bool} {v w : V} (h1 : x.dep ≤ 60) (h2 : y.dep ≤ 60) (s : Sub I H) (hx : See K I H x v) (hy : See K I H y w) (q : Q (.bl (!eqv x y)) H) : rNeD K v w H Q := by
  obtain ⟨a1, a2, a3⟩ := hx.dp s (by omega)
  obtain ⟨b1, b2, b3⟩ := hy.dp s (by omega)
  exact ⟨_, _, a1, b1, shaped_of a2 a3 (by omega), shaped_of b2 b3 (by omega), q⟩
theorem isNon_v {d : D} {v : V} (h : See K I H d v) : decide (v = .non) = isNon d := by
  cases d with
  | non => rw [h.non]; rfl
  | bl b => rw [h.bl]; rfl
  | int i => rw [h.int]; rfl
  | str x => rw [h.str.1]; rfl
  | _ =>
    rcases h with h | ⟨p, rfl, _⟩
    · simp only [Rep] at h
      first
        | (obtain ⟨a, xs, rfl, _⟩ := h; rfl)
        | (obtain ⟨a, rfl, _⟩ := h; rfl)
    · rfl
theorem cmp_ok {op : COp} {x y : D} {c : Bool} {v w : V} (h : cmpD op x y = some c) (s : Sub I H) (hx : See K I H x v) (hy : See K I H y w) (nd : op ≠ .isin ∧ op ≠ .notin)
    (q : Q (.bl c) H) : rCmp K op v w H Q := by
  unfold cmpD at h
  split at h
  · split at h
    · rename_i hz
      cases h
      exact eq_ok (c := true) hz.1 hz.2 s hx hy q
    · cases h
  · split at h
    · rename_i hz
      cases h
      exact ne_ok (c := true) hz.1 hz.2 s hx hy q
    · cases h
  · cases h
    exact ⟨_, _, hx.int, hy.int, q⟩
  · cases h
    exact ⟨_, _, hx.int, hy.int, q⟩
  · cases h
    exact ⟨_, _, hx.int, hy.int, q⟩
  · cases h
    exact ⟨_, _, hx.int, hy.int, q⟩
  · cases h
    exact ⟨hy.non, by rw [isNon_v hx]; exact q⟩
  · cases h
    exact ⟨hy.non, by rw [isNon_v hx]; exact q⟩
  all_goals first
    | exact absurd rfl nd.1
    | exact absurd rfl nd.2
    | cases h
def isDct : D → Bool
  | .dk _ _ => true
  | .dt _ _ => true
  | _ => false
/-- in, not in; of a dict by its own rule -/
theorem in_ok {neg : Bool} {x y : D} {c : Bool} {v w : V} (h : cmpD (if neg then .notin else .isin) x y = some c) (s : Sub I H) (hx : See K I H x v) (hy : See K I H y w) (q : Q (.bl c) H) :
    (isDct y = false → rCmp K (if neg then .notin else .isin) v w H Q) ∧ (isDct y = true → ∃ a o, w = .ref a ∧ DGet H a v o ∧ Q (.bl (if neg then !o.isSome else o.isSome)) H) := by
  have lst : ∀ ds, y = .lst ds → x.dep ≤ 60 → D.deps ds ≤ 60 → Q (.bl (if neg then !(ds.any fun z => eqv z x) else ds.any fun z => eqv z x)) H → rCmp K (if neg then .notin else .isin) v w H Q := fun ds e h1 h2 q => by
    subst e
    obtain ⟨a1, a2, a3⟩ := hx.dp s (by omega)
    obtain ⟨b1, b2, b3⟩ := hy.dp s (by simp only [D.dep]; omega)
    simp only [D.py] at b1 b2 b3
    simp only [D.dep] at b3
    rw [← anyPy] at q
    cases neg with
    | true => exact .inl ⟨_, _, a1, b1, shaped_of a2 a3 (by omega), shaped_of b2 b3 (by omega), q⟩
    | false => exact .inl ⟨_, _, a1, b1, shaped_of a2 a3 (by omega), shaped_of b2 b3 (by omega), q⟩
  have tup : ∀ ds, y = .tup ds → (flat x && ds.all flat) = true → Q (.bl (if neg then !(ds.any fun z => eqv z x) else ds.any fun z => eqv z x)) H → rCmp K (if neg then .notin else .isin) v w H Q := fun ds e hf q => by
    subst e
    simp only [Bool.and_eq_true] at hf
    obtain ⟨b, ys, rfl, hb, ib, rb, zb⟩ := hy.tup s
    obtain ⟨q1, q2⟩ := inV_flat hx hf.1 rb hf.2
    rw [← q2] at q
    cases neg with
    | true => exact .inr (.inl ⟨b, ys, rfl, .inr (.inl (.inl hb)), flat_v hx hf.1, q1, q⟩)
    | false => exact .inr (.inl ⟨b, ys, rfl, .inr (.inl (.inl hb)), flat_v hx hf.1, q1, q⟩)
  have str : ∀ a b, x = .str a → y = .str b → a.length = 1 → Q (.bl (if neg then !decide (a.cps.getD 0 0 ∈ b.cps.toList) else decide (a.cps.getD 0 0 ∈ b.cps.toList))) H → rCmp K (if neg then .notin else .isin) v w H Q := fun a b e1 e2 hl q => by
    subst e1 e2
    have e3 := one_str hl
    cases neg with
    | true => exact .inr (.inr ⟨_, b, by rw [hx.str.1]; exact congrArg V.str e3, hy.str.1, q⟩)
    | false => exact .inr (.inr ⟨_, b, by rw [hx.str.1]; exact congrArg V.str e3, hy.str.1, q⟩)
  have dk : ∀ ks ws k, y = .dk ks ws → keyOf x = some k → Q (.bl (if neg then !has ks k else has ks k)) H → ∃ a o, w = .ref a ∧ DGet H a v o ∧ Q (.bl (if neg then !o.isSome else o.isSome)) H := fun ks ws k e hk q => by
    subst e
    obtain ⟨a, xs, rfl, ha, ra, la, za⟩ := hy.dk s
    obtain ⟨_, _, q3⟩ := valV_look k ra la
    rw [← q3] at q
    exact ⟨a, valV (ks.zip xs) k, rfl, .inl ⟨_, k, ha, keyOf_v hk hx, rfl⟩, q⟩
  have dt : ∀ ks ws ds (k : List Key), y = .dt ks ws → x = .tup ds → keysOf ds = some k → Q (.bl (if neg then !has ks k else has ks k)) H → ∃ a o, w = .ref a ∧ DGet H a v o ∧ Q (.bl (if neg then !o.isSome else o.isSome)) H := fun ks ws ds k e e2 hk q => by
    subst e e2
    obtain ⟨a, xs, rfl, ha, ra, la, za⟩ := hy.dt s
    obtain ⟨b, ys, rfl, hb, ib, rb, zb⟩ := hx.tup s
    obtain ⟨_, _, q3⟩ := valV_look k ra la
    rw [← q3] at q
    exact ⟨a, valV (ks.zip xs) k, rfl, .inr ⟨_, k, b, ha, rfl, by rw [hb, keysOf_v hk rb], rfl⟩, q⟩
  cases neg with
  | true =>
    have h : cmpD .notin x y = some c := h
    cases y with
    | lst ds =>
      simp only [cmpD] at h
      split at h
      · rename_i hz
        cases h
        exact ⟨fun _ => lst ds rfl hz.1 hz.2 q, (fun z => by cases z)⟩
      · cases h
    | tup ds =>
      simp only [cmpD] at h
      split at h
      · rename_i hz
        cases h
        exact ⟨fun _ => tup ds rfl hz q, (fun z => by cases z)⟩
      · cases h
    | str b =>
      cases x <;> simp only [cmpD] at h <;> first | cases h | skip
      split at h
      · rename_i hz
        cases h
        exact ⟨fun _ => str _ b rfl rfl hz q, (fun z => by cases z)⟩
      · cases h
    | dk ks ws =>
      simp only [cmpD] at h
      cases e : keyOf x with
      | none => rw [e] at h; cases h
      | some k =>
        rw [e] at h
        cases h
        exact ⟨(fun z => by cases z), fun _ => dk ks ws k rfl e q⟩
    | dt ks ws =>
      cases x <;> first | (simp only [cmpD] at h; cases h; done) | skip
      rename_i ds _
      simp only [cmpD] at h
      cases e : keysOf ds with
      | none => rw [e] at h; cases h
      | some k =>
        rw [e] at h
        cases h
        exact ⟨(fun z => by cases z), fun _ => dt ks ws ds k rfl rfl e q⟩
    | _ => cases x <;> simp only [cmpD] at h <;> cases h
  | false =>
    have h : cmpD .isin x y = some c := h
    cases y with
    | lst ds =>
      simp only [cmpD] at h
      split at h
      · rename_i hz
        cases h
        exact ⟨fun _ => lst ds rfl hz.1 hz.2 q, (fun z => by cases z)⟩
      · cases h
    | tup ds =>
      simp only [cmpD] at h
      split at h
      · rename_i hz
        cases h
        exact ⟨fun _ => tup ds rfl hz q, (fun z => by cases z)⟩
      · cases h
    | str b =>
      cases x <;> simp only [cmpD] at h <;> first | cases h | skip
      split at h
      · rename_i hz
        cases h
        exact ⟨fun _ => str _ b rfl rfl hz q, (fun z => by cases z)⟩
      · cases h
    | dk ks ws =>
      simp only [cmpD] at h
      cases e : keyOf x with
      | none => rw [e] at h; cases h
      | some k =>
        rw [e] at h
        cases h
        exact ⟨(fun z => by cases z), fun _ => dk ks ws k rfl e q⟩
    | dt ks ws =>
      cases x <;> first | (simp only [cmpD] at h; cases h; done) | skip
      rename_i ds _
      simp only [cmpD] at h
      cases e : keysOf ds with
      | none => rw [e] at h; cases h
      | some k =>
        rw [e] at h
        cases h
        exact ⟨(fun z => by cases z), fun _ => dt ks ws ds k rfl rfl e q⟩
    | _ => cases x <;> simp only [cmpD] at h <;> cases h
theorem atI_map {α β : Type} (f : α → β) (xs : List α) (i : Int) : atI (xs.map f) i = (atI xs i).map f := by
  unfold atI
  rw [List.length_map]
  cases ixN xs.length i with
  | none => rfl
  | some j => simp
theorem atI_mem {α : Type} {xs : List α} {i : Int} {v : α} (h : atI xs i = some v) : v ∈ xs := by
  obtain ⟨j, _, h2, _⟩ := atI_get h
  exact List.mem_of_getElem? h2
theorem strOk_sign {x : Str} {c : Nat} (h : PyData.strOk x = true) (m : c ∈ x.cps.toList) : PyData.strOk ⟨#[c]⟩ = true := by
  unfold PyData.strOk at *
  rw [← Array.all_toList, List.all_eq_true] at h
  have := h c m
  simpa using this
/-- an item -/
theorem ix_ok {x y d : D} {v w : V} (h : ixD x y = some d) (s : Sub I H) (hx : See K I H x v) (hy : See K I H y w) (q : ∀ u, Rep K I d u → Q u H) :
    (isDct x = false → rIx K v w H Q) ∧ (isDct x = true → ∃ a u, v = .ref a ∧ DGet H a w (some u) ∧ Q u H) := by
  unfold ixD at h
  split at h
  · obtain ⟨a, xs, rfl, ha, ra, za⟩ := hx.lst s
    obtain ⟨u, h1, h2⟩ := ra.at h
    exact ⟨fun _ => .inl ⟨a, xs, _, u, rfl, hy.int, .inl (.inl ha), h1, q u h2⟩, (fun z => by cases z)⟩
  · obtain ⟨a, xs, rfl, ha, ia, ra, za⟩ := hx.tup s
    obtain ⟨u, h1, h2⟩ := ra.at h
    exact ⟨fun _ => .inr (.inl ⟨a, xs, _, u, rfl, hy.int, .inl (.inl ha), h1, q u h2⟩), (fun z => by cases z)⟩
  · rename_i ns i
    obtain ⟨a, rfl, ha, za⟩ := hx.scr s
    cases e : atI ns i with
    | none => rw [e] at h; cases h
    | some n =>
      rw [e] at h
      cases h
      exact ⟨fun _ => .inl ⟨a, _, _, .int n, rfl, hy.int, ha, by rw [atI_map, e]; rfl, q _ rep_int⟩, (fun z => by cases z)⟩
  · rename_i z i
    obtain ⟨e1, h1, o1⟩ := hx.str
    cases e : atI z.cps.toList i with
    | none => rw [e] at h; cases h
    | some c =>
      rw [e] at h
      cases h
      exact ⟨fun _ => .inr (.inr ⟨z, i, c, e1, hy.int, le_line h1, e, q _ (rep_str (by show 1 ≤ LINE; decide) (strOk_sign o1 (atI_mem e)))⟩), (fun z => by cases z)⟩
  · split at h
    · cases h
    · obtain ⟨a, xs, rfl, ha, ra, la, za⟩ := hx.dk s
      obtain ⟨q1, _, _⟩ := valV_look _ ra la
      obtain ⟨u, h1, h2⟩ := q1 d h
      exact ⟨(fun z => by cases z), fun _ => ⟨a, u, rfl, .inl ⟨_, Sum.inl _, ha, hy.int, h1.symm⟩, q u h2⟩⟩
  · obtain ⟨a, xs, rfl, ha, ra, la, za⟩ := hx.dk s
    obtain ⟨q1, _, _⟩ := valV_look _ ra la
    obtain ⟨u, h1, h2⟩ := q1 d h
    exact ⟨(fun z => by cases z), fun _ => ⟨a, u, rfl, .inl ⟨_, Sum.inr _, ha, hy.str.1, h1.symm⟩, q u h2⟩⟩
  · rename_i ks ws ds
    cases e : keysOf ds with
    | none => rw [e] at h; cases h
    | some k =>
      rw [e] at h
      obtain ⟨a, xs, rfl, ha, ra, la, za⟩ := hx.dt s
      obtain ⟨b, ys, rfl, hb, ib, rb, zb⟩ := hy.tup s
      obtain ⟨q1, _, _⟩ := valV_look k ra la
      obtain ⟨u, h1, h2⟩ := q1 d h
      exact ⟨(fun z => by cases z), fun _ => ⟨a, u, rfl, .inr ⟨_, k, b, ha, rfl, by rw [hb, keysOf_v e rb], h1.symm⟩, q u h2⟩⟩
  · cases h
theorem cut_len {α : Type} (xs : List α) (lo hi : Option Int) : (cut xs lo hi).length ≤ xs.length := by
  unfold cut
  rw [List.length_take, List.length_drop]
  omega
theorem cut_mem {α : Type} {xs : List α} {lo hi : Option Int} {c : α} (h : c ∈ cut xs lo hi) : c ∈ xs := List.mem_of_mem_drop (List.mem_of_mem_take h)
theorem cut_map {α β : Type} (f : α → β) (xs : List α) (lo hi : Option Int) : cut (xs.map f) lo hi = (cut xs lo hi).map f := by
  unfold cut
  rw [List.length_map, List.map_take, List.map_drop]
/-- a slice -/
theorem slc_ok {x : D} {lo hi : Option Int} {k : Kd} {d : D} {v : V} (h : slcD x lo hi = some (k, d)) (s : Sub I H) (hx : See K I H x v) (q : ∀ u I' H', Ext I H I' H' → RK K B H I' H' k d u → Q u H') : rSl K v lo hi H Q := by
  unfold slcD at h
  split at h
  · cases h
    obtain ⟨a, xs, rfl, ha, ra, za⟩ := hx.lst s
    refine .inl ⟨a, xs, rfl, .inl (.inl ha), fun p hp => ?_⟩
    obtain ⟨e, r⟩ := rk_newL (B := B) s hp (ra.cut lo hi) (Nat.le_trans (cut_len _ _ _) za)
    exact q _ _ _ e r
  · cases h
    obtain ⟨a, xs, rfl, ha, ia, ra, za⟩ := hx.tup s
    refine .inr (.inl ⟨a, xs, rfl, .inl (.inl ha), fun e => ?_, fun _ p hp => ?_⟩)
    · rw [ra.len] at e
      refine q _ I H (Ext.refl s) (rk_fz (rep_tup ia ?_ (Nat.le_trans (cut_len _ _ _) za)))
      unfold cut
      rw [e.1, e.2, List.drop_zero, Nat.sub_zero, List.take_length]
      exact ra
    · obtain ⟨e, r⟩ := rk_newT s hp (ra.cut lo hi) (Nat.le_trans (cut_len _ _ _) za)
      exact q _ _ _ e r
  · cases h
    rename_i ns
    obtain ⟨a, rfl, ha, za⟩ := hx.scr s
    refine .inl ⟨a, _, rfl, ha, fun p hp => ?_⟩
    have r0 := (reps_ints (K := K) (I := I) ns).cut lo hi
    rw [cut_map] at r0
    obtain ⟨e, r⟩ := rk_newL (B := B) s hp r0 (by rw [List.length_map]; exact Nat.le_trans (cut_len _ _ _) za)
    exact q _ _ _ e r
  · cases h
    rename_i z
    obtain ⟨e1, h1, o1⟩ := hx.str
    refine .inr (.inr ⟨z, e1, le_line h1, q _ I H (Ext.refl s) (rk_fz ?_)⟩)
    have e2 : cutS z lo hi = ⟨(cut z.cps.toList lo hi).toArray⟩ := by
      unfold cutS cut
      rw [Array.length_toList]
      rfl
    rw [e2]
    refine rep_str ?_ ?_
    · show (cut z.cps.toList lo hi).toArray.size ≤ LINE
      rw [List.size_toArray]
      exact Nat.le_trans (cut_len _ _ _) (by rw [Array.length_toList]; exact h1)
    · unfold PyData.strOk at *
      rw [← Array.all_toList, List.all_eq_true] at o1 ⊢
      exact fun c hc => o1 c (cut_mem hc)
  · cases h
/-- truth -/
theorem tru_okD {d : D} {c : Bool} {v : V} (h : truD d = some c) (s : Sub I H) (hx : See K I H d v) : TruV K v H c := by
  cases d with
  | non => simp only [truD] at h; cases h; rw [hx.non]; rfl
  | bl b => simp only [truD] at h; cases h; rw [hx.bl]; rfl
  | int i => simp only [truD] at h; cases h; rw [hx.int]; rfl
  | str x =>
    simp only [truD] at h
    cases h
    obtain ⟨e1, h1, _⟩ := hx.str
    rw [e1]
    exact ⟨le_line h1, rfl⟩
  | tup ds =>
    simp only [truD] at h
    cases h
    obtain ⟨a, xs, rfl, ha, ia, ra, za⟩ := hx.tup s
    refine .inr (.inl ⟨xs, .inl (.inl ha), ?_⟩)
    have := ra.len
    cases ds <;> cases xs <;> first | rfl | simp at this
  | lst ds =>
    simp only [truD] at h
    cases h
    obtain ⟨a, xs, rfl, ha, ra, za⟩ := hx.lst s
    refine .inl ⟨xs, .inl (.inl ha), ?_⟩
    have := ra.len
    cases ds <;> cases xs <;> first | rfl | simp at this
  | scr ns =>
    simp only [truD] at h
    cases h
    obtain ⟨a, rfl, ha, za⟩ := hx.scr s
    refine .inl ⟨_, ha, ?_⟩
    cases ns <;> rfl
  | _ => simp only [truD] at h; cases h
end
end R

set_option linter.all false
set_option maxHeartbeats 1000000
/-! Built-in functions. -/
namespace R
open PySem L2
section
variable {K : PySem.W.Frag} {B : Addr → Prop} {I H I' H' : Hp} {Q : VK}
def Sees (K : PySem.W.Frag) (I H : Hp) : List D → List V → Prop
  | [], vs => vs = []
  | d :: ds, vs => ∃ v r, vs = v :: r ∧ See K I H d v ∧ Sees K I H ds r
theorem Sees.ext {ds : List D} {vs : List V} (h : Sees K I H ds vs) (e : Ext I H I' H') : Sees K I' H' ds vs := by
  induction ds generalizing vs with
  | nil => exact h
  | cons d ds ih =>
    obtain ⟨v, r, rfl, h1, h2⟩ := h
    exact ⟨v, r, rfl, h1.ext e, ih h2⟩
theorem Sees.one {d : D} {vs : List V} (h : Sees K I H [d] vs) : ∃ v, vs = [v] ∧ See K I H d v := by
  obtain ⟨v, r, rfl, h1, h2⟩ := h
  cases (h2 : r = [])
  exact ⟨v, rfl, h1⟩
theorem Sees.two {d e : D} {vs : List V} (h : Sees K I H [d, e] vs) : ∃ v w, vs = [v, w] ∧ See K I H d v ∧ See K I H e w := by
  obtain ⟨v, r, rfl, h1, h2⟩ := h
  obtain ⟨w, rfl, h3⟩ := h2.one
  exact ⟨v, w, rfl, h1, h3⟩
theorem Sees.zero {vs : List V} (h : Sees K I H [] vs) : vs = [] := h
theorem intsD_v : ∀ {ds : List D} {ns : List Int} {xs : List V}, intsD ds = some ns → Reps K I ds xs → xs = ns.map V.int ∧ ds = ns.map .int
  | [], ns, xs, h, r => by
    simp only [intsD] at h
    simp only [Reps] at r
    cases h
    exact ⟨r, rfl⟩
  | d :: ds, ns, xs, h, r => by
    simp only [Reps] at r
    obtain ⟨x, r', rfl, h1, h2⟩ := r
    cases d <;> simp only [intsD] at h <;> first | cases h | skip
    rename_i i
    cases e : intsD ds with
    | none => rw [e] at h; cases h
    | some ms =>
      rw [e] at h
      cases h
      obtain ⟨q1, q2⟩ := intsD_v e h2
      simp only [Rep] at h1
      rw [q1, h1, q2]
      exact ⟨rfl, rfl⟩
theorem boolsD_v : ∀ {ds : List D} {ns : List Bool} {xs : List V}, boolsD ds = some ns → Reps K I ds xs → xs = ns.map V.bl
  | [], ns, xs, h, r => by
    simp only [boolsD] at h
    simp only [Reps] at r
    cases h
    exact r
  | d :: ds, ns, xs, h, r => by
    simp only [Reps] at r
    obtain ⟨x, r', rfl, h1, h2⟩ := r
    cases d <;> simp only [boolsD] at h <;> first | cases h | skip
    rename_i i
    cases e : boolsD ds with
    | none => rw [e] at h; cases h
    | some ms =>
      rw [e] at h
      cases h
      have q1 := boolsD_v e h2
      simp only [Rep] at h1
      rw [q1, h1]
      rfl
theorem maxI_spec : ∀ {ns : List Int}, ns ≠ [] → maxI ns ∈ ns ∧ ∀ y ∈ ns, y ≤ maxI ns
  | [], h => absurd rfl h
  | [x], _ => by simp [maxI]
  | x :: y :: r, _ => by
    obtain ⟨h1, h2⟩ := maxI_spec (ns := y :: r) (by simp)
    show max x (maxI (y :: r)) ∈ x :: y :: r ∧ ∀ z ∈ x :: y :: r, z ≤ max x (maxI (y :: r))
    refine ⟨?_, fun z hz => ?_⟩
    · by_cases c : x ≤ maxI (y :: r)
      · rw [Int.max_eq_right c]
        exact List.mem_cons_of_mem _ h1
      · rw [Int.max_eq_left (by omega)]
        exact List.mem_cons_self
    · rcases List.mem_cons.mp hz with rfl | hz
      · omega
      · have := h2 z hz
        omega
theorem minI_spec : ∀ {ns : List Int}, ns ≠ [] → minI ns ∈ ns ∧ ∀ y ∈ ns, minI ns ≤ y
  | [], h => absurd rfl h
  | [x], _ => by simp [minI]
  | x :: y :: r, _ => by
    obtain ⟨h1, h2⟩ := minI_spec (ns := y :: r) (by simp)
    show min x (minI (y :: r)) ∈ x :: y :: r ∧ ∀ z ∈ x :: y :: r, min x (minI (y :: r)) ≤ z
    refine ⟨?_, fun z hz => ?_⟩
    · by_cases c : x ≤ minI (y :: r)
      · rw [Int.min_eq_left c]
        exact List.mem_cons_self
      · rw [Int.min_eq_right (by omega)]
        exact List.mem_cons_of_mem _ h1
    · rcases List.mem_cons.mp hz with rfl | hz
      · omega
      · have := h2 z hz
        omega
theorem len_ok {ds : List D} {k : Kd} {d : D} {vs : List V} (h : biD .len ds = some (k, d)) (s : Sub I H) (hx : Sees K I H ds vs) (q : ∀ u I' H', Ext I H I' H' → RK K B H I' H' k d u → Q u H') : rLen K vs H Q := by
  unfold biD at h
  split at h <;> first | (rename_i e; cases e; done) | skip
  all_goals first | (cases h; done) | skip
  · cases h
    obtain ⟨v, rfl, g⟩ := hx.one
    obtain ⟨a, xs, rfl, ha, ra, za⟩ := g.lst s
    exact ⟨_, _, rfl, .inl ⟨xs, .inl (.inl ha), rfl⟩, by rw [ra.len]; exact q _ I H (Ext.refl s) (rk_fz rep_int)⟩
  · cases h
    obtain ⟨v, rfl, g⟩ := hx.one
    obtain ⟨a, xs, rfl, ha, ia, ra, za⟩ := g.tup s
    exact ⟨_, _, rfl, .inr ⟨xs, .inl (.inl ha), rfl⟩, by rw [ra.len]; exact q _ I H (Ext.refl s) (rk_fz rep_int)⟩
  · cases h
    obtain ⟨v, rfl, g⟩ := hx.one
    obtain ⟨a, rfl, ha, za⟩ := g.scr s
    exact ⟨_, _, rfl, .inl ⟨_, ha, rfl⟩, by rw [List.length_map]; exact q _ I H (Ext.refl s) (rk_fz rep_int)⟩
  · cases h
    obtain ⟨v, rfl, g⟩ := hx.one
    obtain ⟨e1, h1, o1⟩ := g.str
    rw [e1]
    exact ⟨_, _, rfl, ⟨le_line h1, rfl⟩, q _ I H (Ext.refl s) (rk_fz rep_int)⟩

/-- rules of one argument, each by its cases -/
theorem tuple_ok {d0 : D} {k : Kd} {d : D} {v : V} (h : biD .tuple [d0] = some (k, d)) (s : Sub I H) (g : See K I H d0 v) (q : ∀ u I' H', Ext I H I' H' → RK K B H I' H' k d u → Q u H') : kTup K v H Q := by
  cases d0 <;> simp only [biD] at h <;> first | cases h | skip
  · obtain ⟨a, xs, rfl, ha, ia, ra, za⟩ := g.tup s
    exact .inr ⟨a, xs, rfl, .inl (.inl ha), q _ I H (Ext.refl s) (rk_fz (rep_tup ia ra za))⟩
  · obtain ⟨a, xs, rfl, ha, ra, za⟩ := g.lst s
    refine .inl ⟨a, xs, rfl, .inl (.inl ha), fun p hp => ?_⟩
    obtain ⟨e, r⟩ := rk_newT s hp ra za
    exact q _ _ _ e r
theorem list_ok {ds : List D} {k : Kd} {d : D} {vs : List V} (h : biD .list ds = some (k, d)) (s : Sub I H) (hx : Sees K I H ds vs) (q : ∀ u I' H', Ext I H I' H' → RK K B H I' H' k d u → Q u H') (n1 : ds.length = 1) : rList K vs H Q := by
  match ds, n1 with
  | [d0], _ =>
    obtain ⟨v, rfl, g⟩ := hx.one
    cases d0 <;> simp only [biD] at h <;> first | cases h | skip
    · obtain ⟨a, xs, rfl, ha, ia, ra, za⟩ := g.tup s
      refine ⟨a, xs, rfl, .inr (.inl (.inl ha)), fun p hp => ?_⟩
      obtain ⟨e, r⟩ := rk_newL (B := B) s hp ra za
      exact q _ _ _ e r
    · obtain ⟨a, xs, rfl, ha, ra, za⟩ := g.lst s
      refine ⟨a, xs, rfl, .inl (.inl (.inl ha)), fun p hp => ?_⟩
      obtain ⟨e, r⟩ := rk_newL (B := B) s hp ra za
      exact q _ _ _ e r
    · obtain ⟨a, rfl, ha, za⟩ := g.scr s
      refine ⟨a, _, rfl, .inl ha, fun p hp => ?_⟩
      obtain ⟨e, r⟩ := rk_newL (B := B) s hp (reps_ints (K := K) (I := I) _) (by rw [List.length_map]; exact za)
      exact q _ _ _ e r
theorem int_ok {ds : List D} {k : Kd} {d : D} {vs : List V} (h : biD .int ds = some (k, d)) (s : Sub I H) (hx : Sees K I H ds vs) (q : ∀ u I' H', Ext I H I' H' → RK K B H I' H' k d u → Q u H') (n1 : ds.length = 1) : rInt vs H Q := by
  match ds, n1 with
  | [d0], _ =>
    obtain ⟨v, rfl, g⟩ := hx.one
    cases d0 <;> simp only [biD] at h <;> first | cases h | skip
    · exact .inl (.inr ⟨_, by rw [g.bl], q _ I H (Ext.refl s) (rk_fz rep_int)⟩)
    · exact .inl (.inl ⟨_, by rw [g.int], q _ I H (Ext.refl s) (rk_fz rep_int)⟩)
    · rename_i x _
      split at h
      · rename_i hz
        cases e : intText? x with
        | none => rw [e] at h; cases h
        | some n =>
          rw [e] at h
          cases h
          exact .inr ⟨x, n, by rw [g.str.1], e, hz, q _ I H (Ext.refl s) (rk_fz rep_int)⟩
      · cases h
theorem rep_okS {x : Str} (h : okS x = true) : Rep K I (.str x) (.str x) := by
  simp only [okS, Bool.and_eq_true, decide_eq_true_eq] at h
  exact rep_str h.1 h.2
theorem str_ok {ds : List D} {k : Kd} {d : D} {vs : List V} (h : biD .str ds = some (k, d)) (s : Sub I H) (hx : Sees K I H ds vs) (q : ∀ u I' H', Ext I H I' H' → RK K B H I' H' k d u → Q u H') (n1 : ds.length = 1) : rStr vs H Q := by
  match ds, n1 with
  | [d0], _ =>
    obtain ⟨v, rfl, g⟩ := hx.one
    cases d0 <;> simp only [biD] at h <;> first | cases h | skip
    split at h
    · rename_i hz
      cases h
      exact ⟨_, by rw [g.int], hz.1, q _ I H (Ext.refl s) (rk_fz (rep_okS hz.2))⟩
    · cases h
theorem all_ok {ds : List D} {k : Kd} {d : D} {vs : List V} (h : biD .all ds = some (k, d)) (s : Sub I H) (hx : Sees K I H ds vs) (q : ∀ u I' H', Ext I H I' H' → RK K B H I' H' k d u → Q u H') (n1 : ds.length = 1) : rAll K vs H Q := by
  match ds, n1 with
  | [d0], _ =>
    obtain ⟨v, rfl, g⟩ := hx.one
    cases d0 <;> simp only [biD] at h <;> first | cases h | skip
    rename_i xs0 _
    obtain ⟨a, xs, rfl, ha, ra, za⟩ := g.lst s
    cases e : boolsD xs0 with
    | none => rw [e] at h; cases h
    | some bs =>
      rw [e] at h
      cases h
      exact ⟨a, bs, rfl, by rw [← boolsD_v e ra]; exact .inl (.inl ha), q _ I H (Ext.refl s) (rk_fz rep_bl)⟩
theorem sum_ok {ds : List D} {k : Kd} {d : D} {vs : List V} (h : biD .sum ds = some (k, d)) (s : Sub I H) (hx : Sees K I H ds vs) (q : ∀ u I' H', Ext I H I' H' → RK K B H I' H' k d u → Q u H') (n1 : ds.length = 1) : rSum K vs H Q := by
  match ds, n1 with
  | [d0], _ =>
    obtain ⟨v, rfl, g⟩ := hx.one
    cases d0 <;> simp only [biD] at h <;> first | cases h | skip
    rename_i xs0 _
    obtain ⟨a, xs, rfl, ha, ra, za⟩ := g.lst s
    cases e : intsD xs0 with
    | none => rw [e] at h; cases h
    | some bs =>
      rw [e] at h
      cases h
      exact ⟨a, bs, rfl, by rw [← (intsD_v e ra).1]; exact .inl (.inl ha), q _ I H (Ext.refl s) (rk_fz rep_int)⟩
theorem max_ok {ds : List D} {k : Kd} {d : D} {vs : List V} (h : biD .max ds = some (k, d)) (s : Sub I H) (hx : Sees K I H ds vs) (q : ∀ u I' H', Ext I H I' H' → RK K B H I' H' k d u → Q u H') : rMax1 K vs H Q := by
  match ds with
  | [d0] =>
    obtain ⟨v, rfl, g⟩ := hx.one
    cases d0 <;> simp only [biD] at h <;> first | cases h | skip
    rename_i xs0
    obtain ⟨a, xs, rfl, ha, ra, za⟩ := g.lst s
    cases e : intsD xs0 with
    | none => rw [e] at h; cases h
    | some bs =>
      rw [e] at h
      have h : (if bs = [] then none else some (Kd.fz, D.int (maxI bs))) = some (k, d) := h
      split at h
      · cases h
      · rename_i hz
        cases h
        obtain ⟨m1, m2⟩ := maxI_spec hz
        refine .inr ⟨a, bs, rfl, by rw [← (intsD_v e ra).1]; exact .inl (.inl ha), List.length_pos_iff.mpr hz, fun m hm hle => ?_⟩
        have : m = maxI bs := Int.le_antisymm (m2 m hm) (hle _ m1)
        rw [this]
        exact q _ I H (Ext.refl s) (rk_fz rep_int)
  | [d0, d1] =>
    obtain ⟨v, w, rfl, g, g'⟩ := hx.two
    cases d0 <;> (try simp only [biD] at h) <;> first | cases h | skip
    cases d1 <;> (try simp only [biD] at h) <;> first | cases h | skip
    exact .inl ⟨_, _, by rw [g.int, g'.int], q _ I H (Ext.refl s) (rk_fz rep_int)⟩
  | [] => simp only [biD] at h; cases h
  | _ :: _ :: _ :: _ => simp only [biD] at h; cases h
theorem min_ok {ds : List D} {k : Kd} {d : D} {vs : List V} (h : biD .min ds = some (k, d)) (s : Sub I H) (hx : Sees K I H ds vs) (q : ∀ u I' H', Ext I H I' H' → RK K B H I' H' k d u → Q u H') : rMin1 K vs H Q := by
  match ds with
  | [d0] =>
    obtain ⟨v, rfl, g⟩ := hx.one
    cases d0 <;> simp only [biD] at h <;> first | cases h | skip
    rename_i xs0
    obtain ⟨a, xs, rfl, ha, ra, za⟩ := g.lst s
    cases e : intsD xs0 with
    | none => rw [e] at h; cases h
    | some bs =>
      rw [e] at h
      have h : (if bs = [] then none else some (Kd.fz, D.int (minI bs))) = some (k, d) := h
      split at h
      · cases h
      · rename_i hz
        cases h
        obtain ⟨m1, m2⟩ := minI_spec hz
        refine .inr ⟨a, bs, rfl, by rw [← (intsD_v e ra).1]; exact .inl (.inl ha), List.length_pos_iff.mpr hz, fun m hm hle => ?_⟩
        have : m = minI bs := Int.le_antisymm (hle _ m1) (m2 m hm)
        rw [this]
        exact q _ I H (Ext.refl s) (rk_fz rep_int)
  | [d0, d1] =>
    obtain ⟨v, w, rfl, g, g'⟩ := hx.two
    cases d0 <;> (try simp only [biD] at h) <;> first | cases h | skip
    cases d1 <;> (try simp only [biD] at h) <;> first | cases h | skip
    exact .inl ⟨_, _, by rw [g.int, g'.int], q _ I H (Ext.refl s) (rk_fz rep_int)⟩
  | [] => simp only [biD] at h; cases h
  | _ :: _ :: _ :: _ => simp only [biD] at h; cases h
/-- a value's type -/
def tyD : D → String
  | .non => "NoneType" | .bl _ => "bool" | .int _ => "int" | .str _ => "str" | .tup _ => "tuple" | .lst _ => "list" | .scr _ => "list" | _ => "dict"
theorem ty_ok {d : D} {v : V} (s : Sub I H) (g : See K I H d v) (n1 : ∀ a b, d ≠ .dk a b) (n2 : ∀ a b, d ≠ .dt a b) : TyX K H v (.type (tyD d)) := by
  cases d with
  | non => rw [g.non]; exact .base .non
  | bl b => rw [g.bl]; exact .base (.bl b)
  | int i => rw [g.int]; exact .base (.int i)
  | str x => rw [g.str.1]; exact .base (.str x)
  | tup ds =>
    obtain ⟨a, xs, rfl, ha, ia, ra, za⟩ := g.tup s
    exact .base (.tup ha)
  | lst ds =>
    obtain ⟨a, xs, rfl, ha, ra, za⟩ := g.lst s
    exact .base (.lst ha)
  | scr ns =>
    obtain ⟨a, rfl, ha, za⟩ := g.scr s
    rcases ha with (ha | ⟨o, ha⟩) | ⟨o, its, n, ho, hc, _⟩
    · exact .base (.lst ha)
    · exact .base (.frz ha)
    · exact .kList ho hc
  | dk a b => exact absurd rfl (n1 a b)
  | dt a b => exact absurd rfl (n2 a b)
theorem isi_ok {b : BI} {d : D} {c : Bool} {v : V} (h : isD b d = some c) (s : Sub I H) (g : See K I H d v) (q : Q (.bl c) H) : rIsi K [v, .ty (tyNm b)] H Q := by
  have key : kitB (tyD d) (tyNm b) = some c → rIsi K [v, .ty (tyNm b)] H Q := fun e =>
    ⟨v, .ty _, _, _, c, rfl, .ty _, ty_ok s g (fun x y z => by rw [z] at h; cases b <;> simp only [isD] at h <;> cases h) (fun x y z => by rw [z] at h; cases b <;> simp only [isD] at h <;> cases h), kit_ty e, q⟩
  cases b <;> cases d <;> simp only [isD] at h <;> first | (cases h; done) | (cases h; exact key (by simp only [tyD, tyNm]; decide +kernel))
theorem rangeL_len (a b : Int) : (rangeL a b).length = (b - a).toNat := by unfold rangeL; rw [List.length_map, List.length_range]
theorem rgV_eq (a b : Int) : rgV a b = (rangeL a b).map V.int := by
  unfold rgV rangeL
  rw [List.map_map]
  rfl
theorem small62_iff {i : Int} : small62 i = true ↔ -(2 ^ 62) ≤ i ∧ i < 2 ^ 62 := by
  simp only [small62, Bool.and_eq_true, decide_eq_true_eq]
end
end R

set_option linter.all false
set_option maxHeartbeats 2000000
/-! sorted(..) -/
namespace R
open PySem L2
theorem insI_perm (x : Int) : ∀ xs, (insI x xs).Perm (x :: xs)
  | [] => List.Perm.refl _
  | y :: ys => by
    rw [insI]
    split
    · exact List.Perm.refl _
    · exact ((insI_perm x ys).cons y).trans (List.Perm.swap x y ys)
theorem sortI_perm : ∀ xs : List Int, (sortI xs).Perm xs
  | [] => List.Perm.refl _
  | x :: xs => (insI_perm x _).trans ((sortI_perm xs).cons x)
theorem insI_pw (x : Int) : ∀ {xs : List Int}, xs.Pairwise (· ≤ ·) → (insI x xs).Pairwise (· ≤ ·)
  | [], _ => by
    rw [insI]
    exact List.pairwise_singleton _ _
  | y :: ys, h => by
    rw [insI]
    have h2 := List.pairwise_cons.mp h
    split
    · rename_i hxy
      refine List.pairwise_cons.mpr ⟨fun z hz => ?_, h⟩
      rcases List.mem_cons.mp hz with rfl | hz
      · exact hxy
      · exact Int.le_trans hxy (h2.1 z hz)
    · rename_i hxy
      refine List.pairwise_cons.mpr ⟨fun z hz => ?_, insI_pw x h2.2⟩
      rcases List.mem_cons.mp ((insI_perm x ys).mem_iff.mp hz) with rfl | hz
      · omega
      · exact h2.1 z hz
theorem sortI_pw : ∀ xs : List Int, (sortI xs).Pairwise (· ≤ ·)
  | [] => List.Pairwise.nil
  | x :: xs => insI_pw x (sortI_pw xs)
theorem sortI_uniq {ns ms : List Int} (h : ms.Perm ns) (p : ms.Pairwise (· ≤ ·)) : ms = sortI ns :=
  List.Perm.eq_of_pairwise (le := (· ≤ ·)) (fun a b _ _ h1 h2 => Int.le_antisymm h1 h2) p (sortI_pw ns) (h.trans (sortI_perm ns).symm)
/-! pairs -/
theorem leP_iff {x y : Int × Int} : leP x y = true ↔ x.1 < y.1 ∨ (x.1 = y.1 ∧ x.2 ≤ y.2) := by
  simp only [leP, Bool.or_eq_true, Bool.and_eq_true, decide_eq_true_eq]
theorem insP_perm (x : Int × Int) : ∀ xs, (insP x xs).Perm (x :: xs)
  | [] => List.Perm.refl _
  | y :: ys => by
    rw [insP]
    split
    · exact List.Perm.refl _
    · exact ((insP_perm x ys).cons y).trans (List.Perm.swap x y ys)
theorem sortP_perm : ∀ xs : List (Int × Int), (sortP xs).Perm xs
  | [] => List.Perm.refl _
  | x :: xs => (insP_perm x _).trans ((sortP_perm xs).cons x)
theorem insP_pw (x : Int × Int) : ∀ {xs : List (Int × Int)}, xs.Pairwise (fun a b => leP a b = true) → (insP x xs).Pairwise (fun a b => leP a b = true)
  | [], _ => by
    rw [insP]
    exact List.pairwise_singleton _ _
  | y :: ys, h => by
    rw [insP]
    have h2 := List.pairwise_cons.mp h
    split
    · rename_i hxy
      refine List.pairwise_cons.mpr ⟨fun z hz => ?_, h⟩
      rcases List.mem_cons.mp hz with rfl | hz
      · exact hxy
      · have a := leP_iff.mp hxy
        have b := leP_iff.mp (h2.1 z hz)
        exact leP_iff.mpr (by omega)
    · rename_i hxy
      refine List.pairwise_cons.mpr ⟨fun z hz => ?_, insP_pw x h2.2⟩
      rcases List.mem_cons.mp ((insP_perm x ys).mem_iff.mp hz) with rfl | hz
      · have a : ¬ _ := fun q => hxy (leP_iff.mpr q)
        exact leP_iff.mpr (by omega)
      · exact h2.1 z hz
theorem sortP_pw : ∀ xs : List (Int × Int), (sortP xs).Pairwise (fun a b => leP a b = true)
  | [] => List.Pairwise.nil
  | x :: xs => insP_pw x (sortP_pw xs)
theorem sortP_uniq {ns ms : List (Int × Int)} (h : ms.Perm ns) (p : ms.Pairwise (fun a b => leP a b = true)) : ms = sortP ns :=
  List.Perm.eq_of_pairwise (le := fun a b => leP a b = true) (fun a b _ _ h1 h2 => by
    have a1 := leP_iff.mp h1
    have a2 := leP_iff.mp h2
    exact Prod.ext (by omega) (by omega)) p (sortP_pw ns) (h.trans (sortP_perm ns).symm)
section
variable {K : PySem.W.Frag} {I H : Hp} {B : Addr → Prop}
def keyV (H : Hp) : V → Int × Int
  | .ref t => match H t with
    | some (.tup [.int i, .int j]) => (i, j)
    | _ => (0, 0)
  | _ => (0, 0)
theorem pair_key {p : Int × Int} {x : V} (s : Sub I H) (r : Rep K I (ofPair p) x) : keyV H x = p ∧ ∃ t, x = .ref t ∧ H t = some (.tup [.int p.1, .int p.2]) := by
  unfold ofPair at r
  simp only [Rep] at r
  obtain ⟨a, xs, rfl, h1, h2, _⟩ := r
  simp only [Reps] at h2
  obtain ⟨x1, r1, rfl, e1, x2, r2, rfl, e2, e3⟩ := h2
  simp only [Rep] at e1 e2
  subst e1 e2 e3
  rcases s a _ h1 with q | ⟨q, _⟩
  · exact ⟨by simp only [keyV, q], a, rfl, q⟩
  · cases q
theorem pairs_key (s : Sub I H) : ∀ {ps : List (Int × Int)} {xs : List V}, Reps K I (ps.map ofPair) xs → xs.map (keyV H) = ps ∧ ∀ x ∈ xs, (∃ t, x = .ref t ∧ H t = some (.tup [.int (keyV H x).1, .int (keyV H x).2])) ∧ Rep K I (ofPair (keyV H x)) x
  | [], xs, r => by
    rw [List.map_nil] at r
    simp only [Reps] at r
    subst r
    exact ⟨rfl, fun x m => nomatch m⟩
  | p :: ps, xs, r => by
    rw [List.map_cons] at r
    simp only [Reps] at r
    obtain ⟨x, r', rfl, h1, h2⟩ := r
    obtain ⟨k1, k2⟩ := pairs_key s h2
    obtain ⟨e1, t, e2, e3⟩ := pair_key s h1
    refine ⟨by rw [List.map_cons, k1, e1], fun y m => ?_⟩
    rcases List.mem_cons.mp m with rfl | m
    · rw [e1]
      exact ⟨⟨t, e2, e3⟩, h1⟩
    · exact k2 y m
theorem reps_of {f : V → D} : ∀ {ys : List V}, (∀ y ∈ ys, Rep K I (f y) y) → Reps K I (ys.map f) ys
  | [], _ => Reps.nil
  | y :: ys, h => Reps.cons (h y List.mem_cons_self) (reps_of fun z m => h z (List.mem_cons_of_mem _ m))
theorem pairsD_eq : ∀ {ds : List D} {ps : List (Int × Int)}, pairsD ds = some ps → ds = ps.map ofPair
  | [], ps, h => by
    simp only [pairsD] at h
    cases h
    rfl
  | d :: ds, ps, h => by
    unfold pairsD at h
    split at h
    · cases h; rename_i e; cases e
    · rename_i i j ds' e
      cases e
      cases q : pairsD ds with
      | none => rw [q] at h; cases h
      | some ps' =>
        rw [q] at h
        cases h
        rw [pairsD_eq q]
        rfl
    · cases h
theorem sorted_ok {ds : List D} {k : Kd} {d : D} {vs : List V} (h : biD .sorted ds = some (k, d)) (s : Sub I H) (hx : Sees K I H ds vs) (q : ∀ u I' H', Ext I H I' H' → RK K B H I' H' k d u → Q u H') (n1 : ds.length = 1) : rSortedI K vs H Q ∨ rSortedPO K vs H Q := by
  match ds, n1 with
  | [d0], _ =>
    obtain ⟨v, rfl, g⟩ := hx.one
    cases d0 <;> simp only [biD] at h <;> first | cases h | skip
    rename_i xs0 _
    obtain ⟨a, xs, rfl, ha, ra, za⟩ := g.lst s
    cases e5 : intsD xs0 with
    | some ns =>
      rw [e5] at h
      cases h
      obtain ⟨rfl, rfl⟩ := intsD_v e5 ra
      refine .inl ⟨a, ns, rfl, .inl (.inl ha), fun ms p h1 h2 hp => ?_⟩
      rw [sortI_uniq h1 h2]
      have zl : ((sortI ns).map D.int).length ≤ LINE := by
        rw [List.length_map, (sortI_perm ns).length_eq]
        rw [List.length_map] at za
        exact za
      obtain ⟨e, r⟩ := rk_newL (B := B) s hp (reps_ints (K := K) (I := I) (sortI ns)) zl
      exact q _ _ _ e r
    | none =>
      rw [e5] at h
      cases e6 : pairsD xs0 with
      | none => rw [e6] at h; cases h
      | some ps =>
        rw [e6] at h
        cases h
        have e7 := pairsD_eq e6
        subst e7
        obtain ⟨k1, k2⟩ := pairs_key s ra
        refine .inr ⟨a, xs, keyV H, rfl, .inl (.inl ha), fun x m => (k2 x m).1, fun ys p h1 h2 hp => ?_⟩
        have hm : ∀ y ∈ ys, Rep K I (ofPair (keyV H y)) y := fun y m => (k2 y (h2.perm.mem_iff.mp m)).2
        have e8 : ys.map (keyV H) = sortP ps := by
          refine sortP_uniq ?_ ?_
          · rw [← k1]
            exact h2.perm.map _
          · refine List.pairwise_map.mpr (h1.imp fun {x y} z => ?_)
            have z := SrtO.lexB_no.mp z
            exact leP_iff.mpr (by omega)
        have rr := reps_of hm
        have e9 : ys.map (fun y => ofPair (keyV H y)) = (sortP ps).map ofPair := by
          rw [← e8, List.map_map]
          rfl
        rw [e9] at rr
        have zl : ((sortP ps).map ofPair).length ≤ LINE := by
          rw [List.length_map, (sortP_perm ps).length_eq]
          rw [List.length_map] at za
          exact za
        obtain ⟨e, r⟩ := rk_newL (B := B) s hp rr zl
        exact q _ _ _ e r
end
end R

set_option linter.all false
set_option maxHeartbeats 2000000
/-! Expressions: a term's reading is met by what the term computes. -/
namespace R
open PySem L2
/-- what a caller may lean on -/
def CallOk (K : PySem.W.Frag) (cl : Nat → List D → Option (Kd × D)) (sp : Nat → Sp) : Prop :=
  ∀ (f : Nat) (ds : List D) (k : Kd) (d : D), cl f ds = some (k, d) → ∀ (B : Addr → Prop) (vs : List V) (I H : Hp) (Q : VK), Sub I H → Reps K I ds vs →
    (∀ v I' H', Ext I H I' H' → RK K B H I' H' k d v → Q v H') → sp f vs H Q E0
section
variable (K : PySem.W.Frag) (B : Addr → Prop)
def EvOk (t : TE) (f : Env → Option (Kd × D)) : Prop :=
  ∀ (σ : List (Option V)) (I H : Hp) (ρ : Env) (k : Kd) (d : D) (Q : VK), Sta K B I H σ ρ → f ρ = some (k, d) → (∀ v I' H', Ext I H I' H' → RK K B H I' H' k d v → Q v H') → t σ H Q
def EvOkT (t : TT) (f : Env → Option Bool) : Prop :=
  ∀ (σ : List (Option V)) (I H : Hp) (ρ : Env) (c : Bool) (Q : Bool → Hp → Prop), Sta K B I H σ ρ → f ρ = some c → (∀ I' H', Ext I H I' H' → Q c H') → t σ H Q
def EvOkF (t : TA) (f : Env → Option (List D)) : Prop :=
  ∀ (σ : List (Option V)) (I H : Hp) (ρ : Env) (ds : List D) (Q : List V → Hp → Prop), Sta K B I H σ ρ → f ρ = some ds → (∀ vs I' H', Ext I H I' H' → Reps K I' ds vs → Q vs H') → t σ H Q
def EvOkB (t : TA) (f : Env → Option (List D)) : Prop :=
  ∀ (σ : List (Option V)) (I H : Hp) (ρ : Env) (ds : List D) (Q : List V → Hp → Prop), Sta K B I H σ ρ → f ρ = some ds → (∀ vs I' H', Ext I H I' H' → Sees K I' H' ds vs → Q vs H') → t σ H Q
def EvOkO (t : TO) (f : Env → Option (Option Int)) : Prop :=
  ∀ (σ : List (Option V)) (I H : Hp) (ρ : Env) (o : Option Int) (Q : Option Int → Hp → Prop), Sta K B I H σ ρ → f ρ = some o → (∀ I' H', Ext I H I' H' → Q o H') → t σ H Q
end
section
variable {K : PySem.W.Frag} {B : Addr → Prop} {cl : Nat → List D → Option (Kd × D)} {sp : Nat → Sp}
/-- a value handed on: frozen -/
theorem esc_ok {k : Kd} {d e : D} {v : V} {I H I' H' : Hp} (h : esc (k, d) = some e) (x : Ext I H I' H') (r : RK K B H I' H' k d v) : e = d ∧ ∃ I'', Ext I H I'' H' ∧ Rep K I'' d v ∧ ∀ b o, I' b = some o → I'' b = some o := by
  cases k with
  | fz =>
    cases h
    exact ⟨rfl, I', x, r, fun _ _ h => h⟩
  | ow =>
    cases h
    obtain ⟨⟨p, rfl, hp, c⟩, p', e, hs⟩ := r
    cases e
    obtain ⟨o, ho, _⟩ := c.there
    exact ⟨rfl, _, x.freeze ho hs hp, c.rep ho hp, fun b u q => by rw [upd_ne (ne_of_none q hp)]; exact q⟩
  | bo => cases h
theorem EvOk.see {t : TE} {f : Env → Option (Kd × D)} (h : EvOk K B t f) {σ : List (Option V)} {I H : Hp} {ρ : Env} {k : Kd} {d : D} {Q : VK} (s : Sta K B I H σ ρ) (e : f ρ = some (k, d))
    (q : ∀ v I' H', Ext I H I' H' → See K I' H' d v → Q v H') : t σ H Q := h σ I H ρ k d Q s e fun v I' H' x r => q v I' H' x r.see
theorem EvOk.fz {t : TE} {f : Env → Option (Kd × D)} (h : EvOk K B t f) {σ : List (Option V)} {I H : Hp} {ρ : Env} {r : Kd × D} {d : D} {Q : VK} (s : Sta K B I H σ ρ) (e : f ρ = some r) (z : esc r = some d)
    (q : ∀ v I' H', Ext I H I' H' → Rep K I' d v → Q v H') : t σ H Q := h σ I H ρ r.1 r.2 Q s e fun v I' H' x g => by
  obtain ⟨rfl, I'', y, g', _⟩ := esc_ok z x g
  exact q v I'' H' y g'
theorem RK.step {I H I1 H1 I2 H2 : Hp} {k : Kd} {d : D} {v : V} (x : Ext I H I1 H1) (r : RK K B H1 I2 H2 k d v) : RK K B H I2 H2 k d v := by
  cases k with
  | fz => exact r
  | ow =>
    obtain ⟨h, p, e, z⟩ := r
    refine ⟨h, p, e, ?_⟩
    cases q : H p with
    | none => rfl
    | some o =>
      rw [x.hh p o q] at z
      cases z
  | bo => exact r
theorem gl_rep {I : Hp} {d : D} {x : V} (h : x = vOf d) (z : (match d with | .int _ => true | .bl _ => true | .non => true | .str y => okS y | _ => false) = true) : Rep K I d x := by
  subst h
  cases d <;> first | (cases z; done) | skip
  · exact rep_non
  · exact rep_bl
  · exact rep_int
  · exact rep_okS z
theorem onT_some {r : Option (Kd × D)} {c : Bool} (h : onT r = some c) : ∃ k d, r = some (k, d) ∧ truD d = some c := by
  unfold onT at h
  split at h
  · exact ⟨_, _, rfl, h⟩
  · cases h
theorem EvOk.tru {t : TE} {f : Env → Option (Kd × D)} (h : EvOk K B t f) : EvOkT K B (tTru K t) fun ρ => onT (f ρ) := by
  intro σ I H ρ c Q s e q
  obtain ⟨k, d, e1, e2⟩ := onT_some e
  exact h.see s e1 fun v I' H' x g => ⟨c, tru_okD e2 x.su g, q I' H' x⟩
/-- two in a row -/
theorem two_ok {ta tb : TE} {f g : Env → Option (Kd × D)} (ha : EvOk K B ta f) (hb : EvOk K B tb g) {σ : List (Option V)} {I H : Hp} {ρ : Env} {k k' : Kd} {x y : D} {R : V → V → Hp → Prop} (s : Sta K B I H σ ρ) (e1 : f ρ = some (k, x)) (e2 : g ρ = some (k', y))
    (q : ∀ v w I' H', Ext I H I' H' → See K I' H' x v → See K I' H' y w → R v w H') : ta σ H fun v H1 => tb σ H1 fun w H2 => R v w H2 :=
  ha.see s e1 fun v I1 H1 x1 g1 => hb.see (s.ext x1) e2 fun w I2 H2 x2 g2 => q v w I2 H2 (x1.trans x2) (g1.ext x2) g2
theorem cmp2_ok {op : COp} {ta tb : TE} {f g : Env → Option (Kd × D)} (ha : EvOk K B ta f) (hb : EvOk K B tb g) {σ : List (Option V)} {I H : Hp} {ρ : Env} {k k' : Kd} {x y : D} {c : Bool} {Q : VK} (s : Sta K B I H σ ρ) (e1 : f ρ = some (k, x)) (e2 : g ρ = some (k', y))
    (e : cmpD op x y = some c) (q : ∀ I' H', Ext I H I' H' → Q (.bl c) H') : rdCmp K op ta tb σ H Q := by
  have plain : op ≠ .isin ∧ op ≠ .notin → tOp (rCmp K op) ta tb σ H Q := fun nd =>
    two_ok ha hb s e1 e2 fun v w I' H' z g1 g2 => cmp_ok e z.su g1 g2 nd (q I' H' z)
  have isin : ∀ neg : Bool, op = (if neg then .notin else .isin) → (tOp (rCmp K op) ta tb σ H Q) ∨ (ta σ H fun v H1 => tb σ H1 fun w H2 => ∃ a o, w = .ref a ∧ DGet H2 a v o ∧ Q (.bl (if neg then !o.isSome else o.isSome)) H2) := fun neg e3 => by
    subst e3
    cases hd : isDct y with
    | true => exact .inr (two_ok ha hb s e1 e2 fun v w I' H' z g1 g2 => (in_ok e z.su g1 g2 (q I' H' z)).2 hd)
    | false => exact .inl (two_ok ha hb s e1 e2 fun v w I' H' z g1 g2 => (in_ok e z.su g1 g2 (q I' H' z)).1 hd)
  cases op with
  | isin => exact isin false rfl
  | notin => exact isin true rfl
  | _ => exact plain ⟨(by intro h; injection h), (by intro h; injection h)⟩
end
end R

set_option linter.all false
set_option maxHeartbeats 2000000
/-! Slots, what is walked, comprehensions. -/
namespace R
open PySem L2
section
variable {K : PySem.W.Frag} {B : Addr → Prop} {I H I' H' : Hp} {σ : List (Option V)} {ρ ρ' : Env} {Q : VK}
theorem wipeR_len (ρ : Env) : ∀ vs : List Nat, (wipeR ρ vs).length = ρ.length
  | [] => rfl
  | v :: vs => by
    unfold wipeR
    rw [List.length_set, wipeR_len ρ vs]
theorem wipeR_some {i : Nat} {x : Kd × D} : ∀ {vs : List Nat}, (wipeR ρ vs)[i]? = some (some x) → ρ[i]? = some (some x) ∧ i ∉ vs
  | [], h => ⟨h, by simp⟩
  | v :: vs, h => by
    unfold wipeR at h
    by_cases hi : v = i
    · subst hi
      by_cases hv : v < (wipeR ρ vs).length
      · rw [List.getElem?_set_self hv] at h; cases h
      · rw [List.getElem?_eq_none (by simpa using hv)] at h; cases h
    · rw [List.getElem?_set_ne hi] at h
      obtain ⟨h1, h2⟩ := wipeR_some h
      exact ⟨h1, by simp only [List.mem_cons, not_or]; exact ⟨fun e => hi e.symm, h2⟩⟩
theorem Sta.wiped (s : Sta K B I H σ ρ) (vs : List Nat) : Sta K B I H (wipe σ vs) (wipeR ρ vs) := by
  refine ⟨s.su, s.ba, by rw [wipe_length, wipeR_len]; exact s.sl.len, fun i d h => ?_, fun i d h => ?_, fun i d h => ?_, fun i j d e p ne h1 h2 h3 h4 => ?_⟩
  · obtain ⟨h1, h2⟩ := wipeR_some h
    obtain ⟨v, q1, q2⟩ := s.sl.fz i d h1
    exact ⟨v, by rw [wipe_out h2]; exact q1, q2⟩
  · obtain ⟨h1, h2⟩ := wipeR_some h
    obtain ⟨p, q1, q2⟩ := s.sl.ow i d h1
    exact ⟨p, by rw [wipe_out h2]; exact q1, q2⟩
  · exact s.sl.bo i d (wipeR_some h).1
  · exact s.sl.ne i j d e p ne (wipeR_some h1).1 (wipeR_some h2).1 (by rw [← wipe_out (wipeR_some h1).2]; exact h3) (by rw [← wipe_out (wipeR_some h2).2]; exact h4)
theorem Sta.setF {i : Nat} {d : D} {v : V} (s : Sta K B I H σ ρ) (r : Rep K I d v) (hi : i < ρ.length) : Sta K B I H (σ.set i (some v)) (ρ.set i (some (.fz, d))) := by
  have hl : i < σ.length := by rw [s.sl.len]; exact hi
  refine ⟨s.su, s.ba, by rw [List.length_set, List.length_set]; exact s.sl.len, fun j e h => ?_, fun j e h => ?_, fun j e h => ?_, fun j k e e' p ne h1 h2 h3 h4 => ?_⟩
  · by_cases q : i = j
    · subst q
      rw [List.getElem?_set_self hi] at h
      cases h
      exact ⟨v, List.getElem?_set_self hl, r⟩
    · rw [List.getElem?_set_ne q] at h
      obtain ⟨w, q1, q2⟩ := s.sl.fz j e h
      exact ⟨w, by rw [List.getElem?_set_ne q]; exact q1, q2⟩
  · by_cases q : i = j
    · subst q
      rw [List.getElem?_set_self hi] at h
      cases h
    · rw [List.getElem?_set_ne q] at h
      obtain ⟨w, q1, q2⟩ := s.sl.ow j e h
      exact ⟨w, by rw [List.getElem?_set_ne q]; exact q1, q2⟩
  · by_cases q : i = j
    · subst q
      rw [List.getElem?_set_self hi] at h
      cases h
    · rw [List.getElem?_set_ne q] at h
      exact s.sl.bo j e h
  · have n1 : i ≠ j := fun q => by
      subst q
      rw [List.getElem?_set_self hi] at h1
      cases h1
    have n2 : i ≠ k := fun q => by
      subst q
      rw [List.getElem?_set_self hi] at h2
      cases h2
    rw [List.getElem?_set_ne n1] at h1 h3
    rw [List.getElem?_set_ne n2] at h2 h4
    exact s.sl.ne j k e e' p ne h1 h2 h3 h4
/-- an owned thing goes to a slot -/
theorem Sta.setO {i : Nat} {d : D} {p : Addr} (s : Sta K B I H σ ρ) (hi : i < ρ.length) (h0 : I p = none) (c : OwnC K I H p d) (nb : ¬ B p)
    (ne : ∀ (j : Nat) (e : D), j ≠ i → ρ[j]? = some (some (Kd.ow, e)) → σ[j]? ≠ some (some (V.ref p))) : Sta K B I H (σ.set i (some (.ref p))) (ρ.set i (some (.ow, d))) := by
  have hl : i < σ.length := by rw [s.sl.len]; exact hi
  refine ⟨s.su, s.ba, by rw [List.length_set, List.length_set]; exact s.sl.len, fun j e h => ?_, fun j e h => ?_, fun j e h => ?_, fun j k e e' q nq h1 h2 h3 h4 => ?_⟩
  · by_cases q : i = j
    · subst q
      rw [List.getElem?_set_self hi] at h
      cases h
    · rw [List.getElem?_set_ne q] at h
      obtain ⟨w, q1, q2⟩ := s.sl.fz j e h
      exact ⟨w, by rw [List.getElem?_set_ne q]; exact q1, q2⟩
  · by_cases q : i = j
    · subst q
      rw [List.getElem?_set_self hi] at h
      cases h
      exact ⟨p, List.getElem?_set_self hl, h0, c, nb⟩
    · rw [List.getElem?_set_ne q] at h
      obtain ⟨w, q1, q2⟩ := s.sl.ow j e h
      exact ⟨w, by rw [List.getElem?_set_ne q]; exact q1, q2⟩
  · by_cases q : i = j
    · subst q
      rw [List.getElem?_set_self hi] at h
      cases h
    · rw [List.getElem?_set_ne q] at h
      exact s.sl.bo j e h
  · by_cases q1 : i = j
    · subst q1
      have n2 : i ≠ k := nq
      rw [List.getElem?_set_self hl] at h3
      rw [List.getElem?_set_ne n2] at h2 h4
      cases h3
      exact ne k e' n2.symm h2 h4
    · rw [List.getElem?_set_ne q1] at h1 h3
      by_cases q2 : i = k
      · subst q2
        rw [List.getElem?_set_self hl] at h4
        cases h4
        exact ne j e (fun z => q1 z.symm) h1 h3
      · rw [List.getElem?_set_ne q2] at h2 h4
        exact s.sl.ne j k e e' q nq h1 h2 h3 h4
/-- what a target's slots become -/
theorem many_ok : ∀ {is : List Nat} {ds : List D} {vs : List V} {σ : List (Option V)} {ρ ρ' : Env} {Q : List (Option V) → Hp → Prop}, setMany is ds ρ = some ρ' → Sta K B I H σ ρ → Reps K I ds vs →
    (∀ σ', Sta K B I H σ' ρ' → (∀ ws, (∀ i ∈ is, i ∈ ws) → wipe σ' ws = wipe σ ws) → Q σ' H) → rdG.rdGs is vs σ H Q
  | [], ds, vs, σ, ρ, ρ', Q, h, s, r, q => by
    cases ds with
    | nil =>
      simp only [setMany] at h
      cases h
      simp only [Reps] at r
      exact ⟨r, q σ s fun _ _ => rfl⟩
    | cons d ds => simp only [setMany] at h; cases h
  | i :: is, ds, vs, σ, ρ, ρ', Q, h, s, r, q => by
    cases ds with
    | nil => simp only [setMany] at h; cases h
    | cons d ds =>
      simp only [setMany] at h
      split at h
      · rename_i hi
        simp only [Reps] at r
        obtain ⟨x, r', rfl, h1, h2⟩ := r
        refine ⟨x, r', rfl, ?_⟩
        show rdG.rdGs is r' (σ.set i (some x)) H Q
        refine many_ok h (s.setF h1 hi) h2 fun σ' s' w => q σ' s' fun ws hw => ?_
        rw [w ws fun j hj => hw j (List.mem_cons_of_mem _ hj)]
        exact wipe_set (hw i List.mem_cons_self)
      · cases h
where wipe_set {σ : List (Option V)} {i : Nat} {x : Option V} : ∀ {ws : List Nat}, i ∈ ws → wipe (σ.set i x) ws = wipe σ ws
  | w :: ws, h => by
    unfold wipe
    by_cases e : i ∈ ws
    · rw [wipe_set e]
    · have e2 : i = w := (List.mem_cons.mp h).resolve_right e
      subst e2
      have key : ∀ us : List Nat, i ∉ us → wipe (σ.set i x) us = (wipe σ us).set i x := fun us => by
        induction us with
        | nil => intro _; rfl
        | cons u us ih =>
          intro hu
          simp only [List.mem_cons, not_or] at hu
          unfold wipe
          rw [ih hu.2, List.set_comm _ _ hu.1]
      rw [key ws e, List.set_set]
theorem wipe_twice (σ : List (Option V)) : ∀ vs : List Nat, wipe (wipe σ vs) vs = wipe σ vs := fun vs => by
  have key : ∀ us : List Nat, (∀ u ∈ us, u ∈ vs) → wipe (wipe σ vs) us = wipe σ vs := fun us => by
    induction us with
    | nil => intro _; rfl
    | cons u us ih =>
      intro h
      show (wipe (wipe σ vs) us).set u none = wipe σ vs
      rw [ih fun w hw => h w (List.mem_cons_of_mem _ hw)]
      apply List.ext_getElem?
      intro j
      by_cases e : u = j
      · subst e
        by_cases hl : u < (wipe σ vs).length
        · rw [List.getElem?_set_self hl]
          cases q : (wipe σ vs)[u]? with
          | none =>
            rw [List.getElem?_eq_none_iff] at q
            exact absurd hl (by omega)
          | some o =>
            cases o with
            | none => rfl
            | some x => exact absurd (h u List.mem_cons_self) (wipe_some q).2
        · rw [List.set_eq_of_length_le (by omega)]
      · rw [List.getElem?_set_ne e]
  exact key vs fun _ h => h
theorem tg_ok {g : Tg} {d : D} {v : V} {Q : List (Option V) → Hp → Prop} (h : setTg g d ρ = some ρ') (s : Sta K B I H σ ρ) (r : Rep K I d v)
    (q : ∀ σ', Sta K B I H σ' ρ' → (∀ ws, (∀ i ∈ tgS g, i ∈ ws) → wipe σ' ws = wipe σ ws) → Q σ' H) : rdG K g v σ H Q := by
  cases g with
  | nm i =>
    simp only [setTg] at h
    split at h
    · rename_i hi
      cases h
      exact q _ (s.setF r hi) fun ws hw => many_ok.wipe_set (hw i List.mem_cons_self)
    · cases h
  | tp is =>
    cases d with
    | tup ds =>
      simp only [setTg] at h
      have r' := r
      simp only [Rep] at r
      obtain ⟨a, xs, rfl, h1, h2, h3⟩ := r
      have hl : ds.length = is.length := ih2 h
      have ha : H a = some (.tup xs) := by
        rcases s.su a _ h1 with z | ⟨z, _⟩
        · exact z
        · cases z
      exact ⟨a, xs, rfl, .inl (.inl ha), by rw [h2.len]; exact hl, many_ok h s h2 q⟩
    | _ => simp only [setTg] at h; cases h
where ih2 : ∀ {is : List Nat} {ds : List D} {ρ ρ' : Env}, setMany is ds ρ = some ρ' → ds.length = is.length
  | [], [], _, _, _ => rfl
  | [], _ :: _, _, _, h => by simp only [setMany] at h; cases h
  | _ :: _, [], _, _, h => by simp only [setMany] at h; cases h
  | i :: is, d :: ds, ρ, _, h => by
    simp only [setMany] at h
    split at h
    · rw [List.length_cons, List.length_cons, ih2 h]
    · cases h

/-! ### what is walked -/
/-- fr: the source is frozen -/
def SrcOk (K : PySem.W.Frag) (J : It) (I H : Hp) (xs : List D) (fr : Prop) : Prop :=
  ∃ P : Hp → Prop, P H ∧ (∀ H', (∀ b o, H b = some o → H' b = some o) → P H') ∧ (fr → ∀ H' : Hp, (∀ b o, I b = some o → H' b = H b) → P H') ∧
    ∀ (I' H' : Hp) (i : Nat), (∀ b o, I b = some o → I' b = some o) → Sub I' H' → P H' →
      (∀ d, xs[i]? = some d → J.go i H' ∧ ∀ x H'', J.yld i H' x H'' → ∃ I'', Ext I' H' I'' H'' ∧ Rep K I'' d x) ∧ (xs.length ≤ i → J.stop i H')
theorem sub_lst {a : Addr} {xs : List V} (s : Sub I H) (h : I a = some (.lst xs)) : H a = some (.lst xs) := by
  rcases s a _ h with z | ⟨z, _⟩
  · exact z
  · cases z
theorem sub_tup {a : Addr} {xs : List V} (s : Sub I H) (h : I a = some (.tup xs)) : H a = some (.tup xs) := by
  rcases s a _ h with z | ⟨z, _⟩
  · exact z
  · cases z
theorem src_list {a : Addr} {vs : List V} {ds : List D} {fr : Prop} (s : Sub I H) (ha : H a = some (.lst vs)) (r : Reps K I ds vs) (hf : fr → I a = some (.lst vs)) : SrcOk K (Itl K a) I H ds fr := by
  refine ⟨fun H' => H' a = some (.lst vs), ha, fun H' k => k a _ ha, fun f H' k => (k a _ (hf f)).trans ha, fun I' H' i ii su p => ⟨fun d hd => ?_, fun hi => ⟨vs, .inl (.inl p), by rw [r.len]; exact hi⟩⟩⟩
  obtain ⟨x, hx, rx⟩ := r.get hd
  refine ⟨⟨vs, x, .inl (.inl p), hx⟩, fun y H'' hy => ?_⟩
  obtain ⟨rfl, hy⟩ := hy
  have : x = y := Option.some.inj (hx.symm.trans (hy vs (.inl (.inl p))))
  subst this
  exact ⟨I', Ext.refl su, rx.mono ii _ _⟩
theorem src_scr {a : Addr} {ns : List Int} {fr : Prop} (h : SqL K I a (ns.map V.int)) : SrcOk K (Itl K a) I H (ns.map .int) fr := by
  refine ⟨fun H' => True, trivial, fun _ _ => trivial, fun _ _ _ => trivial, fun I' H' i ii su _ => ?_⟩
  have h' : SqL K H' a (ns.map V.int) := sql_sub su (rd_mono ii h)
  refine ⟨fun d hd => ?_, fun hi => ⟨_, h', by rw [List.length_map] at hi ⊢; exact hi⟩⟩
  have r := reps_ints (K := K) (I := I') ns
  obtain ⟨x, hx, rx⟩ := r.get hd
  refine ⟨⟨_, x, h', hx⟩, fun y H'' hy => ?_⟩
  obtain ⟨rfl, hy⟩ := hy
  have : x = y := Option.some.inj (hx.symm.trans (hy _ h'))
  subst this
  exact ⟨I', Ext.refl su, rx⟩
theorem src_tup {a : Addr} {vs : List V} {ds : List D} {fr : Prop} (h : I a = some (.tup vs)) (r : Reps K I ds vs) : SrcOk K (Itt K a) I H ds fr := by
  refine ⟨fun H' => True, trivial, fun _ _ => trivial, fun _ _ _ => trivial, fun I' H' i ii su _ => ?_⟩
  have h' : SqT K H' a vs := .inl (.inl (sub_tup su (ii _ _ h)))
  refine ⟨fun d hd => ?_, fun hi => ⟨_, h', by rw [r.len]; exact hi⟩⟩
  obtain ⟨x, hx, rx⟩ := r.get hd
  refine ⟨⟨_, x, h', hx⟩, fun y H'' hy => ?_⟩
  obtain ⟨rfl, hy⟩ := hy
  have : x = y := Option.some.inj (hx.symm.trans (hy _ h'))
  subst this
  exact ⟨I', Ext.refl su, rx.mono ii _ _⟩
theorem src_str {x : Str} {fr : Prop} (h : PyData.strOk x = true) : SrcOk K (Its x) I H (signs x) fr := by
  refine ⟨fun H' => True, trivial, fun _ _ => trivial, fun _ _ _ => trivial, fun I' H' i ii su _ => ⟨fun d hd => ?_, fun hi => ?_⟩⟩
  · unfold signs at hd
    rw [List.getElem?_map] at hd
    cases e : x.cps.toList[i]? with
    | none => rw [e] at hd; cases hd
    | some c =>
      rw [e] at hd
      cases hd
      have hm := List.mem_of_getElem? e
      have hi : i < x.cps.size := by
        have := (List.getElem?_eq_some_iff.mp e).1
        rw [Array.length_toList] at this
        exact this
      refine ⟨hi, fun y H'' hy => ?_⟩
      obtain ⟨rfl, c', hc, rfl⟩ := hy
      rw [← Array.getElem?_toList, e] at hc
      cases hc
      exact ⟨I', Ext.refl su, rep_str (by show 1 ≤ LINE; decide) (strOk_sign h hm)⟩
  · unfold signs at hi
    rw [List.length_map, Array.length_toList] at hi
    exact hi
theorem rangeL_get (a b : Int) (i : Nat) : (rangeL a b)[i]? = if i < (b - a).toNat then some (a + (i : Nat)) else none := by
  unfold rangeL
  by_cases h : i < (b - a).toNat
  · rw [List.getElem?_map, List.getElem?_range h, if_pos h]
    rfl
  · rw [if_neg h]
    exact List.getElem?_eq_none (by rw [List.length_map, List.length_range]; omega)
theorem src_rng {a b : Int} {fr : Prop} : SrcOk K (Itr a (b - a).toNat) I H ((rangeL a b).map .int) fr := by
  refine ⟨fun H' => True, trivial, fun _ _ => trivial, fun _ _ _ => trivial, fun I' H' i ii su _ => ⟨fun d hd => ?_, fun hi => ?_⟩⟩
  · rw [List.getElem?_map, rangeL_get] at hd
    split at hd
    · rename_i hi
      cases hd
      refine ⟨hi, fun y H'' hy => ?_⟩
      obtain ⟨rfl, rfl⟩ := hy
      exact ⟨I', Ext.refl su, rep_int⟩
    · cases hd
  · rw [List.length_map, rangeL_len] at hi
    exact hi
theorem src_enum {a : Addr} {vs : List V} {ds : List D} {fr : Prop} (s : Sub I H) (ha : H a = some (.lst vs)) (r : Reps K I ds vs) (hf : fr → I a = some (.lst vs)) : SrcOk K (Ite K a) I H (ds.zipIdx.map fun p => .tup [.int (p.2 : Nat), p.1]) fr := by
  refine ⟨fun H' => H' a = some (.lst vs), ha, fun H' k => k a _ ha, fun f H' k => (k a _ (hf f)).trans ha, fun I' H' i ii su p => ⟨fun d hd => ?_, fun hi => ⟨vs, .inl (.inl p), by rw [r.len]; rw [List.length_map, List.length_zipIdx] at hi; exact hi⟩⟩⟩
  rw [List.getElem?_map, List.getElem?_zipIdx] at hd
  cases e : ds[i]? with
  | none => rw [e] at hd; cases hd
  | some d0 =>
    rw [e] at hd
    cases hd
    obtain ⟨x, hx, rx⟩ := r.get e
    refine ⟨⟨vs, x, .inl (.inl p), hx⟩, fun y H'' hy => ?_⟩
    obtain ⟨T, x', rfl, nT, rfl, hy⟩ := hy
    have : x = x' := Option.some.inj (hx.symm.trans (hy vs (.inl (.inl p))))
    subst this
    rw [Nat.zero_add]
    exact ⟨_, rk_newT su nT (Reps.cons rep_int (Reps.cons (rx.mono ii _ _) Reps.nil)) (by show 2 ≤ LINE; decide)⟩
theorem src_enumT {a : Addr} {vs : List V} {ds : List D} {fr : Prop} (h : I a = some (.tup vs)) (r : Reps K I ds vs) : SrcOk K (IteT K a) I H (ds.zipIdx.map fun p => .tup [.int (p.2 : Nat), p.1]) fr := by
  refine ⟨fun H' => True, trivial, fun _ _ => trivial, fun _ _ _ => trivial, fun I' H' i ii su _ => ?_⟩
  have h' : SqT K H' a vs := .inl (.inl (sub_tup su (ii _ _ h)))
  refine ⟨fun d hd => ?_, fun hi => ⟨_, h', by rw [r.len]; rw [List.length_map, List.length_zipIdx] at hi; exact hi⟩⟩
  rw [List.getElem?_map, List.getElem?_zipIdx] at hd
  cases e : ds[i]? with
  | none => rw [e] at hd; cases hd
  | some d0 =>
    rw [e] at hd
    cases hd
    obtain ⟨x, hx, rx⟩ := r.get e
    refine ⟨⟨vs, x, h', hx⟩, fun y H'' hy => ?_⟩
    obtain ⟨T, x', rfl, nT, rfl, hy⟩ := hy
    have : x = x' := Option.some.inj (hx.symm.trans (hy vs h'))
    subst this
    rw [Nat.zero_add]
    exact ⟨_, rk_newT su nT (Reps.cons rep_int (Reps.cons (rx.mono ii _ _) Reps.nil)) (by show 2 ≤ LINE; decide)⟩
theorem src_zip {a b : Addr} {vs ws : List V} {ds es : List D} {fr : Prop} (s : Sub I H) (ha : H a = some (.lst vs)) (ra : Reps K I ds vs) (hf : fr → I a = some (.lst vs)) (hb : H b = some (.lst ws)) (rb : Reps K I es ws) (hg : fr → I b = some (.lst ws)) :
    SrcOk K (Itz K a b) I H ((ds.zip es).map fun p => .tup [p.1, p.2]) fr := by
  refine ⟨fun H' => H' a = some (.lst vs) ∧ H' b = some (.lst ws), ⟨ha, hb⟩, fun H' k => ⟨k a _ ha, k b _ hb⟩, fun f H' k => ⟨(k a _ (hf f)).trans ha, (k b _ (hg f)).trans hb⟩, fun I' H' i ii su p => ⟨fun d hd => ?_, fun hi => ?_⟩⟩
  · rw [List.getElem?_map] at hd
    obtain ⟨z, hz, rfl⟩ := Option.map_eq_some_iff.mp hd
    obtain ⟨e1, e2⟩ := List.getElem?_zip_eq_some.mp hz
    obtain ⟨x, hx, rx⟩ := ra.get e1
    obtain ⟨y, hy, ry⟩ := rb.get e2
    refine ⟨⟨vs, ws, x, y, .inl (.inl p.1), .inl (.inl p.2), hx, hy⟩, fun v H'' hv => ?_⟩
    obtain ⟨T, x', y', rfl, nT, rfl, g1, g2⟩ := hv
    have q1 : x = x' := Option.some.inj (hx.symm.trans (g1 vs (.inl (.inl p.1))))
    have q2 : y = y' := Option.some.inj (hy.symm.trans (g2 ws (.inl (.inl p.2))))
    subst q1 q2
    exact ⟨_, rk_newT su nT (Reps.cons (rx.mono ii _ _) (Reps.cons (ry.mono ii _ _) Reps.nil)) (by show 2 ≤ LINE; decide)⟩
  · rw [List.length_map, List.length_zip] at hi
    exact ⟨vs, ws, .inl (.inl p.1), .inl (.inl p.2), by rw [ra.len, rb.len]; omega⟩
end
end R

set_option linter.all false
set_option maxHeartbeats 2000000
/-! Comprehensions; all expressions. -/
namespace R
open PySem L2
section
variable (K : PySem.W.Frag) (B : Addr → Prop)
def TIOk (wi : TI) (f : Env → Option (List D)) (fr : Prop) : Prop :=
  ∀ (σ : List (Option V)) (I H : Hp) (ρ : Env) (xs : List D) (R : It → Hp → Prop), Sta K B I H σ ρ → f ρ = some xs → (∀ J I' H', Ext I H I' H' → SrcOk K J I' H' xs fr → xs.length ≤ LINE → R J H') → wi σ H R
/-- one looked at; fr: handed on -/
def EvS (t : TE) (f : Env → Option D) (fr : Prop) : Prop :=
  ∀ (σ : List (Option V)) (I H : Hp) (ρ : Env) (d : D) (Q : VK), Sta K B I H σ ρ → f ρ = some d → (∀ v I' H', Ext I H I' H' → See K I' H' d v → (fr → Rep K I' d v) → Q v H') → t σ H Q
def EvSA (t : TA) (f : Env → Option (List D)) (fr : Prop) : Prop :=
  ∀ (σ : List (Option V)) (I H : Hp) (ρ : Env) (ds : List D) (Q : List V → Hp → Prop), Sta K B I H σ ρ → f ρ = some ds → (∀ vs I' H', Ext I H I' H' → Sees K I' H' ds vs → (fr → Reps K I' ds vs) → Q vs H') → t σ H Q
end
section
variable {K : PySem.W.Frag} {B : Addr → Prop} {cl : Nat → List D → Option (Kd × D)} {sp : Nat → Sp}
theorem consO_len (r : Option D) (ys : List D) : (consO r ys).length ≤ ys.length + 1 := by
  cases r with
  | none => exact Nat.le_succ _
  | some y => exact Nat.le_refl _
theorem lcRun_len {f : D → Option (Option D)} : ∀ {xs ys : List D}, lcRun f xs = some ys → ys.length ≤ xs.length
  | [], ys, h => by
    simp only [lcRun] at h
    cases h
    exact Nat.le_refl _
  | x :: xs, ys, h => by
    simp only [lcRun] at h
    split at h
    · cases h
    · split at h
      · cases h
      · rename_i zs e
        cases h
        have := lcRun_len e
        have := consO_len ‹Option D› zs
        simp only [List.length_cons]
        omega
/-- what a turn of a comprehension gives -/
def lcItem (g : Tg) (fI : Env → Option Bool) (fE : Env → Option (Kd × D)) (ρ : Env) (x : D) : Option (Option D) :=
  match setTg g x (wipeR ρ (tgS g)) with
  | none => none
  | some ρ' => match fI ρ' with
    | none => none
    | some false => some none
    | some true => match fE ρ' with
      | none => none
      | some r => match esc r with
        | none => none
        | some d => some (some d)
theorem lc_at {wi : TI} {g : Tg} {tt : TT} {te : TE} {fI : Env → Option Bool} {fE : Env → Option (Kd × D)} {fr : Prop} {σ : List (Option V)} {I H : Hp} {ρ : Env} {xs ys : List D} {Q : VK}
    (hS : ∀ R : It → Hp → Prop, (∀ J I' H', Ext I H I' H' → SrcOk K J I' H' xs fr → xs.length ≤ LINE → R J H') → wi σ H R) (hI : EvOkT K B tt fI) (hE : EvOk K B te fE)
    (s : Sta K B I H σ ρ) (e2 : lcRun (lcItem g fI fE ρ) xs = some ys) (q : ∀ v I' H', Ext I H I' H' → RK K B H I' H' .ow (.lst ys) v → Q v H') : tLc wi (rdG K g) tt te (tgS g) σ H Q := by
  refine hS _ fun J I1 H1 x1 src hz => ?_
  intro Dl hD
  obtain ⟨P, p0, pe, _, turn⟩ := src
  have s1 := s.ext x1
  refine ⟨fun i m H' => m = xs.length - i ∧ i ≤ xs.length ∧ ∃ (I' : Hp) (acc : List V) (as bs : List D), Ext I1 H1 I' H' ∧ H' Dl = some (.lst acc) ∧ I' Dl = none ∧ Reps K I' as acc ∧ as.length ≤ i ∧ lcRun (lcItem g fI fE ρ) (xs.drop i) = some bs ∧ as ++ bs = ys,
    ⟨xs.length, by omega, Nat.zero_le _, I1, [], [], ys, Ext.new x1.su hD, upd_same, x1.su.fresh hD, Reps.nil, Nat.le_refl _, e2, rfl⟩, ?_⟩
  rintro i m H' ⟨rfl, hi, I', acc, as, bs, x2, hDl, iDl, ra, la, eb, ey⟩
  have pH' : P H' := pe H' x2.hh
  by_cases hlt : i < xs.length
  · obtain ⟨go, yl⟩ := (turn I' H' i x2.ii x2.su pH').1 xs[i] (List.getElem?_eq_getElem hlt)
    refine .inr ⟨go, fun H'' => ∃ (I' : Hp) (acc : List V) (as bs : List D), Ext I1 H1 I' H'' ∧ H'' Dl = some (.lst acc) ∧ I' Dl = none ∧ Reps K I' as acc ∧ as.length ≤ i + 1 ∧ lcRun (lcItem g fI fE ρ) (xs.drop (i + 1)) = some bs ∧ as ++ bs = ys,
      fun H'' n => ⟨xs.length - (i + 1), by omega, rfl, hlt, n⟩, fun x H2 hy => ?_⟩
    obtain ⟨I2, x3, rx⟩ := yl x H2 hy
    rw [List.drop_eq_getElem_cons hlt] at eb
    simp only [lcRun] at eb
    cases ei : lcItem g fI fE ρ xs[i] with
    | none => rw [ei] at eb; cases eb
    | some r =>
      rw [ei] at eb
      cases er : lcRun (lcItem g fI fE ρ) (xs.drop (i + 1)) with
      | none => rw [er] at eb; cases eb
      | some zs =>
        rw [er] at eb
        have eb : some (consO r zs) = some bs := eb
        unfold lcItem at ei
        cases et : setTg g xs[i] (wipeR ρ (tgS g)) with
        | none => rw [et] at ei; cases ei
        | some ρ' =>
          rw [et] at ei
          have s2 : Sta K B I2 H2 (wipe σ (tgS g)) (wipeR ρ (tgS g)) := ((s1.ext x2).ext x3).wiped (tgS g)
          refine tg_ok et s2 rx fun σ' s3 hw => ⟨?_, ?_⟩
          · rw [hw (tgS g) fun _ h => h, wipe_twice]
          · have x23 := x2.trans x3
            obtain ⟨o3, ho3⟩ : ∃ o, H' Dl = some o := ⟨_, hDl⟩
            cases eI : fI ρ' with
            | none =>
              simp only [eI] at ei
              cases ei
            | some b =>
              simp only [eI] at ei
              refine hI σ' I2 H2 ρ' b _ s3 eI fun I3 H3 x4 => ?_
              have x24 := x23.trans x4
              have x34 := x3.trans x4
              have hDl3 : H3 Dl = some (.lst acc) := x34.hh _ _ hDl
              have iDl3 : I3 Dl = none := (x34.fr _ _ hDl rfl).trans iDl
              have ra3 : Reps K I3 as acc := ra.mono x34.ii _ _
              cases b with
              | false =>
                rw [if_neg Bool.false_ne_true]
                cases ei
                cases eb
                exact ⟨I3, acc, as, zs, x24, hDl3, iDl3, ra3, by omega, rfl, ey⟩
              | true =>
                rw [if_pos rfl]
                cases eE : fE ρ' with
                | none =>
                  simp only [eE] at ei
                  cases ei
                | some r' =>
                  simp only [eE] at ei
                  cases ez : esc r' with
                  | none =>
                    simp only [ez] at ei
                    cases ei
                  | some d =>
                    simp only [ez] at ei
                    cases ei
                    cases eb
                    refine hE.fz (s3.ext x4) eE ez fun v I4 H4 x5 rv => ?_
                    have x25 := x24.trans x5
                    have hDl4 : H4 Dl = some (.lst acc) := x5.hh _ _ hDl3
                    have iDl4 : I4 Dl = none := (x5.fr _ _ hDl3 rfl).trans iDl3
                    have ra4 : Reps K I4 as acc := ra3.mono x5.ii _ _
                    refine ⟨acc, hDl4, ?_, I4, acc ++ [v], as ++ [d], zs, ?_, upd_same, iDl4, ra4.app (Reps.cons rv Reps.nil), ?_, rfl, ?_⟩
                    · rw [ra4.len]
                      exact lt_line (by omega)
                    · refine ⟨x25.ii, fun b o h => ?_, fun b u h => ?_, x25.fr⟩
                      · rw [upd_ne (ne_of_none h hD)]
                        exact x25.hh b o h
                      · have : b ≠ Dl := fun z => by rw [z, iDl4] at h; cases h
                        rw [upd_ne this]
                        exact x25.su b u h
                    · rw [List.length_append, List.length_singleton]
                      omega
                    · rw [List.append_assoc]
                      exact ey
  · have hi' : i = xs.length := by omega
    subst hi'
    rw [List.drop_length] at eb
    simp only [lcRun] at eb
    cases eb
    rw [List.append_nil] at ey
    subst ey
    refine .inl ⟨(turn I' H' _ x2.ii x2.su pH').2 (Nat.le_refl _), q _ I' H' (x1.trans x2) ⟨⟨Dl, rfl, iDl, acc, hDl, ra, by omega⟩, Dl, rfl, ?_⟩⟩
    cases e : H Dl with
    | none => rfl
    | some o =>
      rw [x1.hh _ _ e] at hD
      cases hD
theorem lc_ok {wi : TI} {fS : Env → Option (List D)} {g : Tg} {tt : TT} {te : TE} {fI : Env → Option Bool} {fE : Env → Option (Kd × D)} {fr : Prop} (hS : TIOk K B wi fS fr) (hI : EvOkT K B tt fI) (hE : EvOk K B te fE) :
    ∀ (σ : List (Option V)) (I H : Hp) (ρ : Env) (xs ys : List D) (Q : VK), Sta K B I H σ ρ → fS ρ = some xs → lcRun (lcItem g fI fE ρ) xs = some ys →
      (∀ v I' H', Ext I H I' H' → RK K B H I' H' .ow (.lst ys) v → Q v H') → tLc wi (rdG K g) tt te (tgS g) σ H Q :=
  fun σ I H ρ xs ys Q s e1 e2 q => lc_at (fr := fr) (fun R r => hS σ I H ρ xs R s e1 r) hI hE s e2 q
theorem items_len {I H : Hp} {d : D} {v : V} {xs : List D} (s : Sub I H) (g : See K I H d v) (h : items d = some xs) : xs.length ≤ LINE := by
  cases d <;> simp only [items] at h <;> first | (cases h; done) | skip
  · cases h
    obtain ⟨a, ys, rfl, ha, ia, ra, za⟩ := g.tup s
    exact za
  · cases h
    obtain ⟨a, ys, rfl, ha, ra, za⟩ := g.lst s
    exact za
  · cases h
    obtain ⟨a, rfl, ha, za⟩ := g.scr s
    rw [List.length_map]
    exact za
/-- over a list, a tuple, a text -/
theorem seq_ok {t : TE} {f : Env → Option D} {fr : Prop} (h : EvS K B t f fr) : TIOk K B (fun σ H R => iList K t σ H R ∨ (iTup K t σ H R ∨ iStr t σ H R)) (fun ρ => (f ρ).bind fun d => srcD .seq [d]) fr := by
  intro σ I H ρ xs R s e q
  obtain ⟨d, e1, e2⟩ := Option.bind_eq_some_iff.mp e
  cases d with
  | lst ds =>
    refine .inl (h σ I H ρ _ _ s e1 fun v I' H' x g hf => ?_)
    have e2 : some ds = some xs := e2
    cases e2
    obtain ⟨a, ys, rfl, ha, ra, za⟩ := g.lst x.su
    refine ⟨a, rfl, ⟨ys, .inl (.inl ha)⟩, q _ I' H' x (src_list x.su ha ra fun z => ?_) za⟩
    have := hf z
    simp only [Rep] at this
    obtain ⟨a', zs, e3, h1, _⟩ := this
    cases e3
    have := sub_lst x.su h1
    rw [ha] at this
    cases this
    exact h1
  | tup ds =>
    refine .inr (.inl (h σ I H ρ _ _ s e1 fun v I' H' x g hf => ?_))
    have e2 : some ds = some xs := e2
    cases e2
    obtain ⟨a, ys, rfl, ha, ia, ra, za⟩ := g.tup x.su
    exact ⟨a, rfl, ⟨ys, .inl (.inl ha)⟩, q _ I' H' x (src_tup ia ra) za⟩
  | scr ns =>
    refine .inl (h σ I H ρ _ _ s e1 fun v I' H' x g hf => ?_)
    have e2 : some (ns.map D.int) = some xs := e2
    cases e2
    rcases g with g | ⟨_, _, _, c⟩
    · simp only [Rep] at g
      obtain ⟨a, rfl, ha, za⟩ := g
      exact ⟨a, rfl, ⟨_, sql_sub x.su ha⟩, q _ I' H' x (src_scr ha) (by rw [List.length_map]; exact za)⟩
    · exact False.elim c
  | str z =>
    refine .inr (.inr (h σ I H ρ _ _ s e1 fun v I' H' x g hf => ?_))
    have e2 : some (signs z) = some xs := e2
    cases e2
    obtain ⟨e3, h1, o1⟩ := g.str
    exact ⟨z, e3, q _ I' H' x (src_str o1) (by unfold signs; rw [List.length_map, Array.length_toList]; exact h1)⟩
  | _ => simp only [srcD, items] at e2; cases e2
theorem rng_ok {t : TA} {f : Env → Option (List D)} {fr : Prop} (h : EvSA K B t f fr) (n : Nat) (hn : ∀ ρ ds, f ρ = some ds → ds.length = n) : TIOk K B (match n with | 1 => iRng1 t | 2 => iRng2 t | 3 => iRng3 t | _ => fun _ _ _ => False) (fun ρ => (f ρ).bind (srcD .rng)) fr := by
  intro σ I H ρ xs R s e q
  obtain ⟨ds, e1, e2⟩ := Option.bind_eq_some_iff.mp e
  have hl := hn ρ ds e1
  match n, ds, hl with
  | 0, [], _ => simp only [srcD] at e2; cases e2
  | 1, [a], _ =>
    refine h σ I H ρ _ _ s e1 fun vs I' H' x g hf => ?_
    cases a <;> simp only [srcD] at e2 <;> first | (cases e2; done) | skip
    split at e2
    · rename_i j _ hz
      cases e2
      obtain ⟨v, rfl, g1⟩ := g.one
      obtain ⟨b1, b2⟩ := small62_iff.mp hz.1
      refine ⟨j, by rw [g1.int], b1, b2, ?_⟩
      have := src_rng (K := K) (I := I') (H := H') (a := 0) (b := j) (fr := fr)
      rw [Int.sub_zero] at this
      exact q _ I' H' x this (by rw [List.length_map, rangeL_len, Int.sub_zero]; exact hz.2)
    · cases e2
  | 2, [a, b], _ =>
    refine h σ I H ρ _ _ s e1 fun vs I' H' x g hf => ?_
    cases a <;> (try simp only [srcD] at e2) <;> first | (cases e2; done) | skip
    cases b <;> (try simp only [srcD] at e2) <;> first | (cases e2; done) | skip
    split at e2
    · rename_i i j _ hz
      cases e2
      obtain ⟨v, w, rfl, g1, g2⟩ := g.two
      obtain ⟨b1, b2⟩ := small62_iff.mp hz.1
      obtain ⟨b3, b4⟩ := small62_iff.mp hz.2.1
      exact ⟨i, j, by rw [g1.int, g2.int], ⟨b1, b2, b3, b4⟩, q _ I' H' x src_rng (by rw [List.length_map, rangeL_len]; exact hz.2.2)⟩
    · cases e2
  | 3, [a, b, c], _ =>
    refine h σ I H ρ _ _ s e1 fun vs I' H' x g hf => ?_
    cases a <;> (try simp only [srcD] at e2) <;> first | (cases e2; done) | skip
    cases b <;> (try simp only [srcD] at e2) <;> first | (cases e2; done) | skip
    cases c <;> (try simp only [srcD] at e2) <;> first | (cases e2; done) | skip
    split at e2
    · rename_i i j k _ hz
      cases e2
      obtain ⟨v, r, rfl, g0, g⟩ := g
      obtain ⟨v2, w2, rfl, g1, g2⟩ := g.two
      obtain ⟨b1, b2⟩ := small62_iff.mp hz.1
      obtain ⟨b3, b4⟩ := small62_iff.mp hz.2.1
      obtain ⟨_, _, hz3, hc⟩ := hz
      subst hc
      refine ⟨i, j, -1, (i - j).toNat, by rw [g0.int, g1.int, g2.int], RgC.neg b1 b2 b3 b4, q _ I' H' x ?_ ?_⟩
      · refine ⟨fun H' => True, trivial, fun _ _ => trivial, fun _ _ _ => trivial, fun I'' H'' n ii su _ => ⟨fun d hd => ?_, fun hi => ?_⟩⟩
        · unfold downL at hd
          rw [List.map_map, List.getElem?_map] at hd
          obtain ⟨m, hm, rfl⟩ := Option.map_eq_some_iff.mp hd
          have hn : n < (i - j).toNat := by
            have := (List.getElem?_eq_some_iff.mp hm).1
            rw [List.length_range] at this
            exact this
          rw [List.getElem?_range hn] at hm
          cases hm
          refine ⟨hn, fun y H3 hy => ?_⟩
          obtain ⟨rfl, rfl⟩ := hy
          refine ⟨I'', Ext.refl su, ?_⟩
          have : i + (n : Int) * -1 = i - (n : Int) := by omega
          rw [this]
          exact rep_int
        · unfold downL at hi
          rw [List.length_map, List.length_map, List.length_range] at hi
          exact hi
      · unfold downL
        rw [List.length_map, List.length_map, List.length_range]
        exact hz3
    · cases e2
  | n + 4, ds, hl =>
    exfalso
    rcases ds with _ | ⟨a, _ | ⟨b, _ | ⟨c, _ | ⟨d, r⟩⟩⟩⟩ <;> simp [srcD] at hl e2
theorem enum_ok {t : TA} {f : Env → Option (List D)} {fr : Prop} (h : EvSA K B t f fr) : TIOk K B (fun σ H R => iEnum K t σ H R ∨ iEnumT K t σ H R) (fun ρ => (f ρ).bind (srcD .enum)) fr := by
  intro σ I H ρ xs R s e q
  obtain ⟨ds, e1, e2⟩ := Option.bind_eq_some_iff.mp e
  unfold srcD at e2
  split at e2 <;> first | (rename_i z; cases z; done) | skip
  all_goals first | (cases e2; done) | skip
  · cases e2
    refine .inl (h σ I H ρ _ _ s e1 fun vs I' H' x g hf => ?_)
    obtain ⟨v, rfl, g1⟩ := g.one
    obtain ⟨a, ys, rfl, ha, ra, za⟩ := g1.lst x.su
    refine ⟨a, ys, rfl, .inl (.inl ha), q _ I' H' x (src_enum x.su ha ra fun z => ?_) (by rw [List.length_map, List.length_zipIdx]; exact za)⟩
    have := hf z
    simp only [Reps] at this
    obtain ⟨_, _, e3, h1, _⟩ := this
    simp only [Rep] at h1
    obtain ⟨a', zs, e4, h2, _⟩ := h1
    cases e3
    cases e4
    have := sub_lst x.su h2
    rw [ha] at this
    cases this
    exact h2
  · cases e2
    refine .inr (h σ I H ρ _ _ s e1 fun vs I' H' x g hf => ?_)
    obtain ⟨v, rfl, g1⟩ := g.one
    obtain ⟨a, ys, rfl, ha, ia, ra, za⟩ := g1.tup x.su
    exact ⟨a, ys, rfl, .inl (.inl ha), q _ I' H' x (src_enumT ia ra) (by rw [List.length_map, List.length_zipIdx]; exact za)⟩
end
end R

set_option linter.all false
set_option maxHeartbeats 4000000
/-! All expressions. -/
namespace R
open PySem L2
section
variable {K : PySem.W.Frag} {B : Addr → Prop} {cl : Nat → List D → Option (Kd × D)} {sp : Nat → Sp}
theorem EvOk.s0 {t : TE} {f : Env → Option (Kd × D)} (h : EvOk K B t f) : EvS K B t (fun ρ => (f ρ).map (·.2)) False := by
  intro σ I H ρ d Q s e q
  obtain ⟨⟨k, d'⟩, e1, rfl⟩ := Option.map_eq_some_iff.mp e
  exact h.see s e1 fun v I' H' x g => q v I' H' x g False.elim
theorem EvOk.s1 {t : TE} {f : Env → Option (Kd × D)} (h : EvOk K B t f) : EvS K B t (fun ρ => (f ρ).bind esc) True := by
  intro σ I H ρ d Q s e q
  obtain ⟨r, e1, e2⟩ := Option.bind_eq_some_iff.mp e
  exact h.fz s e1 e2 fun v I' H' x g => q v I' H' x (.inl g) fun _ => g
theorem Reps.sees {I H : Hp} : ∀ {ds : List D} {vs : List V}, Reps K I ds vs → Sees K I H ds vs
  | [], vs, h => by
    simp only [Reps] at h
    exact h
  | d :: ds, vs, h => by
    simp only [Reps] at h
    obtain ⟨x, r, e, h1, h2⟩ := h
    exact ⟨x, r, e, .inl h1, Reps.sees h2⟩
theorem EvOkB.s0 {t : TA} {f : Env → Option (List D)} (h : EvOkB K B t f) : EvSA K B t f False :=
  fun σ I H ρ d Q s e q => h σ I H ρ d Q s e fun vs I' H' x g => q vs I' H' x g False.elim
theorem EvOkF.s1 {t : TA} {f : Env → Option (List D)} (h : EvOkF K B t f) : EvSA K B t f True :=
  fun σ I H ρ d Q s e q => h σ I H ρ d Q s e fun vs I' H' x g => q vs I' H' x g.sees fun _ => g
theorem evB_len : ∀ {es : List IE} {ρ : Env} {ds : List D}, evB cl es ρ = some ds → ds.length = es.length
  | [], ρ, ds, h => by
    simp only [evB] at h
    cases h
    rfl
  | e :: es, ρ, ds, h => by
    simp only [evB] at h
    split at h
    · cases h
    · split at h
      · cases h
      · rename_i e2
        cases h
        rw [List.length_cons, List.length_cons, evB_len e2]
theorem evF_len : ∀ {es : List IE} {ρ : Env} {ds : List D}, evF cl es ρ = some ds → ds.length = es.length
  | [], ρ, ds, h => by
    simp only [evF] at h
    cases h
    rfl
  | e :: es, ρ, ds, h => by
    simp only [evF] at h
    split at h
    · cases h
    · split at h
      · cases h
      · split at h
        · cases h
        · rename_i e2
          cases h
          rw [List.length_cons, List.length_cons, evF_len e2]
theorem evB_one {e : IE} {ρ : Env} : evB cl [e] ρ = ((evE cl e ρ).map (·.2)).map fun d => [d] := by
  simp only [evB]
  cases evE cl e ρ <;> rfl
theorem evF_one {e : IE} {ρ : Env} : evF cl [e] ρ = ((evE cl e ρ).bind esc).map fun d => [d] := by
  simp only [evF]
  cases evE cl e ρ with
  | none => rfl
  | some r =>
    show (match esc r with | none => none | some d => some [d]) = (esc r).map fun d => [d]
    cases esc r <;> rfl
theorem zip_ok {t : TA} {f : Env → Option (List D)} {fr : Prop} (h : EvSA K B t f fr) : TIOk K B (iZip K t) (fun ρ => (f ρ).bind (srcD .zip)) fr := by
  intro σ I H ρ xs R s e q
  obtain ⟨ds, e1, e2⟩ := Option.bind_eq_some_iff.mp e
  refine h σ I H ρ _ _ s e1 fun vs I' H' x g hf => ?_
  unfold srcD at e2
  split at e2 <;> first | (rename_i z; cases z; done) | skip
  all_goals first | (cases e2; done) | skip
  cases e2
  rename_i z1 z2 es1 es2 _
  obtain ⟨v, w, rfl, g1, g2⟩ := g.two
  obtain ⟨a, ys, rfl, ha, ra, za⟩ := g1.lst x.su
  obtain ⟨b, zs, rfl, hb, rb, zb⟩ := g2.lst x.su
  have fz : fr → I' a = some (.lst ys) ∧ I' b = some (.lst zs) := fun z => by
    have := hf z
    simp only [Reps] at this
    obtain ⟨_, _, e3, h1, _, _, e5, h3, _⟩ := this
    simp only [Rep] at h1 h3
    obtain ⟨a', ys', e4, h2, _⟩ := h1
    obtain ⟨b', zs', e6, h4, _⟩ := h3
    cases e3
    cases e5
    cases e4
    cases e6
    have q1 := sub_lst x.su h2
    have q2 := sub_lst x.su h4
    rw [ha] at q1
    rw [hb] at q2
    cases q1
    cases q2
    exact ⟨h2, h4⟩
  exact ⟨a, b, ys, zs, rfl, .inl (.inl ha), .inl (.inl hb), q _ I' H' x (src_zip x.su ha ra (fun z => (fz z).1) hb rb fun z => (fz z).2) (by rw [List.length_map, List.length_zip]; omega)⟩
/-- what is walked -/
theorem src_any {k : SK} {es : List IE} {f : Env → Option (List D)} {fr : Prop} (hk : k ≠ .keys) (hA : EvSA K B (rdA K sp es) f fr) (hn : ∀ ρ ds, f ρ = some ds → ds.length = es.length)
    (h1 : ∀ e, es = [e] → ∃ g, EvS K B (rdE K sp e) g fr ∧ ∀ ρ, f ρ = (g ρ).map fun d => [d]) : TIOk K B (rdSrc K k (rdL K sp es) (rdA K sp es)) (fun ρ => (f ρ).bind (srcD k)) fr := by
  have bad : ∀ {wi : TI}, (∀ ρ ds, f ρ = some ds → srcD k ds = none) → TIOk K B wi (fun ρ => (f ρ).bind (srcD k)) fr := fun {wi} hb σ I H ρ xs R s e q => by
    obtain ⟨ds, e1, e2⟩ := Option.bind_eq_some_iff.mp e
    rw [hb ρ ds e1] at e2
    cases e2
  cases k with
  | keys => exact absurd rfl hk
  | seq =>
    match es, hn, h1, hA with
    | [e], hn, h1, hA =>
      obtain ⟨g, hg, eg⟩ := h1 e rfl
      have := seq_ok hg
      simp only [rdL, rdSrc]
      intro σ I H ρ xs R s e q
      refine this σ I H ρ xs R s ?_ q
      have e : (f ρ).bind (srcD .seq) = some xs := e
      rw [eg] at e
      cases e3 : g ρ with
      | none => rw [e3] at e; cases e
      | some d =>
        rw [e3] at e
        show (g ρ).bind _ = _
        rw [e3]
        exact e
    | [], hn, _, _ =>
      refine bad fun ρ ds e => ?_
      have := hn ρ ds e
      cases ds <;> first | rfl | simp at this
    | _ :: _ :: _, hn, _, _ =>
      refine bad fun ρ ds e => ?_
      have := hn ρ ds e
      rcases ds with _ | ⟨a, _ | ⟨b, r⟩⟩ <;> first | (simp at this; done) | (simp [srcD])
  | rng =>
    match es, hn, hA with
    | [], hn, hA =>
      refine bad fun ρ ds e => ?_
      have := hn ρ ds e
      cases ds <;> first | rfl | simp at this
    | [_], hn, hA => exact rng_ok hA 1 hn
    | [_, _], hn, hA => exact rng_ok hA 2 hn
    | [_, _, _], hn, hA => exact rng_ok hA 3 hn
    | _ :: _ :: _ :: _ :: _, hn, hA =>
      refine bad fun ρ ds e => ?_
      have := hn ρ ds e
      rcases ds with _ | ⟨a, _ | ⟨b, _ | ⟨c, _ | ⟨d, r⟩⟩⟩⟩ <;> first | (simp at this; done) | (simp [srcD])
  | enum =>
    match es, hn, hA with
    | [_], hn, hA => exact enum_ok hA
    | [], hn, _ =>
      refine bad fun ρ ds e => ?_
      have := hn ρ ds e
      cases ds <;> first | rfl | simp at this
    | _ :: _ :: _, hn, _ =>
      refine bad fun ρ ds e => ?_
      have := hn ρ ds e
      rcases ds with _ | ⟨a, _ | ⟨b, r⟩⟩ <;> first | (simp at this; done) | (simp [srcD])
  | zip =>
    match es, hn, hA with
    | [_, _], hn, hA => exact zip_ok hA
    | [], hn, _ =>
      refine bad fun ρ ds e => ?_
      have := hn ρ ds e
      cases ds <;> first | rfl | simp at this
    | [_], hn, _ =>
      refine bad fun ρ ds e => ?_
      have := hn ρ ds e
      rcases ds with _ | ⟨a, _ | ⟨b, r⟩⟩ <;> first | (simp at this; done) | (simp [srcD])
    | _ :: _ :: _ :: _, hn, _ =>
      refine bad fun ρ ds e => ?_
      have := hn ρ ds e
      rcases ds with _ | ⟨a, _ | ⟨b, _ | ⟨c, r⟩⟩⟩ <;> first | (simp at this; done) | (simp [srcD])
  | rev =>
    refine bad fun ρ ds e => ?_
    simp [srcD]
end
end R

set_option linter.all false
set_option maxHeartbeats 8000000
/-! All expressions. -/
namespace R
open PySem L2
section
variable {K : PySem.W.Frag} {B : Addr → Prop} {cl : Nat → List D → Option (Kd × D)} {sp : Nat → Sp}
/-! ### walking a dict -/
theorem okK_rep {I : Hp} {k : Key} (h : okK k = true) : Rep K I (dOfKey k) (kV k) := by
  cases k with
  | inl i => exact rep_int
  | inr x => exact rep_okS h
theorem okKs_rep {I : Hp} : ∀ {k : List Key}, k.all okK = true → Reps K I (k.map dOfKey) (k.map kV)
  | [], _ => Reps.nil
  | k :: ks, h => by
    simp only [List.all_cons, Bool.and_eq_true] at h
    exact Reps.cons (okK_rep h.1) (okKs_rep h.2)
theorem zip_get {κ : Type} {ks : List κ} {xs : List V} {i : Nat} (hl : ks.length = xs.length) : ∀ k v, (ks.zip xs)[i]? = some (k, v) → ks[i]? = some k := fun k v h => (List.getElem?_zip_eq_some.mp h).1
theorem src_keysK {I H1 : Hp} {a : Addr} {od : Obj} {ks : List Key} {xs : List V} {fr : Prop} (hl : ks.length = xs.length) (hi : I a = some (.dK (ks.zip xs))) (hok : ks.all okK = true) (h1 : H1 a = some (.frz od (.dK (ks.zip xs)))) : SrcOk K (Itk a od (ks.zip xs)) I H1 (ks.map dOfKey) fr := by
  have zl : (ks.zip xs).length = ks.length := by rw [List.length_zip]; omega
  refine ⟨fun H' => H' a = some (.frz od (.dK (ks.zip xs))), h1, fun H' k => k a _ h1, fun _ H' k => (k a _ hi).trans h1, fun I' H' i ii su p => ⟨fun d hd => ?_, fun hle => ⟨p, by rw [zl]; rw [List.length_map] at hle; exact hle⟩⟩⟩
  rw [List.getElem?_map] at hd
  obtain ⟨k, hk, rfl⟩ := Option.map_eq_some_iff.mp hd
  have hlt := (List.getElem?_eq_some_iff.mp hk).1
  refine ⟨⟨p, by rw [zl]; exact hlt⟩, fun x H'' hy => ?_⟩
  obtain ⟨rfl, k', v, hkv, rfl⟩ := hy
  have := zip_get hl k' v hkv
  rw [hk] at this
  cases this
  exact ⟨I', Ext.refl su, okK_rep (List.all_eq_true.mp hok k (List.mem_of_getElem? hk))⟩
theorem src_keysT {I H1 : Hp} {a : Addr} {od : Obj} {ks : List (List Key)} {xs : List V} {fr : Prop} (hl : ks.length = xs.length) (hi : I a = some (.dT (ks.zip xs))) (hok : ks.all okKs = true) (h1 : H1 a = some (.frz od (.dT (ks.zip xs)))) : SrcOk K (Itkt a od (ks.zip xs)) I H1 (ks.map fun k => .tup (k.map dOfKey)) fr := by
  have zl : (ks.zip xs).length = ks.length := by rw [List.length_zip]; omega
  refine ⟨fun H' => H' a = some (.frz od (.dT (ks.zip xs))), h1, fun H' k => k a _ h1, fun _ H' k => (k a _ hi).trans h1, fun I' H' i ii su p => ⟨fun d hd => ?_, fun hle => ⟨p, by rw [zl]; rw [List.length_map] at hle; exact hle⟩⟩⟩
  rw [List.getElem?_map] at hd
  obtain ⟨k, hk, rfl⟩ := Option.map_eq_some_iff.mp hd
  have hlt := (List.getElem?_eq_some_iff.mp hk).1
  refine ⟨⟨p, by rw [zl]; exact hlt⟩, fun x H'' hy => ?_⟩
  obtain ⟨rfl, k', v, q, hkv, rfl, hq⟩ := hy
  have := zip_get hl k' v hkv
  rw [hk] at this
  cases this
  have hk2 := List.all_eq_true.mp hok k (List.mem_of_getElem? hk)
  simp only [okKs, Bool.and_eq_true, decide_eq_true_eq] at hk2
  -- the key's own tuple: frozen from here on
  cases e : I' q with
  | none =>
    exact ⟨upd I' q (.tup (k.map kV)), (Ext.refl su).freezeT hq e, rep_tup upd_same (okKs_rep hk2.2) (by rw [List.length_map]; exact hk2.1)⟩
  | some u =>
    have : u = .tup (k.map kV) := by
      rcases su q u e with z | ⟨z, od', z2⟩
      · rw [hq] at z
        cases z
        rfl
      · rw [hq] at z2
        cases z2
    subst this
    exact ⟨I', Ext.refl su, rep_tup e (okKs_rep hk2.2) (by rw [List.length_map]; exact hk2.1)⟩

/-- the place of a dict that is walked -/
theorem path_ok {e : IE} {σ : List (Option V)} {I H : Hp} {ρ : Env} {d : D} (hp : keysPath [e] = true) (s : Sta K B I H σ ρ) (h : evE cl e ρ = some (.fz, d)) (hd : isDct d = true) :
    ∃ a u, I a = some u ∧ isDic u = true ∧ Rep K I d (.ref a) ∧ ∀ (H1 : Hp) (Q : VK), (∀ b o, b ≠ a → H b = some o → H1 b = some o) → Q (.ref a) H1 → rdE K sp e σ H1 Q := by
  have key : ∀ v, Rep K I d v → ∃ a u, v = .ref a ∧ I a = some u ∧ isDic u = true := fun v r => by
    cases d with
    | dk ks ws =>
      simp only [Rep] at r
      obtain ⟨a, xs, e, h1, _⟩ := r
      exact ⟨a, _, e, h1, rfl⟩
    | dt ks ws =>
      simp only [Rep] at r
      obtain ⟨a, xs, e, h1, _⟩ := r
      exact ⟨a, _, e, h1, rfl⟩
    | _ => cases hd
  cases e with
  | var i =>
    simp only [evE] at h
    split at h
    · rename_i d' hd'
      cases h
      obtain ⟨v, h1, h2⟩ := s.sl.fz i d hd'
      obtain ⟨a, u, rfl, h3, h4⟩ := key v h2
      refine ⟨a, u, h3, h4, h2, fun H1 Q _ q => ?_⟩
      simp only [rdE]
      exact ⟨_, h1, q⟩
    · cases h
    · cases h
  | ix e1 e2 =>
    cases e1 <;> first | (simp only [keysPath] at hp; cases hp; done) | skip
    cases e2 <;> first | (simp only [keysPath] at hp; cases hp; done) | skip
    rename_i i j
    rw [evE] at h
    have fin : ∀ (x : D) (v : V), σ[i]? = some (some v) → See K I H x v → ixD x (.int j) = some d →
        ∃ a u, I a = some u ∧ isDic u = true ∧ Rep K I d (.ref a) ∧ ∀ (H1 : Hp) (Q : VK), (∀ b o, b ≠ a → H b = some o → H1 b = some o) → Q (.ref a) H1 → rdE K sp (.ix (.var i) (.int j)) σ H1 Q := fun x v hv g hx => by
      cases x with
      | lst ds =>
        obtain ⟨p, xs, rfl, hp', ra, za⟩ := g.lst s.su
        obtain ⟨w, h1, h2⟩ := ra.at hx
        obtain ⟨a, u, rfl, h3, h4⟩ := key w h2
        have ne : p ≠ a := fun z => by
          rcases s.su a u h3 with q | ⟨_, od, q⟩
          · rw [← z, hp'] at q
            cases q
            cases h4
          · rw [← z, hp'] at q
            cases q
        refine ⟨a, u, h3, h4, h2, fun H1 Q hk q => ?_⟩
        simp only [rdE]
        exact .inl ⟨_, hv, .inl ⟨p, xs, j, .ref a, rfl, rfl, .inl (.inl (hk p _ ne hp')), h1, q⟩⟩
      | tup ds =>
        obtain ⟨p, xs, rfl, hp', ip, ra, za⟩ := g.tup s.su
        obtain ⟨w, h1, h2⟩ := ra.at hx
        obtain ⟨a, u, rfl, h3, h4⟩ := key w h2
        have ne : p ≠ a := fun z => by
          rcases s.su a u h3 with q | ⟨_, od, q⟩
          · rw [← z, hp'] at q
            cases q
            cases h4
          · rw [← z, hp'] at q
            cases q
        refine ⟨a, u, h3, h4, h2, fun H1 Q hk q => ?_⟩
        simp only [rdE]
        exact .inl ⟨_, hv, .inr (.inl ⟨p, xs, j, .ref a, rfl, rfl, .inl (.inl (hk p _ ne hp')), h1, q⟩)⟩
      | dk ks ws =>
        simp only [keysPath, decide_eq_true_eq] at hp
        simp only [ixD, if_pos hp] at hx
        cases hx
      | dt ks ws => simp only [ixD] at hx; cases hx
      | scr ns =>
        simp only [ixD] at hx
        obtain ⟨n, _, rfl⟩ := Option.map_eq_some_iff.mp hx
        cases hd
      | str z =>
        simp only [ixD] at hx
        obtain ⟨n, _, rfl⟩ := Option.map_eq_some_iff.mp hx
        cases hd
      | _ => simp only [ixD] at hx; cases hx
    cases ev : evE cl (.var i) ρ with
    | none => rw [ev] at h; cases h
    | some r =>
      obtain ⟨k0, x⟩ := r
      rw [ev] at h
      simp only [evE] at h
      cases ex : ixD x (.int j) with
      | none => rw [ex] at h; cases h
      | some d' =>
        rw [ex] at h
        cases h
        simp only [evE] at ev
        cases er : ρ[i]? with
        | none => rw [er] at ev; cases ev
        | some o =>
          cases o with
          | none => rw [er] at ev; cases ev
          | some r =>
            obtain ⟨k1, y⟩ := r
            rw [er] at ev
            cases k1 with
            | fz =>
              cases ev
              obtain ⟨v, h1, h2⟩ := s.sl.fz i _ er
              exact fin _ v h1 (.inl h2) ex
            | ow =>
              cases ev
              obtain ⟨p, h1, h2, h3, _⟩ := s.sl.ow i _ er
              exact fin _ (.ref p) h1 (.inr ⟨p, rfl, h2, h3⟩) ex
            | bo => exact absurd er (s.sl.bo i y)
  | _ => simp only [keysPath] at hp; cases hp
end
end R

set_option linter.all false
set_option maxHeartbeats 8000000
/-! All expressions. -/
namespace R
open PySem L2
section
variable {K : PySem.W.Frag} {B : Addr → Prop} {cl : Nat → List D → Option (Kd × D)} {sp : Nat → Sp}
theorem snd_var (i : Nat) : EvOk K B (tVar i) (evE cl (.var i)) := by
  intro σ I H ρ k d Q s h q
  simp only [evE] at h
  cases er : ρ[i]? with
  | none => rw [er] at h; cases h
  | some o =>
    cases o with
    | none => rw [er] at h; cases h
    | some r =>
      obtain ⟨k1, y⟩ := r
      rw [er] at h
      cases k1 with
      | fz =>
        cases h
        obtain ⟨v, h1, h2⟩ := s.sl.fz i _ er
        exact ⟨v, h1, q v I H (Ext.refl s.su) h2⟩
      | ow =>
        cases h
        obtain ⟨p, h1, h2, h3, h4⟩ := s.sl.ow i _ er
        exact ⟨_, h1, q _ I H (Ext.refl s.su) ⟨⟨p, rfl, h2, h3⟩, p, rfl, h4⟩⟩
      | bo => exact absurd er (s.sl.bo i y)
theorem snd_c {e : IE} {d : D} {x : V} (h : ∀ ρ, evE cl e ρ = some (.fz, d)) (r : ∀ I : Hp, Rep K I d x) : EvOk K B (tC x) (evE cl e) := by
  intro σ I H ρ k d' Q s h' q
  rw [h] at h'
  cases h'
  exact q x I H (Ext.refl s.su) (r I)
theorem snd_ix {a b : IE} {ta tb : TE} (ha : EvOk K B ta (evE cl a)) (hb : EvOk K B tb (evE cl b)) : EvOk K B (fun σ H Q => tOp (rIx K) ta tb σ H Q ∨ tDGet ta tb σ H Q) (evE cl (.ix a b)) := by
  intro σ I H ρ k d Q s h q
  rw [evE] at h
  split at h
  · cases h
  · rename_i k1 x e1
    split at h
    · cases h
    · rename_i k2 y e2
      split at h
      · cases h
      · rename_i d' e3
        cases h
        cases hd : isDct x with
        | false =>
          exact .inl (two_ok ha hb s e1 e2 fun v w I' H' z g1 g2 => (ix_ok e3 z.su g1 g2 (Q := Q) fun u r => q u I' H' z r).1 hd)
        | true =>
          refine .inr (two_ok ha hb s e1 e2 fun v w I' H' z g1 g2 => ?_)
          obtain ⟨a, u, h1, h2, h3⟩ := (ix_ok e3 z.su g1 g2 (Q := Q) fun u r => q u I' H' z r).2 hd
          exact ⟨a, u, h1, h2, h3⟩
theorem snd_call (hc : CallOk K cl sp) {f : Nat} {es : List IE} {ta : TA} (ha : EvOkF K B ta (evF cl es)) : EvOk K B (tCall (sp f) [] E0 ta) (evE cl (.call f es)) := by
  intro σ I H ρ k d Q s h q
  rw [evE] at h
  split at h
  · cases h
  · rename_i ds e1
    refine ha σ I H ρ ds _ s e1 fun vs I' H' x r => ?_
    rw [List.append_nil]
    exact hc f ds k d h B vs I' H' Q x.su r fun v I'' H'' y g => q v I'' H'' (x.trans y) (RK.step x g)
theorem snd_bi {b : BI} {es : List IE} (ar : biAr b es.length = true) (hA : EvOkB K B (rdA K sp es) (evB cl es)) (h1 : ∀ e ∈ es, EvOk K B (rdE K sp e) (evE cl e)) : EvOk K B (rdBi K b (rdL K sp es) (rdA K sp es)) (evE cl (.bi b es)) := by
  intro σ I H ρ k d Q s h q
  rw [evE] at h
  split at h
  · cases h
  · rename_i ds e1
    have hl := evB_len e1
    have val : ∀ {r : List V → Hp → VK → Prop}, (∀ vs I' H', Ext I H I' H' → Sees K I' H' ds vs → (∀ u I'' H'', Ext I' H' I'' H'' → RK K B H' I'' H'' k d u → Q u H'') → r vs H' Q) → tCB r (rdA K sp es) σ H Q := fun hr =>
      hA σ I H ρ ds _ s e1 fun vs I' H' x g => hr vs I' H' x g fun u I'' H'' y z => q u I'' H'' (x.trans y) (RK.step x z)
    have one : ∀ e, es = [e] → ∃ k0 d0, evE cl e ρ = some (k0, d0) ∧ ds = [d0] := fun e he => by
      subst he
      rw [evB_one] at e1
      cases e3 : evE cl e ρ with
      | none => rw [e3] at e1; cases e1
      | some r =>
        rw [e3] at e1
        cases e1
        exact ⟨r.1, r.2, rfl, rfl⟩
    have sees : ∀ e, es = [e] → ∀ {R : VK}, (∀ d0 v I' H', ds = [d0] → Ext I H I' H' → See K I' H' d0 v → (∀ u I'' H'', Ext I' H' I'' H'' → RK K B H' I'' H'' k d u → Q u H'') → R v H') → rdE K sp e σ H R := fun e he R hr => by
      obtain ⟨k0, d0, e3, e4⟩ := one e he
      subst he
      exact (h1 e List.mem_cons_self).see s e3 fun v I' H' x g => hr d0 v I' H' e4 x g fun u I'' H'' y z => q u I'' H'' (x.trans y) (RK.step x z)
    have isT : ∀ e, es = [e] → (∃ d0, ds = [d0] ∧ ∃ c, isD b d0 = some c ∧ (k, d) = (Kd.fz, D.bl c)) → tCB (rIsi K) (tCons (rdE K sp e) (tCons (tC (.ty (tyNm b))) tNil)) σ H Q := fun e he hx => by
      refine sees e he fun d0 v I' H' hd x g hq => ?_
      obtain ⟨d0', e5, c, e6, e7⟩ := hx
      rw [hd] at e5
      cases e5
      cases e7
      exact isi_ok e6 x.su g (hq _ I' H' (Ext.refl x.su) (rk_fz rep_bl))
    have isM : ∀ e, es = [e] → (∀ d0, biD b [d0] = (isD b d0).map fun c => (Kd.fz, D.bl c)) → ∃ d0, ds = [d0] ∧ ∃ c, isD b d0 = some c ∧ (k, d) = (Kd.fz, D.bl c) := fun e he hb => by
      obtain ⟨k0, d0, e3, e4⟩ := one e he
      subst e4
      rw [hb] at h
      obtain ⟨c, h2, h3⟩ := Option.map_eq_some_iff.mp h
      exact ⟨d0, rfl, c, h2, h3.symm⟩
    cases b with
    | len =>
      rcases es with _ | ⟨e, _ | ⟨e', r⟩⟩ <;> first | (simp [biAr] at ar; done) | skip
      exact val fun vs I' H' x g hq => len_ok h x.su g hq
    | tuple =>
      rcases es with _ | ⟨e, _ | ⟨e', r⟩⟩ <;> first | (simp [biAr] at ar; done) | skip
      exact sees e rfl fun d0 v I' H' hd x g hq => tuple_ok (by rw [← hd]; exact h) x.su g hq
    | list =>
      rcases es with _ | ⟨e, _ | ⟨e', r⟩⟩ <;> first | (simp [biAr] at ar; done) | skip
      exact val fun vs I' H' x g hq => list_ok h x.su g hq hl
    | int =>
      rcases es with _ | ⟨e, _ | ⟨e', r⟩⟩ <;> first | (simp [biAr] at ar; done) | skip
      exact val fun vs I' H' x g hq => int_ok h x.su g hq hl
    | str =>
      rcases es with _ | ⟨e, _ | ⟨e', r⟩⟩ <;> first | (simp [biAr] at ar; done) | skip
      exact val fun vs I' H' x g hq => str_ok h x.su g hq hl
    | all =>
      rcases es with _ | ⟨e, _ | ⟨e', r⟩⟩ <;> first | (simp [biAr] at ar; done) | skip
      exact val fun vs I' H' x g hq => all_ok h x.su g hq hl
    | sum =>
      rcases es with _ | ⟨e, _ | ⟨e', r⟩⟩ <;> first | (simp [biAr] at ar; done) | skip
      exact val fun vs I' H' x g hq => sum_ok h x.su g hq hl
    | max =>
      rcases es with _ | ⟨e, _ | ⟨e', _ | ⟨e'', r⟩⟩⟩ <;> first | (simp [biAr] at ar; done) | skip
      · exact val fun vs I' H' x g hq => max_ok h x.su g hq
      · exact val fun vs I' H' x g hq => max_ok h x.su g hq
    | min =>
      rcases es with _ | ⟨e, _ | ⟨e', _ | ⟨e'', r⟩⟩⟩ <;> first | (simp [biAr] at ar; done) | skip
      · exact val fun vs I' H' x g hq => min_ok h x.su g hq
      · exact val fun vs I' H' x g hq => min_ok h x.su g hq
    | isBool =>
      rcases es with _ | ⟨e, _ | ⟨e', r⟩⟩ <;> first | (simp [biAr] at ar; done) | skip
      exact isT e rfl (isM e rfl fun d0 => rfl)
    | isInt =>
      rcases es with _ | ⟨e, _ | ⟨e', r⟩⟩ <;> first | (simp [biAr] at ar; done) | skip
      exact isT e rfl (isM e rfl fun d0 => rfl)
    | isStr =>
      rcases es with _ | ⟨e, _ | ⟨e', r⟩⟩ <;> first | (simp [biAr] at ar; done) | skip
      exact isT e rfl (isM e rfl fun d0 => rfl)
    | isList =>
      rcases es with _ | ⟨e, _ | ⟨e', r⟩⟩ <;> first | (simp [biAr] at ar; done) | skip
      exact isT e rfl (isM e rfl fun d0 => rfl)
    | isTuple =>
      rcases es with _ | ⟨e, _ | ⟨e', r⟩⟩ <;> first | (simp [biAr] at ar; done) | skip
      exact isT e rfl (isM e rfl fun d0 => rfl)
    | sorted =>
      rcases es with _ | ⟨e, _ | ⟨e', r⟩⟩ <;> first | (simp [biAr] at ar; done) | skip
      exact val (r := fun vs H Q => rSortedI K vs H Q ∨ rSortedPO K vs H Q) fun vs I' H' x g hq => sorted_ok h x.su g hq hl
    | maxd dd =>
      rcases es with _ | ⟨e, _ | ⟨e', r⟩⟩ <;> first | (simp [biAr] at ar; done) | skip
      exact val (r := fun vs H Q => rMaxDef K vs [.int dd] H Q) fun vs I' H' x g hq => by
        unfold biD at h
        split at h <;> first | (rename_i z; cases z; done) | skip
        all_goals first | (cases h; done) | skip
        rename_i z
        cases z
        split at h
        · rename_i ns e5
          cases h
          obtain ⟨v, rfl, g1⟩ := g.one
          obtain ⟨a, ys, rfl, ha, ra, za⟩ := g1.lst x.su
          exact ⟨a, ns, _, rfl, rfl, by rw [← (intsD_v e5 ra).1]; exact .inl (.inl ha), hq _ I' H' (Ext.refl x.su) (rk_fz rep_int)⟩
        · cases h
    | lenset =>
      rcases es with _ | ⟨e, _ | ⟨e', r⟩⟩ <;> first | (simp [biAr] at ar; done) | skip
      · refine sees e rfl fun d0 v I' H' hd x g hq => ?_
        subst hd
        cases d0 with
        | lst xs0 =>
          simp only [biD] at h
          cases e5 : intsD xs0 with
          | none => rw [e5] at h; cases h
          | some ns =>
            rw [e5] at h
            have h : (if ns.length ≤ 4000 then some (Kd.fz, D.int (dedup ns).length) else none) = some (k, d) := h
            split at h
            · rename_i hz
              cases h
              obtain ⟨a, ys, rfl, ha, ra, za⟩ := g.lst x.su
              exact ⟨a, ns, rfl, by rw [← (intsD_v e5 ra).1]; exact .inl (.inl ha), hz, hq _ I' H' (Ext.refl x.su) (rk_fz rep_int)⟩
            · cases h
        | _ => simp only [biD] at h; cases h
    | tupRange =>
      rcases es with _ | ⟨e, _ | ⟨e', _ | ⟨e'', r⟩⟩⟩ <;> first | (simp [biAr] at ar; done) | skip
      · refine sees e rfl fun d0 v I' H' hd x g hq => ?_
        subst hd
        cases d0 with
        | int n =>
          simp only [biD] at h
          split at h
          · rename_i hz
            cases h
            obtain ⟨b1, b2⟩ := small62_iff.mp hz.1
            refine ⟨n, g.int, ⟨by omega, by omega, b1, b2, by rw [Int.sub_zero]; exact hz.2⟩, fun p hp => ?_⟩
            rw [rgV_eq]
            obtain ⟨y, r⟩ := rk_newT x.su hp (reps_ints (K := K) (I := I') (rangeL 0 n)) (by rw [List.length_map, rangeL_len, Int.sub_zero]; exact hz.2)
            exact hq _ _ _ y r
          · cases h
        | _ => simp only [biD] at h; cases h
      · rw [evB] at e1
        split at e1
        · cases e1
        · rename_i k1 d1 f1
          rw [evB_one] at e1
          cases f2 : evE cl e' ρ with
          | none => rw [f2] at e1; cases e1
          | some r2 =>
            rw [f2] at e1
            cases e1
            refine two_ok (R := fun v w H2 => ∃ i j, v = .int i ∧ w = .int j ∧ RgOk i j ∧ ∀ q, H2 q = none → Q (.ref q) (upd H2 q (.tup (rgV i j)))) (h1 e List.mem_cons_self) (h1 e' (List.mem_cons_of_mem _ List.mem_cons_self)) s f1 f2 fun v w I' H' x g1 g2 => ?_
            obtain ⟨k2, d2⟩ := r2
            cases d1 <;> (try simp only [biD] at h) <;> first | (cases h; done) | skip
            cases d2 <;> (try simp only [biD] at h) <;> first | (cases h; done) | skip
            split at h
            · rename_i hz
              cases h
              obtain ⟨b1, b2⟩ := small62_iff.mp hz.1
              obtain ⟨b3, b4⟩ := small62_iff.mp hz.2.1
              refine ⟨_, _, g1.int, g2.int, ⟨b1, b2, b3, b4, hz.2.2⟩, fun p hp => ?_⟩
              rw [rgV_eq]
              obtain ⟨y, r⟩ := rk_newT x.su hp (reps_ints (K := K) (I := I') (rangeL _ _)) (by rw [List.length_map, rangeL_len]; exact hz.2.2)
              exact q _ _ _ (x.trans y) r
            · cases h
    | lstRange =>
      rcases es with _ | ⟨e, _ | ⟨e', _ | ⟨e'', r⟩⟩⟩ <;> first | (simp [biAr] at ar; done) | skip
      · refine sees e rfl fun d0 v I' H' hd x g hq => ?_
        subst hd
        cases d0 with
        | int n =>
          simp only [biD] at h
          split at h
          · rename_i hz
            cases h
            obtain ⟨b1, b2⟩ := small62_iff.mp hz.1
            refine ⟨n, g.int, ⟨by omega, by omega, b1, b2, by rw [Int.sub_zero]; exact hz.2⟩, fun p hp => ?_⟩
            rw [rgV_eq]
            obtain ⟨y, r⟩ := rk_newL (B := B) x.su hp (reps_ints (K := K) (I := I') (rangeL 0 n)) (by rw [List.length_map, rangeL_len, Int.sub_zero]; exact hz.2)
            exact hq _ _ _ y r
          · cases h
        | _ => simp only [biD] at h; cases h
      · rw [evB] at e1
        split at e1
        · cases e1
        · rename_i k1 d1 f1
          rw [evB_one] at e1
          cases f2 : evE cl e' ρ with
          | none => rw [f2] at e1; cases e1
          | some r2 =>
            rw [f2] at e1
            cases e1
            refine two_ok (R := fun v w H2 => ∃ i j, v = .int i ∧ w = .int j ∧ RgOk i j ∧ ∀ q, H2 q = none → Q (.ref q) (upd H2 q (.lst (rgV i j)))) (h1 e List.mem_cons_self) (h1 e' (List.mem_cons_of_mem _ List.mem_cons_self)) s f1 f2 fun v w I' H' x g1 g2 => ?_
            obtain ⟨k2, d2⟩ := r2
            cases d1 <;> (try simp only [biD] at h) <;> first | (cases h; done) | skip
            cases d2 <;> (try simp only [biD] at h) <;> first | (cases h; done) | skip
            split at h
            · rename_i hz
              cases h
              obtain ⟨b1, b2⟩ := small62_iff.mp hz.1
              obtain ⟨b3, b4⟩ := small62_iff.mp hz.2.1
              refine ⟨_, _, g1.int, g2.int, ⟨b1, b2, b3, b4, hz.2.2⟩, fun p hp => ?_⟩
              rw [rgV_eq]
              obtain ⟨y, r⟩ := rk_newL (B := B) x.su hp (reps_ints (K := K) (I := I') (rangeL _ _)) (by rw [List.length_map, rangeL_len]; exact hz.2.2)
              exact q _ _ _ (x.trans y) (RK.step x r)
            · cases h
    | _ => simp only [biAr] at ar; cases ar
theorem strsD_v {I : Hp} : ∀ {ds : List D} {ys : List Str} {xs : List V}, strsD ds = some ys → Reps K I ds xs → xs = ys.map V.str
  | [], ns, xs, h, r => by
    simp only [strsD] at h
    simp only [Reps] at r
    cases h
    exact r
  | d :: ds, ns, xs, h, r => by
    simp only [Reps] at r
    obtain ⟨x, r', rfl, h1, h2⟩ := r
    cases d <;> simp only [strsD] at h <;> first | cases h | skip
    cases e : strsD ds with
    | none => rw [e] at h; cases h
    | some ms =>
      rw [e] at h
      cases h
      have q1 := strsD_v e h2
      simp only [Rep] at h1
      rw [q1, h1.1]
      rfl
theorem reps_strs {I : Hp} : ∀ {ys : List Str}, ys.all okS = true → Reps K I (ys.map .str) (ys.map V.str)
  | [], _ => Reps.nil
  | y :: ys, h => by
    simp only [List.all_cons, Bool.and_eq_true] at h
    exact Reps.cons (rep_okS h.1) (reps_strs h.2)
theorem snd_mt {m : MI} {o : IE} {es : List IE} (ar : mtAr m es.length = true) (ho : EvOk K B (rdE K sp o) (evE cl o)) (h1 : ∀ e ∈ es, EvOk K B (rdE K sp e) (evE cl e)) : EvOk K B (rdMt K m (rdE K sp o) (rdL K sp es) (rdA K sp es)) (evE cl (.mt m o es)) := by
  intro σ I H ρ k d Q s h q
  rw [evE] at h
  split at h
  · cases h
  · rename_i k0 x e0
    split at h
    · cases h
    · rename_i ds e1
      cases m with
      | get =>
        rcases es with _ | ⟨e, _ | ⟨e', _ | ⟨e'', r⟩⟩⟩ <;> first | (simp [mtAr] at ar; done) | skip
        rw [evB] at e1
        split at e1
        · cases e1
        · rename_i k1 d1 f1
          rw [evB_one] at e1
          cases f2 : evE cl e' ρ with
          | none => rw [f2] at e1; cases e1
          | some r2 =>
            rw [f2] at e1
            cases e1
            obtain ⟨k2, d2⟩ := r2
            simp only [rdL, rdMt]
            refine ho.see s e0 fun v I1 H1 x1 g => ?_
            have isd : isDct x = true := by
              cases x <;> first | rfl | (simp [mtD] at h)
            have hD : ∃ a, v = .ref a ∧ IsD H1 a := by
              cases x with
              | dk ks ws =>
                obtain ⟨a, xs, rfl, ha, _⟩ := g.dk x1.su
                exact ⟨a, rfl, .inl ⟨_, ha⟩⟩
              | dt ks ws =>
                obtain ⟨a, xs, rfl, ha, _⟩ := g.dt x1.su
                exact ⟨a, rfl, .inr ⟨_, ha⟩⟩
              | _ => cases isd
            obtain ⟨a, hv, hIs⟩ := hD
            refine ⟨a, hv, hIs, two_ok (R := fun y z H3 => ∃ o, DGet H3 a y o ∧ Q (o.getD z) H3) (h1 e List.mem_cons_self) (h1 e' (List.mem_cons_of_mem _ List.mem_cons_self)) (s.ext x1) f1 f2 fun y z I3 H3 x3 g1 g2 => ?_⟩
            have g' := g.ext x3
            have fin : ∀ (o : Option V) (r : Option D), flat d2 = true → (∀ dd, r = some dd → ∃ u, o = some u ∧ Rep K I3 dd u) → (r = none → o = none) → some (Kd.fz, r.getD d2) = some (k, d) → Q (o.getD z) H3 := fun o r hf h1 h2 h3 => by
              cases h3
              cases r with
              | some dd =>
                obtain ⟨u, rfl, ru⟩ := h1 dd rfl
                exact q _ _ _ (x1.trans x3) ru
              | none =>
                rw [h2 rfl]
                refine q _ _ _ (x1.trans x3) ?_
                rcases g2 with g2 | ⟨_, _, _, c⟩
                · exact g2
                · cases d2 <;> first | (cases hf; done) | exact False.elim c
            cases x with
            | dk ks ws =>
              obtain ⟨a', xs, e5, ha, ra, la, za⟩ := g'.dk x3.su
              rw [hv] at e5
              cases e5
              simp only [mtD] at h
              split at h
              · rename_i hf
                cases ek : keyOf d1 with
                | none => rw [ek] at h; cases h
                | some kk =>
                  rw [ek] at h
                  obtain ⟨q1, q2, _⟩ := valV_look kk ra la
                  exact ⟨_, .inl ⟨_, kk, ha, keyOf_v ek g1, rfl⟩, fin _ (look ks ws kk) hf q1 q2 h⟩
              · cases h
            | dt ks ws =>
              obtain ⟨a', xs, e5, ha, ra, la, za⟩ := g'.dt x3.su
              rw [hv] at e5
              cases e5
              cases d1 with
              | tup dd =>
                simp only [mtD] at h
                split at h
                · rename_i hf
                  cases ek : keysOf dd with
                  | none => rw [ek] at h; cases h
                  | some kk =>
                    rw [ek] at h
                    obtain ⟨q1, q2, _⟩ := valV_look kk ra la
                    obtain ⟨b, ys, e6, hb, ib, rb, zb⟩ := g1.tup x3.su
                    exact ⟨_, .inr ⟨_, kk, b, ha, e6, by rw [hb, keysOf_v ek rb], rfl⟩, fin _ (look ks ws kk) hf q1 q2 h⟩
                · cases h
              | _ => simp [mtD] at h
            | _ => cases isd
      | join =>
        rcases es with _ | ⟨e, _ | ⟨e', r⟩⟩ <;> first | (simp [mtAr] at ar; done) | skip
        rw [evB_one] at e1
        cases f1 : evE cl e ρ with
        | none => rw [f1] at e1; cases e1
        | some r1 =>
          rw [f1] at e1
          cases e1
          obtain ⟨k1, d1⟩ := r1
          simp only [rdL, rdMt]
          cases x with
          | str a =>
            cases d1 with
            | lst ds1 =>
              simp only [mtD] at h
              cases e5 : strsD ds1 with
              | none => rw [e5] at h; cases h
              | some ys =>
                rw [e5] at h
                have h : (if (ys.map (·.length)).sum + ys.length * a.length ≤ LINE ∧ okS (Txt.join a ys) = true then some (Kd.fz, D.str (Txt.join a ys)) else none) = some (k, d) := h
                split at h
                · rename_i hz
                  cases h
                  refine ho.see s e0 fun v I1 H1 x1 g => ⟨⟨a, g.str.1⟩, (h1 e List.mem_cons_self).see (s.ext x1) f1 fun w I2 H2 x2 g2 => ?_⟩
                  obtain ⟨p, xs, rfl, hp, ra, za⟩ := g2.lst x2.su
                  exact ⟨a, p, ys, g.str.1, rfl, .inl (by rw [← strsD_v e5 ra]; exact .inl (.inl hp)), hz.1, q _ _ _ (x1.trans x2) (rk_fz (rep_okS hz.2))⟩
                · cases h
            | _ => simp [mtD] at h
          | _ => simp [mtD] at h
      | split =>
        rcases es with _ | ⟨e, _ | ⟨e', r⟩⟩ <;> first | (simp [mtAr] at ar; done) | skip
        rw [evB_one] at e1
        cases f1 : evE cl e ρ with
        | none => rw [f1] at e1; cases e1
        | some r1 =>
          rw [f1] at e1
          cases e1
          obtain ⟨k1, d1⟩ := r1
          simp only [rdL, rdMt]
          cases x with
          | str a =>
            cases d1 with
            | str b =>
              simp only [mtD] at h
              split at h
              · rename_i hz
                cases h
                refine ho.see s e0 fun v I1 H1 x1 g => ⟨⟨a, g.str.1⟩, (h1 e List.mem_cons_self).see (s.ext x1) f1 fun w I2 H2 x2 g2 => ?_⟩
                refine ⟨a, b, g.str.1, by rw [g2.str.1], hz.1, le_line hz.2.1, fun p hp => ?_⟩
                obtain ⟨y, r⟩ := rk_newL (B := B) x2.su hp (reps_strs (K := K) (I := I2) hz.2.2.2) (by rw [List.length_map]; exact hz.2.2.1)
                exact q _ _ _ ((x1.trans x2).trans y) (RK.step (x1.trans x2) r)
              · cases h
            | _ => simp [mtD] at h
          | _ => simp [mtD] at h
      | _ => simp only [mtAr] at ar; cases ar
end
end R

set_option linter.all false
set_option maxHeartbeats 8000000
/-! All expressions. -/
namespace R
open PySem L2
section
variable {K : PySem.W.Frag} {B : Addr → Prop} {cl : Nat → List D → Option (Kd × D)} {sp : Nat → Sp}
/-- the item's function, as evE spells it -/
theorem lc_spell (g : Tg) (ifs : List IE) (elt : IE) (ρ : Env) : (fun x => match setTg g x (wipeR ρ (tgS g)) with
          | none => none
          | some ρ' => match evI cl ifs ρ' with
            | none => none
            | some false => some none
            | some true => match evE cl elt ρ' with
              | none => none
              | some r => match esc r with
                | none => none
                | some d => some (some d)) = lcItem g (evI cl ifs) (evE cl elt) ρ := rfl
theorem isDct_of {k : Kd} {d : D} {xs : List D} (h : srcD .keys [d] = some xs) : isDct d = true := by
  cases d <;> first | rfl | (simp [srcD] at h)
/-- a comprehension over a dict -/
theorem lcKeys {g : Tg} {e : IE} {tt : TT} {te : TE} {fI : Env → Option Bool} {fE : Env → Option (Kd × D)} (hp : keysPath [e] = true) (hI : EvOkT K B tt fI) (hE : EvOk K B te fE)
    {σ : List (Option V)} {I H : Hp} {ρ : Env} {d : D} {xs ys : List D} {Q : VK} (s : Sta K B I H σ ρ) (e0 : evE cl e ρ = some (.fz, d)) (e1 : srcD .keys [d] = some xs) (e2 : lcRun (lcItem g fI fE ρ) xs = some ys)
    (q : ∀ v I' H', Ext I H I' H' → RK K B H I' H' .ow (.lst ys) v → Q v H') :
    tLockE (tLc (iKeys (rdE K sp e)) (rdG K g) tt te (tgS g)) σ H Q ∨ tLc (iKeys (rdE K sp e)) (rdG K g) tt te (tgS g) σ H Q := by
  have hd := isDct_of (k := .fz) e1
  obtain ⟨a, u, ia, du, ra, pe⟩ := path_ok (sp := sp) hp s e0 hd
  -- the walk, the dict being locked
  have go : ∀ (H1 : Hp) (od : Obj), (∀ b o, b ≠ a → H b = some o → H1 b = some o) → H1 a = some (.frz od u) → Sta K B I H1 σ ρ → ∀ (R : VK), (∀ v I' H', Ext I H1 I' H' → RK K B H1 I' H' .ow (.lst ys) v → R v H') →
      tLc (iKeys (rdE K sp e)) (rdG K g) tt te (tgS g) σ H1 R := fun H1 od hk h1 s1 R r => by
    refine lc_at (fr := False) (fun R' r' => ?_) hI hE s1 e2 r
    refine pe H1 _ hk ?_
    cases d with
    | dk ks ws =>
      simp only [srcD] at e1
      cases e1
      have ra' := ra
      simp only [Rep] at ra'
      obtain ⟨a', zs, e3, i3, r3, l3, z3, k3⟩ := ra'
      cases e3
      rw [ia] at i3
      cases i3
      exact ⟨a, od, rfl, .inl ⟨_, h1, r' _ I H1 (Ext.refl s1.su) (src_keysK l3 ia k3 h1) (by rw [List.length_map]; exact z3)⟩⟩
    | dt ks ws =>
      simp only [srcD] at e1
      cases e1
      have ra' := ra
      simp only [Rep] at ra'
      obtain ⟨a', zs, e3, i3, r3, l3, z3, k3⟩ := ra'
      cases e3
      rw [ia] at i3
      cases i3
      exact ⟨a, od, rfl, .inr ⟨_, h1, r' _ I H1 (Ext.refl s1.su) (src_keysT l3 ia k3 h1) (by rw [List.length_map]; exact z3)⟩⟩
    | _ => cases hd
  rcases s.su a u ia with h1 | ⟨_, od, h1⟩
  · refine .inl ⟨a, u, h1, (by cases u <;> first | trivial | (cases du)), fun od => ?_⟩
    have ne : ∀ b, b ≠ a → upd H a (.frz od u) b = H b := fun b hb => upd_ne hb
    have s1 : Sta K B I (upd H a (.frz od u)) σ ρ := by
      refine ⟨fun b o hb => ?_, fun b hb => ?_, s.sl.len, s.sl.fz, fun i d' hi => ?_, s.sl.bo, s.sl.ne⟩
      · by_cases e5 : b = a
        · rw [e5, ia] at hb
          cases hb
          rw [e5]
          exact .inr ⟨du, od, upd_same⟩
        · rw [ne b e5]
          exact s.su b o hb
      · by_cases e5 : b = a
        · rw [e5]
          exact ⟨_, upd_same⟩
        · rw [ne b e5]
          exact s.ba b hb
      · obtain ⟨p, h2, h3, h4, h5⟩ := s.sl.ow i d' hi
        have : p ≠ a := fun z => by rw [z, ia] at h3; cases h3
        exact ⟨p, h2, h3, h4.ext (fun _ _ h => h) fun o h => by rw [ne p this]; exact h, h5⟩
    refine go _ od (fun b o hb h => by rw [ne b hb]; exact h) upd_same s1 _ fun v I' H' x r => ?_
    have ha' : H' a = some (.frz od u) := x.hh _ _ upd_same
    refine ⟨ha', q v I' _ ?_ ?_⟩
    · refine ⟨x.ii, fun b o hb => ?_, fun b o hb => ?_, fun b o hb n => ?_⟩
      · by_cases e5 : b = a
        · rw [e5, h1] at hb
          cases hb
          rw [e5]
          exact upd_same
        · rw [upd_ne e5]
          exact x.hh b o (by rw [ne b e5]; exact hb)
      · by_cases e5 : b = a
        · rw [e5, x.ii a u ia] at hb
          cases hb
          rw [e5]
          exact .inl upd_same
        · rw [upd_ne e5]
          exact x.su b o hb
      · by_cases e5 : b = a
        · rw [e5, ia]
          exact x.ii a u ia
        · exact x.fr b o (by rw [ne b e5]; exact hb) n
    · obtain ⟨⟨p, rfl, h3, h4⟩, p', e6, h5⟩ := r
      cases e6
      have np : p ≠ a := fun z => by rw [z, x.ii a u ia] at h3; cases h3
      refine ⟨⟨p, rfl, h3, h4.ext (fun _ _ h => h) fun o h => by rw [upd_ne np]; exact h⟩, p, rfl, ?_⟩
      rw [ne p np] at h5
      exact h5
  · exact .inr (go H od (fun b o _ h => h) h1 s Q q)
mutual
theorem snd (hc : CallOk K cl sp) : ∀ e : IE, okE e = true → EvOk K B (rdE K sp e) (evE cl e)
  | .var i, _ => by simp only [rdE]; exact snd_var i
  | .int i, _ => by simp only [rdE]; exact snd_c (d := .int i) (fun ρ => by simp only [evE]) fun I => rep_int
  | .bl i, _ => by simp only [rdE]; exact snd_c (d := .bl i) (fun ρ => by simp only [evE]) fun I => rep_bl
  | .non, _ => by simp only [rdE]; exact snd_c (d := .non) (fun ρ => by simp only [evE]) fun I => rep_non
  | .str x, h => by
    simp only [okE] at h
    simp only [rdE]
    exact snd_c (d := .str x) (fun ρ => by simp only [evE]) fun I => rep_okS h
  | .glb x d, h => by
    simp only [okE] at h
    simp only [rdE]
    refine snd_c (d := d) (fun ρ => by simp only [evE]) fun I => gl_rep rfl ?_
    cases d <;> first | rfl | exact h
  | .bin op a b, h => by
    simp only [okE, Bool.and_eq_true] at h
    simp only [rdE]
    intro σ I H ρ k d Q s h' q
    rw [evE] at h'
    split at h'
    · cases h'
    · rename_i k1 x e1
      split at h'
      · cases h'
      · rename_i k2 y e2
        exact two_ok (snd hc a h.1) (snd hc b h.2) s e1 e2 fun v w I' H' z g1 g2 => bin_ok h' z.su g1 g2 fun u I'' H'' y r => q u I'' H'' (z.trans y) (RK.step z r)
  | .cmp op a b, h => by
    simp only [okE, Bool.and_eq_true] at h
    simp only [rdE]
    intro σ I H ρ k d Q s h' q
    rw [evE] at h'
    split at h'
    · cases h'
    · rename_i k1 x e1
      split at h'
      · cases h'
      · rename_i k2 y e2
        split at h'
        · cases h'
        · rename_i c e3
          cases h'
          exact cmp2_ok (snd hc a h.1) (snd hc b h.2) s e1 e2 e3 fun I' H' x => q _ I' H' x (rk_fz rep_bl)
  | .chain op op' a b c, h => by
    simp only [okE, Bool.and_eq_true, bne_iff_ne, ne_eq] at h
    obtain ⟨⟨⟨⟨⟨⟨ha, hb⟩, hcc⟩, n1⟩, n2⟩, n3⟩, n4⟩ := h
    simp only [rdE]
    intro σ I H ρ k d Q s h' q
    rw [evE] at h'
    split at h'
    · cases h'
    · rename_i k1 x e1
      split at h'
      · cases h'
      · rename_i k2 y e2
        refine two_ok (snd hc a ha) (snd hc b hb) s e1 e2 fun v w I' H' z g1 g2 => ?_
        split at h'
        · cases h'
        · rename_i e3
          cases h'
          refine cmp_ok e3 z.su g1 g2 ⟨n1, n2⟩ ⟨false, rfl, ?_⟩
          rw [if_neg Bool.false_ne_true]
          exact q _ I' H' z (rk_fz rep_bl)
        · rename_i e3
          split at h'
          · cases h'
          · rename_i k3 z3 e4
            split at h'
            · cases h'
            · rename_i c' e5
              cases h'
              refine cmp_ok e3 z.su g1 g2 ⟨n1, n2⟩ ⟨true, rfl, ?_⟩
              rw [if_pos rfl]
              exact (snd hc c hcc).see (s.ext z) e4 fun u I'' H'' y2 g3 => cmp_ok e5 y2.su (g2.ext y2) g3 ⟨n3, n4⟩ (q _ _ _ (z.trans y2) (rk_fz rep_bl))
  | .and a b, h => by
    simp only [okE, Bool.and_eq_true] at h
    simp only [rdE]
    intro σ I H ρ k d Q s h' q
    rw [evE] at h'
    split at h'
    · cases h'
    · rename_i e1
      obtain ⟨k1, x, e2, e3⟩ := onT_some e1
      refine (snd hc a h.1).see s e2 fun v I' H' z g => ⟨true, tru_okD e3 z.su g, ?_⟩
      rw [if_pos rfl]
      exact snd hc b h.2 _ _ _ _ _ _ _ (s.ext z) h' fun u I'' H'' y r => q u I'' H'' (z.trans y) (RK.step z r)
    · rename_i e1
      obtain ⟨k1, x, e2, e3⟩ := onT_some e1
      rw [e2] at h'
      cases h'
      refine snd hc a h.1 _ _ _ _ _ _ _ s e2 fun v I' H' z g => ⟨false, tru_okD e3 z.su g.see, ?_⟩
      rw [if_neg Bool.false_ne_true]
      exact q v I' H' z g
  | .or a b, h => by
    simp only [okE, Bool.and_eq_true] at h
    simp only [rdE]
    intro σ I H ρ k d Q s h' q
    rw [evE] at h'
    split at h'
    · cases h'
    · rename_i e1
      obtain ⟨k1, x, e2, e3⟩ := onT_some e1
      rw [e2] at h'
      cases h'
      refine snd hc a h.1 _ _ _ _ _ _ _ s e2 fun v I' H' z g => ⟨true, tru_okD e3 z.su g.see, ?_⟩
      rw [if_pos rfl]
      exact q v I' H' z g
    · rename_i e1
      obtain ⟨k1, x, e2, e3⟩ := onT_some e1
      refine (snd hc a h.1).see s e2 fun v I' H' z g => ⟨false, tru_okD e3 z.su g, ?_⟩
      rw [if_neg Bool.false_ne_true]
      exact snd hc b h.2 _ _ _ _ _ _ _ (s.ext z) h' fun u I'' H'' y r => q u I'' H'' (z.trans y) (RK.step z r)
  | .not a, h => by
    simp only [okE] at h
    simp only [rdE]
    intro σ I H ρ k d Q s h' q
    rw [evE] at h'
    split at h'
    · cases h'
    · rename_i c e1
      obtain ⟨k1, x, e2, e3⟩ := onT_some e1
      cases h'
      exact (snd hc a h).see s e2 fun v I' H' z g => ⟨c, tru_okD e3 z.su g, q _ I' H' z (rk_fz rep_bl)⟩
  | .neg a, h => by
    simp only [okE] at h
    simp only [rdE]
    intro σ I H ρ k d Q s h' q
    rw [evE] at h'
    split at h'
    · rename_i k1 i e1
      cases h'
      exact (snd hc a h).see s e1 fun v I' H' z g => ⟨i, g.int, q _ I' H' z (rk_fz rep_int)⟩
    · cases h'
  | .ifx c a b, h => by
    simp only [okE, Bool.and_eq_true] at h
    simp only [rdE]
    intro σ I H ρ k d Q s h' q
    rw [evE] at h'
    split at h'
    · cases h'
    · rename_i e1
      refine sndT hc c h.1.1 σ I H ρ true _ s e1 fun I' H' z => ?_
      rw [if_pos rfl]
      exact snd hc a h.1.2 _ _ _ _ _ _ _ (s.ext z) h' fun u I'' H'' y r => q u I'' H'' (z.trans y) (RK.step z r)
    · rename_i e1
      refine sndT hc c h.1.1 σ I H ρ false _ s e1 fun I' H' z => ?_
      rw [if_neg Bool.false_ne_true]
      exact snd hc b h.2 _ _ _ _ _ _ _ (s.ext z) h' fun u I'' H'' y r => q u I'' H'' (z.trans y) (RK.step z r)
  | .tup es, h => by
    simp only [okE, Bool.and_eq_true, decide_eq_true_eq] at h
    simp only [rdE]
    intro σ I H ρ k d Q s h' q
    rw [evE] at h'
    split at h'
    · cases h'
    · rename_i ds e1
      cases h'
      have hl := evF_len e1
      refine sndF hc es h.1 _ _ _ _ _ _ s e1 fun vs I' H' x r => ⟨by rw [r.len, hl]; exact le_line h.2, fun p hp => ?_⟩
      obtain ⟨y, r'⟩ := rk_newT x.su hp r (by rw [hl]; exact h.2)
      exact q _ _ _ (x.trans y) r'
  | .lst es, h => by
    simp only [okE, Bool.and_eq_true, decide_eq_true_eq] at h
    simp only [rdE]
    intro σ I H ρ k d Q s h' q
    rw [evE] at h'
    split at h'
    · cases h'
    · rename_i ds e1
      cases h'
      have hl := evF_len e1
      refine sndF hc es h.1 _ _ _ _ _ _ s e1 fun vs I' H' x r => ⟨by rw [r.len, hl]; exact le_line h.2, fun p hp => ?_⟩
      obtain ⟨y, r'⟩ := rk_newL (B := B) x.su hp r (by rw [hl]; exact h.2)
      exact q _ _ _ (x.trans y) (RK.step x r')
  | .ix a b, h => by
    simp only [okE, Bool.and_eq_true] at h
    simp only [rdE]
    exact snd_ix (snd hc a h.1) (snd hc b h.2)
  | .slc a lo hi, h => by
    simp only [okE, Bool.and_eq_true] at h
    simp only [rdE]
    intro σ I H ρ k d Q s h' q
    rw [evE] at h'
    split at h'
    · cases h'
    · rename_i k1 x e1
      split at h'
      · cases h'
      · rename_i l e2
        split at h'
        · cases h'
        · rename_i hh e3
          refine (snd hc a h.1.1).see s e1 fun v I1 H1 x1 g => ?_
          refine sndO hc lo h.1.2 _ _ _ _ _ _ (s.ext x1) e2 fun I2 H2 x2 => ?_
          refine sndO hc hi h.2 _ _ _ _ _ _ ((s.ext x1).ext x2) e3 fun I3 H3 x3 => ?_
          exact slc_ok h' x3.su ((g.ext x2).ext x3) fun u I' H' y r => q u I' H' (((x1.trans x2).trans x3).trans y) (RK.step ((x1.trans x2).trans x3) r)
  | .call f es, h => by
    simp only [okE] at h
    simp only [rdE]
    exact snd_call hc (sndF hc es h)
  | .bi b es, h => by
    simp only [okE, Bool.and_eq_true] at h
    simp only [rdE]
    exact snd_bi h.2 (sndB hc es h.1) (sndL hc es h.1)
  | .mt m o es, h => by
    simp only [okE, Bool.and_eq_true] at h
    simp only [rdE]
    exact snd_mt h.2 (snd hc o h.1.1) (sndL hc es h.1.2)
  | .lc elt g k src ifs, h => by
    simp only [okE, Bool.and_eq_true] at h
    obtain ⟨⟨⟨h1, h2⟩, h3⟩, h4⟩ := h
    have hE := snd hc elt h1
    have hI := sndI hc ifs h3
    intro σ I H ρ k' d Q s h' q
    rw [evE] at h'
    split at h'
    · cases h'
    · rename_i ds e1
      split at h'
      · cases h'
      · rename_i xs e2
        split at h'
        · cases h'
        · rename_i ys e3
          cases h'
          have e3 : lcRun (lcItem g (evI cl ifs) (evE cl elt) ρ) xs = some ys := e3
          have plain : k ≠ .keys → tLc (rdSrc K k (rdL K sp src) (rdA K sp src)) (rdG K g) (rdI K sp ifs) (rdE K sp elt) (tgS g) σ H Q := fun hk => by
            have e1 : evB cl src ρ = some ds := by
              cases k <;> first | exact absurd rfl hk | exact e1
            refine lc_ok (fr := False) (src_any (k := k) hk (sndB hc src h2).s0 (fun ρ ds h => evB_len h) fun e he => ?_) hI hE σ I H ρ xs ys Q s ?_ e3 q
            · subst he
              exact ⟨_, (sndL hc [e] h2 e List.mem_cons_self).s0, fun ρ => evB_one⟩
            · show (evB cl src ρ).bind (srcD k) = some xs
              rw [e1]
              exact e2
          cases k with
          | keys =>
            simp only [bne_self_eq_false, Bool.false_or] at h4
            match src, h4, h2, e1 with
            | [e], h4, h2, e1 =>
              have e1 : evF cl [e] ρ = some ds := e1
              rw [evF_one] at e1
              cases e5 : evE cl e ρ with
              | none => rw [e5] at e1; cases e1
              | some r =>
                obtain ⟨k0, d0⟩ := r
                have k1 : k0 = .fz := by
                  rw [e5] at e1
                  have kp : ∀ e : IE, keysPath [e] = true → ∀ r, evE cl e ρ = some r → r.1 = .fz ∨ r.1 = .bo := fun e hp r he => by
                    cases e with
                    | var i =>
                      simp only [evE] at he
                      split at he
                      · cases he; exact .inl rfl
                      · cases he; exact .inr rfl
                      · cases he
                    | ix a b =>
                      rw [evE] at he
                      split at he
                      · cases he
                      · split at he
                        · cases he
                        · split at he
                          · cases he
                          · cases he; exact .inl rfl
                    | _ => simp only [keysPath] at hp; cases hp
                  rcases kp e h4 _ e5 with z | z
                  · exact z
                  · have z : k0 = .bo := z
                    subst z
                    cases e1
                subst k1
                rw [e5] at e1
                cases e1
                simp only [rdE, rdL, rdSrc]
                exact lcKeys h4 hI hE s e5 e2 e3 q
            | [], h4, _, _ => simp only [keysPath] at h4; cases h4
            | _ :: _ :: _, h4, _, _ => simp only [keysPath] at h4; cases h4
          | seq => simp only [rdE]; exact plain (by intro h; injection h)
          | rng => simp only [rdE]; exact plain (by intro h; injection h)
          | enum => simp only [rdE]; exact plain (by intro h; injection h)
          | zip => simp only [rdE]; exact plain (by intro h; injection h)
          | rev => simp only [rdE]; exact plain (by intro h; injection h)
  | .dnew t, h => by
    simp only [rdE]
    intro σ I H ρ k d Q s h' q
    rw [evE] at h'
    cases t with
    | true =>
      rw [if_pos rfl]
      cases h'
      intro p hp
      exact q _ I _ (Ext.new s.su hp) ⟨⟨p, rfl, s.su.fresh hp, [], upd_same, Reps.nil, rfl, Nat.zero_le _, rfl⟩, p, rfl, hp⟩
    | false =>
      rw [if_neg Bool.false_ne_true]
      cases h'
      intro p hp
      exact q _ I _ (Ext.new s.su hp) ⟨⟨p, rfl, s.su.fresh hp, [], upd_same, Reps.nil, rfl, Nat.zero_le _, rfl⟩, p, rfl, hp⟩
  | .disp _ _ _, h => by simp only [okE] at h; cases h
theorem sndT (hc : CallOk K cl sp) : ∀ e : IE, okT e = true → EvOkT K B (rdT K sp e) (fun ρ => onT (evE cl e ρ))
  | .cmp op a b, h => by
    simp only [okT, Bool.and_eq_true] at h
    simp only [rdT]
    intro σ I H ρ c Q s e q
    obtain ⟨k, d, h', e2⟩ := onT_some e
    rw [evE] at h'
    split at h'
    · cases h'
    · rename_i k1 x e1
      split at h'
      · cases h'
      · rename_i k2 y e2
        split at h'
        · cases h'
        · rename_i c e3
          cases h'
          simp only [truD] at e2
          cases e2
          exact cmp2_ok (snd hc a h.1) (snd hc b h.2) s e1 (by assumption) e3 fun I' H' x => ⟨_, rfl, q I' H' x⟩
  | .chain op op' a b c, h => by
    simp only [okT, Bool.and_eq_true, bne_iff_ne, ne_eq] at h
    obtain ⟨⟨⟨⟨⟨⟨ha, hb⟩, hcc⟩, n1⟩, n2⟩, n3⟩, n4⟩ := h
    simp only [rdT]
    intro σ I H ρ c0 Q s e q
    obtain ⟨k, d, h', ec⟩ := onT_some e
    rw [evE] at h'
    split at h'
    · cases h'
    · rename_i k1 x e1
      split at h'
      · cases h'
      · rename_i k2 y e2
        refine two_ok (snd hc a ha) (snd hc b hb) s e1 e2 fun v w I' H' z g1 g2 => ?_
        split at h'
        · cases h'
        · rename_i e3
          cases h'
          simp only [truD] at ec
          cases ec
          refine cmp_ok e3 z.su g1 g2 ⟨n1, n2⟩ ⟨false, rfl, ?_⟩
          rw [if_neg Bool.false_ne_true]
          exact ⟨_, rfl, q I' H' z⟩
        · rename_i e3
          split at h'
          · cases h'
          · rename_i k3 z3 e4
            split at h'
            · cases h'
            · rename_i c' e5
              cases h'
              simp only [truD] at ec
              cases ec
              refine cmp_ok e3 z.su g1 g2 ⟨n1, n2⟩ ⟨true, rfl, ?_⟩
              rw [if_pos rfl]
              exact (snd hc c hcc).see (s.ext z) e4 fun u I'' H'' y2 g3 => cmp_ok e5 y2.su (g2.ext y2) g3 ⟨n3, n4⟩ ⟨_, rfl, q _ _ (z.trans y2)⟩
  | .and a b, h => by
    simp only [okT, Bool.and_eq_true] at h
    simp only [rdT]
    intro σ I H ρ c Q s e q
    have e : onT (evE cl (.and a b) ρ) = some c := e
    rw [evE] at e
    split at e
    · cases e
    · rename_i e1
      refine sndT hc a h.1 σ I H ρ true _ s e1 fun I' H' z => ?_
      rw [if_pos rfl]
      exact sndT hc b h.2 _ _ _ _ _ _ (s.ext z) e fun I'' H'' y => q I'' H'' (z.trans y)
    · rename_i e1
      refine sndT hc a h.1 σ I H ρ false _ s e1 fun I' H' z => ?_
      rw [if_neg Bool.false_ne_true]
      rw [e1] at e
      cases e
      exact q I' H' z
  | .or a b, h => by
    simp only [okT, Bool.and_eq_true] at h
    simp only [rdT]
    intro σ I H ρ c Q s e q
    have e : onT (evE cl (.or a b) ρ) = some c := e
    rw [evE] at e
    split at e
    · cases e
    · rename_i e1
      refine sndT hc a h.1 σ I H ρ true _ s e1 fun I' H' z => ?_
      rw [if_pos rfl]
      rw [e1] at e
      cases e
      exact q I' H' z
    · rename_i e1
      refine sndT hc a h.1 σ I H ρ false _ s e1 fun I' H' z => ?_
      rw [if_neg Bool.false_ne_true]
      exact sndT hc b h.2 _ _ _ _ _ _ (s.ext z) e fun I'' H'' y => q I'' H'' (z.trans y)
  | .not a, h => by
    simp only [okT] at h
    simp only [rdT]
    intro σ I H ρ c Q s e q
    have e : onT (evE cl (.not a) ρ) = some c := e
    rw [evE] at e
    split at e
    · cases e
    · rename_i c' e1
      simp only [onT, truD] at e
      cases e
      exact sndT hc a h σ I H ρ c' _ s e1 q
  | .var i, _ => by simp only [rdT]; exact (snd_var i).tru
  | .int i, _ => by simp only [rdT]; exact (snd_c (d := .int i) (fun ρ => by simp only [evE]) fun I => rep_int).tru
  | .bl i, _ => by simp only [rdT]; exact (snd_c (d := .bl i) (fun ρ => by simp only [evE]) fun I => rep_bl).tru
  | .ix a b, h => by
    simp only [okT, Bool.and_eq_true] at h
    simp only [rdT]
    exact (snd_ix (snd hc a h.1) (snd hc b h.2)).tru
  | .call f es, h => by
    simp only [okT] at h
    simp only [rdT]
    exact (snd_call hc (sndF hc es h)).tru
  | .bi b es, h => by
    simp only [okT, Bool.and_eq_true] at h
    simp only [rdT]
    exact (snd_bi h.2 (sndB hc es h.1) (sndL hc es h.1)).tru
  | .non, h => by simp only [okT] at h; cases h
  | .str _, h => by simp only [okT] at h; cases h
  | .glb _ _, h => by simp only [okT] at h; cases h
  | .bin _ _ _, h => by simp only [okT] at h; cases h
  | .neg _, h => by simp only [okT] at h; cases h
  | .ifx _ _ _, h => by simp only [okT] at h; cases h
  | .tup _, h => by simp only [okT] at h; cases h
  | .lst _, h => by simp only [okT] at h; cases h
  | .slc _ _ _, h => by simp only [okT] at h; cases h
  | .mt _ _ _, h => by simp only [okT] at h; cases h
  | .lc _ _ _ _ _, h => by simp only [okT] at h; cases h
  | .dnew _, h => by simp only [okT] at h; cases h
  | .disp _ _ _, h => by simp only [okT] at h; cases h
theorem sndI (hc : CallOk K cl sp) : ∀ es : List IE, okI es = true → EvOkT K B (rdI K sp es) (evI cl es)
  | [], _ => by
    intro σ I H ρ c Q s e q
    simp only [evI] at e
    cases e
    simp only [rdI]
    exact q I H (Ext.refl s.su)
  | [e0], h => by
    simp only [okI] at h
    intro σ I H ρ c Q s e q
    simp only [rdI]
    refine sndT hc e0 h σ I H ρ c Q s ?_ q
    simp only [evI] at e
    show onT (evE cl e0 ρ) = some c
    split at e
    · cases e
    · rename_i e1
      cases e
      exact e1
    · rename_i e1
      cases e
      exact e1
  | _ :: _ :: _, h => by simp only [okI] at h; cases h
theorem sndO (hc : CallOk K cl sp) : ∀ o : Option IE, okO o = true → EvOkO K B (rdO K sp o) (evO cl o)
  | none, _ => by
    intro σ I H ρ c Q s e q
    simp only [evO] at e
    cases e
    simp only [rdO]
    exact q I H (Ext.refl s.su)
  | some e0, h => by
    simp only [okO] at h
    intro σ I H ρ c Q s e q
    simp only [rdO]
    simp only [evO] at e
    split at e
    · rename_i k i e1
      cases e
      exact (snd hc e0 h).see s e1 fun v I' H' x g => ⟨i, g.int, q I' H' x⟩
    · cases e
theorem sndF (hc : CallOk K cl sp) : ∀ es : List IE, okL es = true → EvOkF K B (rdA K sp es) (evF cl es)
  | [], _ => by
    intro σ I H ρ ds Q s e q
    simp only [evF] at e
    cases e
    simp only [rdA]
    exact q [] I H (Ext.refl s.su) Reps.nil
  | e0 :: es, h => by
    simp only [okL, Bool.and_eq_true] at h
    intro σ I H ρ ds Q s e q
    simp only [rdA]
    rw [evF] at e
    split at e
    · cases e
    · rename_i r e1
      split at e
      · cases e
      · rename_i d e2
        split at e
        · cases e
        · rename_i ds' e3
          cases e
          refine (snd hc e0 h.1).fz s e1 e2 fun v I1 H1 x1 g => ?_
          exact sndF hc es h.2 _ _ _ _ _ _ (s.ext x1) e3 fun vs I2 H2 x2 gs => q (v :: vs) I2 H2 (x1.trans x2) (Reps.cons (g.mono x2.ii _ _) gs)
theorem sndB (hc : CallOk K cl sp) : ∀ es : List IE, okL es = true → EvOkB K B (rdA K sp es) (evB cl es)
  | [], _ => by
    intro σ I H ρ ds Q s e q
    simp only [evB] at e
    cases e
    simp only [rdA]
    exact q [] I H (Ext.refl s.su) rfl
  | e0 :: es, h => by
    simp only [okL, Bool.and_eq_true] at h
    intro σ I H ρ ds Q s e q
    simp only [rdA]
    rw [evB] at e
    split at e
    · cases e
    · rename_i k d e1
      split at e
      · cases e
      · rename_i ds' e3
        cases e
        refine (snd hc e0 h.1).see s e1 fun v I1 H1 x1 g => ?_
        exact sndB hc es h.2 _ _ _ _ _ _ (s.ext x1) e3 fun vs I2 H2 x2 gs => q (v :: vs) I2 H2 (x1.trans x2) ⟨v, vs, rfl, g.ext x2, gs⟩
theorem sndL (hc : CallOk K cl sp) : ∀ es : List IE, okL es = true → ∀ e ∈ es, EvOk K B (rdE K sp e) (evE cl e)
  | [], _, e, m => by cases m
  | e' :: es, h, e, m => by
    simp only [okL, Bool.and_eq_true] at h
    rcases List.mem_cons.mp m with q | q
    · rw [q]
      exact snd hc e' h.1
    · exact sndL hc es h.2 e q
end
end
end R

set_option linter.all false
set_option maxHeartbeats 8000000
/-! Statements. -/
namespace R
open PySem L2
structure Stp (B : Addr → Prop) (I H I' H' : Hp) : Prop where
  ii : ∀ b o, I b = some o → I' b = some o
  fz : ∀ b o, I b = some o → H' b = H b
  bh : ∀ b, B b → H' b = H b
  bi : ∀ b o, B b → H b = some o → isTup o = false → I' b = I b
section
variable {K : PySem.W.Frag} {B : Addr → Prop} {I H I' H' I1 H1 I2 H2 : Hp} {σ σ' : List (Option V)} {ρ ρ' : Env}
theorem Stp.refl : Stp B I H I H := ⟨fun _ _ h => h, fun _ _ _ => rfl, fun _ _ => rfl, fun _ _ _ _ _ => rfl⟩
theorem Stp.trans (a : Stp B I H I1 H1) (b : Stp B I1 H1 I2 H2) : Stp B I H I2 H2 :=
  ⟨fun c o h => b.ii c o (a.ii c o h), fun c o h => (b.fz c o (a.ii c o h)).trans (a.fz c o h), fun c h => (b.bh c h).trans (a.bh c h),
    fun c o h1 h2 h3 => (b.bi c o h1 ((a.bh c h1).trans h2) h3).trans (a.bi c o h1 h2 h3)⟩
theorem Ext.stp (x : Ext I H I' H') (su : Sub I H) (ba : ∀ b, B b → ∃ o, H b = some o) : Stp B I H I' H' := by
  refine ⟨x.ii, fun b o h => ?_, fun b h => ?_, fun b o h1 h2 h3 => x.fr b o h2 h3⟩
  · obtain ⟨u, hu⟩ := su.there h
    rw [hu]
    exact x.hh b u hu
  · obtain ⟨u, hu⟩ := ba b h
    rw [hu]
    exact x.hh b u hu
theorem Sta.stp (s : Sta K B I H σ ρ) (x : Ext I H I' H') : Stp B I H I' H' := x.stp s.su s.ba
def RV (K : PySem.W.Frag) (B : Addr → Prop) (I H : Hp) : Kd → D → V → Prop
  | .fz, d, v => Rep K I d v
  | _, d, v => Own K I H d v ∧ ∃ p, v = .ref p ∧ ¬ B p
def Sat (K : PySem.W.Frag) (B : Addr → Prop) (D : Ends) (I H : Hp) : Out → Prop
  | .nx ρ' => ∀ (σ' : List (Option V)) (I' H' : Hp), Stp B I H I' H' → Sta K B I' H' σ' ρ' → D.nx σ' H'
  | .bk ρ' => ∀ (σ' : List (Option V)) (I' H' : Hp), Stp B I H I' H' → Sta K B I' H' σ' ρ' → D.bk σ' H'
  | .ct ρ' => ∀ (σ' : List (Option V)) (I' H' : Hp), Stp B I H I' H' → Sta K B I' H' σ' ρ' → D.ct σ' H'
  | .rt k d => ∀ (v : V) (I' H' : Hp), Stp B I H I' H' → Sub I' H' → RV K B I' H' k d v → D.rt v H'
theorem Sat.step {D : Ends} {o : Out} (h : Sat K B D I H o) (x : Stp B I H I' H') : Sat K B D I' H' o := by
  cases o with
  | nx ρ' => exact fun σ' I2 H2 y s => h σ' I2 H2 (x.trans y) s
  | bk ρ' => exact fun σ' I2 H2 y s => h σ' I2 H2 (x.trans y) s
  | ct ρ' => exact fun σ' I2 H2 y s => h σ' I2 H2 (x.trans y) s
  | rt k d => exact fun v I2 H2 y s r => h v I2 H2 (x.trans y) s r
def EvOkS (K : PySem.W.Frag) (B : Addr → Prop) (t : TS) (f : Env → Option Out) : Prop :=
  ∀ (σ : List (Option V)) (I H : Hp) (ρ : Env) (out : Out) (D : Ends), Sta K B I H σ ρ → f ρ = some out → Sat K B D I H out → t D σ H
/-- an owned thing is changed -/
theorem Sta.mut {i : Nat} {d d' : D} {p : Addr} {o' : HO} (s : Sta K B I H σ ρ) (hi : ρ[i]? = some (some (.ow, d))) (hp : σ[i]? = some (some (.ref p))) (h0 : I p = none) (nb : ¬ B p) (c : OwnC K I (upd H p o') p d') :
    Sta K B I (upd H p o') σ (ρ.set i (some (.ow, d'))) ∧ Stp B I H I (upd H p o') := by
  have hl : i < ρ.length := (List.getElem?_eq_some_iff.mp hi).1
  have nf : ∀ b o, I b = some o → b ≠ p := fun b o h z => by rw [z, h0] at h; cases h
  have nB : ∀ b, B b → b ≠ p := fun b h z => nb (z ▸ h)
  refine ⟨⟨fun b u h => ?_, fun b h => ?_, by rw [List.length_set]; exact s.sl.len, fun j e h => ?_, fun j e h => ?_, fun j e h => ?_, fun j k e e' q nq h1 h2 h3 h4 => ?_⟩,
    fun _ _ h => h, fun b o h => upd_ne (nf b o h), fun b h => upd_ne (nB b h), fun _ _ _ _ _ => rfl⟩
  · rw [upd_ne (nf b u h)]
    exact s.su b u h
  · rw [upd_ne (nB b h)]
    exact s.ba b h
  · by_cases q : i = j
    · subst q
      rw [List.getElem?_set_self hl] at h
      cases h
    · rw [List.getElem?_set_ne q] at h
      exact s.sl.fz j e h
  · by_cases q : i = j
    · subst q
      rw [List.getElem?_set_self hl] at h
      cases h
      exact ⟨p, hp, h0, c, nb⟩
    · rw [List.getElem?_set_ne q] at h
      obtain ⟨w, q1, q2, q3, q4⟩ := s.sl.ow j e h
      have nw : w ≠ p := fun z => s.sl.ne i j d e p q hi h hp (by rw [← z]; exact q1)
      exact ⟨w, q1, q2, q3.ext (fun _ _ h => h) fun o ho => by rw [upd_ne nw]; exact ho, q4⟩
  · by_cases q : i = j
    · subst q
      rw [List.getElem?_set_self hl] at h
      cases h
    · rw [List.getElem?_set_ne q] at h
      exact s.sl.bo j e h
  · have old : ∀ (j : Nat) (e : D), (ρ.set i (some (Kd.ow, d')))[j]? = some (some (.ow, e)) → ∃ e', ρ[j]? = some (some (.ow, e')) := fun j e h => by
      by_cases q : i = j
      · subst q
        exact ⟨d, hi⟩
      · rw [List.getElem?_set_ne q] at h
        exact ⟨e, h⟩
    obtain ⟨e1, h1⟩ := old j e h1
    obtain ⟨e2, h2⟩ := old k e' h2
    exact s.sl.ne j k e1 e2 q nq h1 h2 h3 h4
/-- an owned thing is frozen -/
theorem Sta.frz {i : Nat} {d : D} (s : Sta K B I H σ ρ) (hi : ρ[i]? = some (some (.ow, d))) : ∃ I', Stp B I H I' H ∧ Sta K B I' H σ (ρ.set i (some (.fz, d))) := by
  have hl : i < ρ.length := (List.getElem?_eq_some_iff.mp hi).1
  obtain ⟨p, h1, h2, h3, h4⟩ := s.sl.ow i d hi
  obtain ⟨o, ho, nt⟩ := h3.there
  have ii : ∀ b u, I b = some u → upd I p o b = some u := fun b u q => by rw [upd_ne (ne_of_none q h2)]; exact q
  refine ⟨upd I p o, ⟨ii, fun _ _ _ => rfl, fun _ _ => rfl, fun b u h _ _ => upd_ne fun z => h4 (z ▸ h)⟩, fun b u h => ?_, s.ba, by rw [List.length_set]; exact s.sl.len, fun j e h => ?_, fun j e h => ?_, fun j e h => ?_, fun j k e e' q nq g1 g2 g3 g4 => ?_⟩
  · by_cases e : b = p
    · rw [e, upd_same] at h
      cases h
      rw [e]
      exact .inl ho
    · rw [upd_ne e] at h
      exact s.su b u h
  · by_cases q : i = j
    · subst q
      rw [List.getElem?_set_self hl] at h
      cases h
      exact ⟨.ref p, h1, h3.rep ho h2⟩
    · rw [List.getElem?_set_ne q] at h
      obtain ⟨v, q1, q2⟩ := s.sl.fz j e h
      exact ⟨v, q1, q2.mono ii _ _⟩
  · by_cases q : i = j
    · subst q
      rw [List.getElem?_set_self hl] at h
      cases h
    · rw [List.getElem?_set_ne q] at h
      obtain ⟨w, q1, q2, q3, q4⟩ := s.sl.ow j e h
      have nw : w ≠ p := fun z => s.sl.ne i j d e p q hi h h1 (by rw [← z]; exact q1)
      exact ⟨w, q1, by rw [upd_ne nw]; exact q2, q3.ext ii fun o ho => ho, q4⟩
  · by_cases q : i = j
    · subst q
      rw [List.getElem?_set_self hl] at h
      cases h
    · rw [List.getElem?_set_ne q] at h
      exact s.sl.bo j e h
  · have n1 : i ≠ j := fun z => by
      subst z
      rw [List.getElem?_set_self hl] at g1
      cases g1
    have n2 : i ≠ k := fun z => by
      subst z
      rw [List.getElem?_set_self hl] at g2
      cases g2
    rw [List.getElem?_set_ne n1] at g1
    rw [List.getElem?_set_ne n2] at g2
    exact s.sl.ne j k e e' q nq g1 g2 g3 g4
theorem ownAt_some {i : Nat} {d : D} (h : ownAt ρ i = some d) : ρ[i]? = some (some (.ow, d)) := by
  unfold ownAt at h
  split at h
  · rename_i e
    cases h
    exact e
  · cases h
/-- storing what an expression gave -/
theorem setR_ok {g : Tg} {k : Kd} {d : D} {v : V} {Q : List (Option V) → Hp → Prop} (s0 : Sta K B I H σ ρ) (h : setR g (k, d) ρ = some ρ') (x : Ext I H I' H') (r : RK K B H I' H' k d v)
    (q : ∀ σ', Sta K B I' H' σ' ρ' → Q σ' H') : rdG K g v σ H' Q := by
  have s := s0.ext x
  cases k with
  | fz =>
    refine tg_ok (ρ := ρ) (ρ' := ρ') (d := d) ?_ s r fun σ' s' _ => q σ' s'
    cases g with
    | nm i => exact h
    | tp is => cases d <;> first | exact h | (simp only [setR] at h; cases h)
  | ow =>
    obtain ⟨⟨p, rfl, hp, c⟩, p', e, h0⟩ := r
    cases e
    cases g with
    | nm i =>
      simp only [setR] at h
      split at h
      · rename_i hi
        cases h
        refine q _ (s.setO hi hp c (fun hb => ?_) fun j e hj hr => ?_)
        · obtain ⟨o, ho⟩ := s0.ba p hb
          rw [h0] at ho
          cases ho
        · obtain ⟨w, q1, q2, q3, q4⟩ := s0.sl.ow j e hr
          obtain ⟨o, ho, _⟩ := q3.there
          intro z
          rw [q1] at z
          cases z
          rw [h0] at ho
          cases ho
      · cases h
    | tp is =>
      cases d <;> first | (simp only [setR] at h; cases h; done) | exact False.elim c
  | bo => cases g <;> (simp only [setR] at h; cases h)
end
end R

set_option linter.all false
set_option maxHeartbeats 8000000
/-! All statements. -/
namespace R
open PySem L2
section
variable {K : PySem.W.Frag} {B : Addr → Prop} {cl : Nat → List D → Option (Kd × D)} {sp : Nat → Sp}
/-- o[k] = v -/
theorem setix_ok {i : Nat} {k v : IE} (hk : EvOk K B (rdE K sp k) (evE cl k)) (hv : EvOk K B (rdE K sp v) (evE cl v)) :
    EvOkS K B (fun D σ H => tAsg (rdE K sp v) (gSub (tVar i) (rdE K sp k) rSetL) D σ H ∨ sDPut (tVar i) (rdE K sp k) (rdE K sp v) D σ H) (evS cl (.setix i k v)) := by
  intro σ I H ρ out D s h q
  rw [evS] at h
  split at h
  · cases h
  · rename_i r e1
    split at h
    · cases h
    · rename_i d e2
      split at h
      · cases h
      · rename_i o e3
        split at h
        · cases h
        · rename_i kk y e4
          split at h
          · cases h
          · rename_i o' e5
            cases h
            have hi := ownAt_some e3
            obtain ⟨p, hp, hI, hc, nb⟩ := s.sl.ow i o hi
            -- value, container, key
            have go : ∀ {R : V → V → Hp → Prop}, (∀ w z I' H', Ext I H I' H' → Rep K I' d w → See K I' H' y z → R w z H') → rdE K sp v σ H fun w H1 => ∃ x, σ[i]? = some (some x) ∧ (rdE K sp k σ H1 fun z H2 => x = .ref p ∧ R w z H2) := fun {R} hR =>
              hv.fz s e1 e2 fun w I1 H1 x1 g1 => ⟨_, hp, hk.see (s.ext x1) e4 fun z I2 H2 x2 g2 => ⟨rfl, hR w z I2 H2 (x1.trans x2) (g1.mono x2.ii _ _) g2⟩⟩
            have mutd : ∀ {I' H' : Hp} {o2 : HO}, Ext I H I' H' → OwnC K I' (upd H' p o2) p o' → D.nx σ (upd H' p o2) := fun {I' H' o2} x c => by
              obtain ⟨o0, ho, nt⟩ := hc.there
              obtain ⟨s', st⟩ := (s.ext x).mut (d' := o') hi hp ((x.fr p o0 ho nt).trans hI) nb c
              exact q σ I' _ ((s.stp x).trans st) s'
            have ownN : ∀ {I' H' : Hp}, Ext I H I' H' → I' p = none := fun {I' H'} x => by
              obtain ⟨o0, ho, nt⟩ := hc.there
              exact (x.fr p o0 ho nt).trans hI
            cases o with
            | lst ds =>
              cases y with
              | int kz =>
                simp only [setD] at e5
                obtain ⟨j, ej, rfl⟩ := Option.map_eq_some_iff.mp e5
                refine .inl ?_
                obtain ⟨r1, r2⟩ := r
                refine hv.fz s e1 e2 fun w I1 H1 x1 g1 => ⟨_, hp, hk.see (s.ext x1) e4 fun z I2 H2 x2 g2 => ?_⟩
                have x := x1.trans x2
                obtain ⟨xs, hx, rx, zx⟩ := hc.ext x.ii (fun o h => x.hh p o h)
                refine ⟨p, xs, kz, j, rfl, g2.int, hx, by rw [rx.len]; exact ej, mutd x ⟨_, upd_same, rx.set j (g1.mono x2.ii _ _), by rw [List.length_set]; exact zx⟩⟩
              | _ => simp [setD] at e5
            | dk ks ws =>
              simp only [setD] at e5
              split at e5
              · rename_i hz
                obtain ⟨kq, ek, rfl⟩ := Option.map_eq_some_iff.mp e5
                refine .inr ?_
                refine hv.fz s e1 e2 fun w I1 H1 x1 g1 => ⟨_, hp, hk.see (s.ext x1) e4 fun z I2 H2 x2 g2 => ?_⟩
                have x := x1.trans x2
                obtain ⟨xs, hx, rx, lx, zx, kx⟩ := hc.ext x.ii (fun o h => x.hh p o h)
                refine ⟨p, _, rfl, .inl ⟨_, kq, hx, keyOf_v ek g2, by rw [List.length_zip]; exact lt_line (by omega), rfl⟩, mutd x ?_⟩
                obtain ⟨ys, h1, h2, h3⟩ := put_ok kq rx lx (g1.mono x2.ii _ _)
                refine ⟨ys, by rw [upd_same, h1], h2, h3, ?_, ?_⟩
                · unfold putk
                  split
                  · exact zx
                  · rw [List.length_append, List.length_singleton]; omega
                · unfold putk
                  split
                  · exact kx
                  · rw [List.all_append, kx, Bool.true_and]
                    simp only [List.all_cons, List.all_nil, Bool.and_true]
                    exact key_ok ek g2
              · cases e5
            | dt ks ws =>
              cases y with
              | tup ds =>
                simp only [setD] at e5
                split at e5
                · rename_i hz
                  obtain ⟨kq, ek, rfl⟩ := Option.map_eq_some_iff.mp e5
                  refine .inr ?_
                  refine hv.fz s e1 e2 fun w I1 H1 x1 g1 => ⟨_, hp, hk.see (s.ext x1) e4 fun z I2 H2 x2 g2 => ?_⟩
                  have x := x1.trans x2
                  obtain ⟨xs, hx, rx, lx, zx, kx⟩ := hc.ext x.ii (fun o h => x.hh p o h)
                  obtain ⟨b, zs, rfl, hb, ib, rb, zb⟩ := g2.tup x2.su
                  refine ⟨p, _, rfl, .inr ⟨_, kq, b, hx, rfl, by rw [hb, keysOf_v ek rb], by rw [List.length_zip]; exact lt_line (by omega), rfl⟩, mutd x ?_⟩
                  obtain ⟨ys, h1, h2, h3⟩ := put_ok kq rx lx (g1.mono x2.ii _ _)
                  refine ⟨ys, by rw [upd_same, h1], h2, h3, ?_, ?_⟩
                  · unfold putk
                    split
                    · exact zx
                    · rw [List.length_append, List.length_singleton]; omega
                  · unfold putk
                    split
                    · exact kx
                    · rw [List.all_append, kx, Bool.true_and]
                      simp only [List.all_cons, List.all_nil, Bool.and_true]
                      exact keys_ok ek rb zb
                · cases e5
              | _ => simp [setD] at e5
            | _ => exact False.elim hc
where
  put_ok {K : PySem.W.Frag} {κ : Type} [DecidableEq κ] {I : Hp} {ks : List κ} {ws : List D} {xs : List V} {d : D} {w : V} (q : κ) (r : Reps K I ws xs) (hl : ks.length = xs.length) (g : Rep K I d w) :
      ∃ ys, putK (ks.zip xs) q w = (putk ks q).zip ys ∧ Reps K I (put ks ws q d) ys ∧ (putk ks q).length = ys.length := by
    have hany : ∀ (ks : List κ) (xs : List V), ks.length = xs.length → ((ks.zip xs).any fun kv => decide (kv.1 = q)) = has ks q := fun ks => by
      induction ks with
      | nil => intro xs _; rfl
      | cons k ks ih =>
        intro xs hl
        cases xs with
        | nil => simp at hl
        | cons x xs =>
          show (decide (k = q) || (ks.zip xs).any _) = (decide (k = q) || has ks q)
          rw [ih xs (by simpa using hl)]
    unfold putK putk put
    rw [hany ks xs hl]
    cases hh : has ks q with
    | false =>
      rw [if_neg Bool.false_ne_true, if_neg Bool.false_ne_true, if_neg Bool.false_ne_true]
      refine ⟨xs ++ [w], ?_, r.app (Reps.cons g Reps.nil), by rw [List.length_append, List.length_append, hl]; rfl⟩
      rw [List.zip_append hl]
      rfl
    | true =>
      rw [if_pos rfl, if_pos rfl, if_pos rfl]
      have key : ∀ (ks : List κ) (ws : List D) (xs : List V), ks.length = xs.length → Reps K I ws xs → ∃ ys : List V, (ks.zip xs).map (fun kv => if kv.1 = q then (kv.1, w) else kv) = ks.zip ys ∧ Reps K I ((ks.zip ws).map fun p => if p.1 = q then d else p.2) ys ∧ ks.length = ys.length := fun ks => by
        induction ks with
        | nil =>
          intro ws xs hl r
          cases xs with
          | nil => exact ⟨[], rfl, Reps.nil, rfl⟩
          | cons _ _ => simp at hl
        | cons k ks ih =>
          intro ws xs hl r
          cases xs with
          | nil => simp at hl
          | cons x xs =>
            cases ws with
            | nil => simp only [Reps] at r; cases r
            | cons w0 ws =>
              simp only [Reps] at r
              obtain ⟨x', r', e, h1, h2⟩ := r
              cases e
              obtain ⟨ys, e1, e2, e3⟩ := ih ws xs (by simpa using hl) h2
              by_cases c : k = q
              · refine ⟨w :: ys, ?_, ?_, by rw [List.length_cons, List.length_cons, e3]⟩
                · rw [List.zip_cons_cons, List.map_cons, e1, List.zip_cons_cons]
                  simp only [c, if_true]
                · rw [List.zip_cons_cons, List.map_cons]
                  simp only [c, if_true]
                  exact Reps.cons g e2
              · refine ⟨x :: ys, ?_, ?_, by rw [List.length_cons, List.length_cons, e3]⟩
                · rw [List.zip_cons_cons, List.map_cons, e1, List.zip_cons_cons]
                  simp only [if_neg c]
                · rw [List.zip_cons_cons, List.map_cons]
                  simp only [if_neg c]
                  exact Reps.cons h1 e2
      exact key ks ws xs hl r
  key_ok {K : PySem.W.Frag} {I H : Hp} {y : D} {k : Key} {z : V} (h : keyOf y = some k) (g : See K I H y z) : okK k = true := by
    cases y <;> simp only [keyOf] at h <;> first | (cases h; done) | skip
    · cases h; rfl
    · cases h
      obtain ⟨_, h1, h2⟩ := g.str
      simp only [okK, okS, Bool.and_eq_true, decide_eq_true_eq]
      exact ⟨h1, h2⟩
  keys_ok {K : PySem.W.Frag} {I : Hp} : ∀ {ds : List D} {k : List Key} {xs : List V}, keysOf ds = some k → Reps K I ds xs → ds.length ≤ LINE → okKs k = true := fun {ds k xs} h r z => by
    have key : ∀ (ds : List D) (k : List Key) (xs : List V), keysOf ds = some k → Reps K I ds xs → k.all okK = true ∧ k.length = ds.length := fun ds => by
      induction ds with
      | nil =>
        intro k xs h _
        simp only [keysOf] at h
        cases h
        exact ⟨rfl, rfl⟩
      | cons d ds ih =>
        intro k xs h r
        simp only [Reps] at r
        obtain ⟨x, r', rfl, h1, h2⟩ := r
        simp only [keysOf] at h
        cases e1 : keyOf d with
        | none => rw [e1] at h; cases h
        | some k1 =>
          cases e2 : keysOf ds with
          | none => rw [e1, e2] at h; cases h
          | some k2 =>
            rw [e1, e2] at h
            cases h
            obtain ⟨q1, q2⟩ := ih k2 r' e2 h2
            refine ⟨?_, by rw [List.length_cons, List.length_cons, q2]⟩
            rw [List.all_cons, q1, key_ok (I := I) (H := I) e1 (.inl h1)]
            rfl
    obtain ⟨q1, q2⟩ := key ds k xs h r
    simp only [okKs, Bool.and_eq_true, decide_eq_true_eq]
    exact ⟨by rw [q2]; exact z, q1⟩
end
end R

set_option linter.all false
set_option maxHeartbeats 8000000
/-! All statements. -/
namespace R
open PySem L2
section
variable {K : PySem.W.Frag} {B : Addr → Prop} {cl : Nat → List D → Option (Kd × D)} {sp : Nat → Sp}
theorem ms_ok {m : MS} {i : Nat} {es : List IE} (ar : msAr m es.length = true) (hF : EvOkF K B (rdA K sp es) (evF cl es)) : EvOkS K B (rdMs K m i (rdA K sp es)) (evS cl (.ms m i es)) := by
  intro σ I H ρ out D s h q
  rw [evS] at h
  split at h
  · cases h
  · rename_i o e3
    split at h
    · cases h
    · rename_i ds e1
      split at h
      · cases h
      · rename_i o' e2
        cases h
        have hi := ownAt_some e3
        obtain ⟨p, hp, hI, hc, nb⟩ := s.sl.ow i o hi
        have mutd : ∀ {I' H' : Hp} {o2 : HO}, Ext I H I' H' → OwnC K I' (upd H' p o2) p o' → D.nx σ (upd H' p o2) := fun {I' H' o2} x c => by
          obtain ⟨o0, ho, nt⟩ := hc.there
          obtain ⟨s', st⟩ := (s.ext x).mut (d' := o') hi hp ((x.fr p o0 ho nt).trans hI) nb c
          exact q σ I' _ ((s.stp x).trans st) s'
        cases m with
        | append =>
          cases o with
          | lst xs0 =>
            rcases ds with _ | ⟨d, _ | ⟨d', r⟩⟩ <;> first | (simp [msD] at e2; done) | skip
            simp only [msD] at e2
            split at e2
            · rename_i hz
              cases e2
              obtain ⟨xs, hx, rx, zx⟩ := id hc
              refine ⟨_, hp, .inl ⟨rfl, xs, .inl (.inl hx)⟩, hF σ I H ρ _ _ s e1 fun vs I' H' x g => ?_⟩
              simp only [Reps] at g
              obtain ⟨w, r, rfl, g1, rfl⟩ := g
              obtain ⟨xs', hx', rx', zx'⟩ := hc.ext x.ii (fun o h => x.hh p o h)
              refine ⟨p, xs', w, rfl, rfl, hx', by rw [rx'.len]; exact lt_line hz, mutd x ⟨_, upd_same, rx'.app (Reps.cons g1 Reps.nil), by rw [List.length_append, List.length_singleton]; omega⟩⟩
            · cases e2
          | _ => simp [msD] at e2
        | reverse =>
          cases o with
          | lst xs0 =>
            rcases ds with _ | ⟨d, r⟩ <;> first | (simp [msD] at e2; done) | skip
            simp only [msD] at e2
            cases e2
            obtain ⟨xs, hx, rx, zx⟩ := id hc
            exact ⟨_, hp, .inl ⟨rfl, xs, .inl (.inl hx)⟩, p, xs, rfl, rfl, hx, mutd (Ext.refl s.su) ⟨_, upd_same, rx.rev, by rw [List.length_reverse]; exact zx⟩⟩
          | _ => simp [msD] at e2
        | _ => simp only [msAr] at ar; cases ar
/-- a loop over what is walked -/
theorem for_at {wi : TI} {g : Tg} {tb : TS} {fb : Env → Option Out} {σ : List (Option V)} {I H : Hp} {ρ : Env} {xs : List D} {out : Out} {D : Ends}
    (hS : ∀ R : It → Hp → Prop, (∀ J I' H', Ext I H I' H' → SrcOk K J I' H' xs True → xs.length ≤ LINE → R J H') → wi σ H R) (hb : EvOkS K B tb fb)
    (s : Sta K B I H σ ρ) (e : forRun (fun x ρ1 => match setTg g x ρ1 with | none => none | some ρ2 => fb ρ2) xs ρ = some out) (q : Sat K B D I H out) : tFor wi (rdG K g) tb D σ H := by
  refine hS _ fun J I1 H1 x1 src hz => ?_
  obtain ⟨P, p0, _, pf, turn⟩ := src
  have pf := pf trivial
  have st1 := s.stp x1
  refine ⟨fun i m σ' H' => m = xs.length - i ∧ i ≤ xs.length ∧ ∃ (I' : Hp) (ρ' : Env), Stp B I1 H1 I' H' ∧ Sta K B I' H' σ' ρ' ∧ forRun (fun x ρ1 => match setTg g x ρ1 with | none => none | some ρ2 => fb ρ2) (xs.drop i) ρ' = some out,
    ⟨xs.length, by omega, Nat.zero_le _, I1, ρ, Stp.refl, s.ext x1, e⟩, ?_⟩
  rintro i m σ' H' ⟨rfl, hi, I', ρ', st, s', er⟩
  have pH' : P H' := pf H' fun b o h => st.fz b o h
  have t := turn I' H' i st.ii s'.su pH'
  by_cases hlt : i < xs.length
  · obtain ⟨go, yl⟩ := t.1 xs[i] (List.getElem?_eq_getElem hlt)
    refine .inr ⟨go, fun σ2 H2 => ∃ (I2 : Hp) (ρ2 : Env), Stp B I1 H1 I2 H2 ∧ Sta K B I2 H2 σ2 ρ2 ∧ forRun (fun x ρ1 => match setTg g x ρ1 with | none => none | some ρ2 => fb ρ2) (xs.drop (i + 1)) ρ2 = some out,
      fun σ2 H2 n => ⟨xs.length - (i + 1), by omega, rfl, hlt, n⟩, fun x H2 hy => ?_⟩
    obtain ⟨I2, x2, rx⟩ := yl x H2 hy
    rw [List.drop_eq_getElem_cons hlt] at er
    simp only [forRun] at er
    have s2 := s'.ext x2
    have st2 := st.trans (s'.stp x2)
    cases et : setTg g xs[i] ρ' with
    | none => rw [et] at er; cases er
    | some ρ2 =>
      simp only [et] at er
      refine tg_ok et s2 rx fun σ3 s3 _ => ?_
      cases eb : fb ρ2 with
      | none => simp only [eb] at er; cases er
      | some o1 =>
        simp only [eb] at er
        refine hb σ3 I2 H2 ρ2 o1 _ s3 eb ?_
        cases o1 with
        | nx ρ4 => exact fun σ4 I4 H4 y4 s4 => ⟨I4, ρ4, st2.trans y4, s4, er⟩
        | ct ρ4 => exact fun σ4 I4 H4 y4 s4 => ⟨I4, ρ4, st2.trans y4, s4, er⟩
        | bk ρ4 =>
          cases er
          exact fun σ4 I4 H4 y4 s4 => q σ4 I4 H4 (st1.trans (st2.trans y4)) s4
        | rt k d =>
          cases er
          exact fun v I4 H4 y4 s4 r => q v I4 H4 (st1.trans (st2.trans y4)) s4 r
  · have hi' : i = xs.length := by omega
    subst hi'
    rw [List.drop_length] at er
    simp only [forRun] at er
    cases er
    exact .inl ⟨t.2 (Nat.le_refl _), q σ' I' H' (st1.trans st) s'⟩
/-- over a dict -/
theorem forKeys {g : Tg} {e : IE} {tb : TS} {fb : Env → Option Out} (hp : keysPath [e] = true) (hb : EvOkS K B tb fb) {σ : List (Option V)} {I H : Hp} {ρ : Env} {d : D} {xs : List D} {out : Out} {D : Ends}
    (s : Sta K B I H σ ρ) (e0 : evE cl e ρ = some (.fz, d)) (e1 : srcD .keys [d] = some xs) (e2 : forRun (fun x ρ1 => match setTg g x ρ1 with | none => none | some ρ2 => fb ρ2) xs ρ = some out) (q : Sat K B D I H out) :
    tLock (tFor (iKeys (rdE K sp e)) (rdG K g) tb) D σ H ∨ tFor (iKeys (rdE K sp e)) (rdG K g) tb D σ H := by
  have hd := isDct_of (k := .fz) e1
  obtain ⟨a, u, ia, du, ra, pe⟩ := path_ok (sp := sp) hp s e0 hd
  have go : ∀ (H1 : Hp) (od : Obj) (D1 : Ends), (∀ b o, b ≠ a → H b = some o → H1 b = some o) → H1 a = some (.frz od u) → Sta K B I H1 σ ρ → Sat K B D1 I H1 out → tFor (iKeys (rdE K sp e)) (rdG K g) tb D1 σ H1 := fun H1 od D1 hk h1 s1 q1 => by
    refine for_at (fun R' r' => ?_) hb s1 e2 q1
    refine pe H1 _ hk ?_
    cases d with
    | dk ks ws =>
      simp only [srcD] at e1
      cases e1
      have ra' := ra
      simp only [Rep] at ra'
      obtain ⟨a', zs, e3, i3, r3, l3, z3, k3⟩ := ra'
      cases e3
      rw [ia] at i3
      cases i3
      exact ⟨a, od, rfl, .inl ⟨_, h1, r' _ I H1 (Ext.refl s1.su) (src_keysK l3 ia k3 h1) (by rw [List.length_map]; exact z3)⟩⟩
    | dt ks ws =>
      simp only [srcD] at e1
      cases e1
      have ra' := ra
      simp only [Rep] at ra'
      obtain ⟨a', zs, e3, i3, r3, l3, z3, k3⟩ := ra'
      cases e3
      rw [ia] at i3
      cases i3
      exact ⟨a, od, rfl, .inr ⟨_, h1, r' _ I H1 (Ext.refl s1.su) (src_keysT l3 ia k3 h1) (by rw [List.length_map]; exact z3)⟩⟩
    | _ => cases hd
  rcases s.su a u ia with h1 | ⟨_, od, h1⟩
  · refine .inl ⟨a, u, h1, (by cases u <;> first | trivial | (cases du)), fun od => ?_⟩
    have ne : ∀ b, b ≠ a → upd H a (.frz od u) b = H b := fun b hb => upd_ne hb
    have s1 : Sta K B I (upd H a (.frz od u)) σ ρ := by
      refine ⟨fun b o hb => ?_, fun b hb => ?_, s.sl.len, s.sl.fz, fun i d' hi => ?_, s.sl.bo, s.sl.ne⟩
      · by_cases e5 : b = a
        · rw [e5, ia] at hb
          cases hb
          rw [e5]
          exact .inr ⟨du, od, upd_same⟩
        · rw [ne b e5]
          exact s.su b o hb
      · by_cases e5 : b = a
        · rw [e5]
          exact ⟨_, upd_same⟩
        · rw [ne b e5]
          exact s.ba b hb
      · obtain ⟨p, h2, h3, h4, h5⟩ := s.sl.ow i d' hi
        have : p ≠ a := fun z => by rw [z, ia] at h3; cases h3
        exact ⟨p, h2, h3, h4.ext (fun _ _ h => h) fun o h => by rw [ne p this]; exact h, h5⟩
    -- back from the locked heap
    have fzd : ∀ {I' H' : Hp}, Stp B I (upd H a (.frz od u)) I' H' → H' a = some (.frz od u) := fun {I' H'} x => (x.fz a u ia).trans upd_same
    have unS : ∀ {I' H' : Hp}, Stp B I (upd H a (.frz od u)) I' H' → Stp B I H I' (upd H' a u) := fun {I' H'} x => by
      refine ⟨x.ii, fun b o hb => ?_, fun b hb => ?_, fun b o hb ho n => ?_⟩
      · by_cases e5 : b = a
        · rw [e5, upd_same, h1]
        · rw [upd_ne e5, x.fz b o hb, ne b e5]
      · by_cases e5 : b = a
        · rw [e5, upd_same, h1]
        · rw [upd_ne e5, x.bh b hb, ne b e5]
      · by_cases e5 : b = a
        · rw [e5, ia]
          exact x.ii a u ia
        · exact x.bi b o hb (by rw [ne b e5]; exact ho) n
    have unU : ∀ {I' H' : Hp}, Stp B I (upd H a (.frz od u)) I' H' → Sub I' H' → Sub I' (upd H' a u) := fun {I' H'} x su b o hb => by
      by_cases e5 : b = a
      · rw [e5, x.ii a u ia] at hb
        cases hb
        rw [e5]
        exact .inl upd_same
      · rw [upd_ne e5]
        exact su b o hb
    have unT : ∀ {I' H' : Hp} {σ' : List (Option V)} {ρ' : Env}, Stp B I (upd H a (.frz od u)) I' H' → Sta K B I' H' σ' ρ' → Sta K B I' (upd H' a u) σ' ρ' := fun {I' H' σ' ρ'} x s' => by
      refine ⟨unU x s'.su, fun b hb => ?_, s'.sl.len, s'.sl.fz, fun i d' hi => ?_, s'.sl.bo, s'.sl.ne⟩
      · by_cases e5 : b = a
        · rw [e5]
          exact ⟨_, upd_same⟩
        · rw [upd_ne e5]
          exact s'.ba b hb
      · obtain ⟨p, h2, h3, h4, h5⟩ := s'.sl.ow i d' hi
        have : p ≠ a := fun z => by rw [z, x.ii a u ia] at h3; cases h3
        exact ⟨p, h2, h3, h4.ext (fun _ _ h => h) fun o h => by rw [upd_ne this]; exact h, h5⟩
    refine go _ od _ (fun b o hb h => by rw [ne b hb]; exact h) upd_same s1 ?_
    cases out with
    | nx ρ' => exact fun σ' I' H' x s' => ⟨fzd x, q σ' I' _ (unS x) (unT x s')⟩
    | bk ρ' => exact fun σ' I' H' x s' => ⟨fzd x, q σ' I' _ (unS x) (unT x s')⟩
    | ct ρ' => exact fun σ' I' H' x s' => ⟨fzd x, q σ' I' _ (unS x) (unT x s')⟩
    | rt k d' =>
      refine fun v I' H' x su r => ⟨fzd x, q v I' _ (unS x) (unU x su) ?_⟩
      cases k with
      | fz => exact r
      | ow =>
        obtain ⟨⟨p, rfl, h3, h4⟩, h5⟩ := r
        have : p ≠ a := fun z => by rw [z, x.ii a u ia] at h3; cases h3
        exact ⟨⟨p, rfl, h3, h4.ext (fun _ _ h => h) fun o h => by rw [upd_ne this]; exact h⟩, h5⟩
      | bo =>
        obtain ⟨⟨p, rfl, h3, h4⟩, h5⟩ := r
        have : p ≠ a := fun z => by rw [z, x.ii a u ia] at h3; cases h3
        exact ⟨⟨p, rfl, h3, h4.ext (fun _ _ h => h) fun o h => by rw [upd_ne this]; exact h⟩, h5⟩
  · exact .inr (go H od D (fun b o _ h => h) h1 s q)
/-! ### a loop that only tests and returns, over a list of one's own -/
theorem wipe_get {σ : List (Option V)} {i : Nat} : ∀ {ws : List Nat}, i ∉ ws → (wipe σ ws)[i]? = σ[i]?
  | [], _ => rfl
  | v :: vs, h => by
    show ((wipe σ vs).set v none)[i]? = _
    rw [List.getElem?_set_ne (fun e => h (by rw [← e]; exact List.mem_cons_self)), wipe_get fun m => h (List.mem_cons_of_mem _ m)]
theorem setMany_get {i : Nat} : ∀ {is : List Nat} {ds : List D} {ρ ρ' : Env}, setMany is ds ρ = some ρ' → i ∉ is → ρ'[i]? = ρ[i]?
  | [], [], _, _, h, _ => by
    simp only [setMany] at h
    cases h
    rfl
  | [], _ :: _, _, _, h, _ => by simp only [setMany] at h; cases h
  | _ :: _, [], _, _, h, _ => by simp only [setMany] at h; cases h
  | j :: is, d :: ds, ρ, ρ', h, n => by
    simp only [setMany] at h
    split at h
    · rw [setMany_get h fun m => n (List.mem_cons_of_mem _ m), List.getElem?_set_ne fun e => n (by rw [← e]; exact List.mem_cons_self)]
    · cases h
theorem setTg_get {g : Tg} {d : D} {ρ ρ' : Env} {i : Nat} (h : setTg g d ρ = some ρ') (n : i ∉ tgS g) : ρ'[i]? = ρ[i]? := by
  cases g with
  | nm j =>
    simp only [setTg] at h
    split at h
    · cases h
      exact List.getElem?_set_ne fun e => n (by rw [← e]; exact List.mem_cons_self)
    · cases h
  | tp is =>
    cases d with
    | tup ds => exact setMany_get h n
    | _ => simp only [setTg] at h; cases h
theorem forq_ok {g : Tg} {i : Nat} {c e : IE} {tc : TT} {te : TE} (hT : EvOkT K B tc (fun ρ => onT (evE cl c ρ))) (hE : EvOk K B te (evE cl e)) :
    EvOkS K B (tFor (iList K (tVar i)) (rdG K g) (tSeq (tIfS tc (tSeq (tRet te) tNext) tNext) tNext)) (evS cl (.forq g i c e)) := by
  intro σ I H ρ out D s h q
  rw [evS] at h
  split at h
  · rename_i xs e0
    split at h
    · cases h
    · rename_i hg
      have ng : i ∉ tgS g := fun m => hg (by simpa using m)
      have hi := ownAt_some e0
      obtain ⟨p, hp, hI, hc, nb⟩ := s.sl.ow i _ hi
      obtain ⟨vs, hv, rv, zv⟩ := id hc
      refine ⟨_, hp, p, rfl, ⟨vs, .inl (.inl hv)⟩, ?_⟩
      refine ⟨fun n m σ' H' => m = xs.length - n ∧ n ≤ xs.length ∧ σ'[i]? = σ[i]? ∧ ∃ (I' : Hp) (ρ' : Env), ρ'[i]? = ρ[i]? ∧ Stp B I H I' H' ∧ Sta K B I' H' σ' ρ' ∧ forRun (fun x ρ1 => match setTg g x ρ1 with
        | none => none
        | some ρ2 => match onT (evE cl c ρ2) with
          | none => none
          | some true => (match evE cl e ρ2 with
            | none => none
            | some (.fz, d) => some (.rt .fz d)
            | some (_, d) => some (.rt .ow d))
          | some false => some (.nx ρ2)) (xs.drop n) ρ' = some out,
        ⟨xs.length, by omega, Nat.zero_le _, rfl, I, ρ, rfl, Stp.refl, s, h⟩, ?_⟩
      rintro n m σ' H' ⟨rfl, hn, es, I', ρ', er0, st, s', er⟩
      obtain ⟨p', hp', hI', hc', nb'⟩ := s'.sl.ow i _ (er0.trans hi)
      have : p' = p := by
        rw [es, hp] at hp'
        exact (V.ref.inj (Option.some.inj (Option.some.inj hp'))).symm
      subst this
      obtain ⟨ws, hw, rw', zw⟩ := id hc'
      by_cases hlt : n < xs.length
      · obtain ⟨y, hy, ry⟩ := rw'.get (List.getElem?_eq_getElem hlt)
        refine .inr ⟨⟨ws, y, .inl (.inl hw), hy⟩, fun σ2 H2 => σ2[i]? = σ[i]? ∧ ∃ (I2 : Hp) (ρ2 : Env), ρ2[i]? = ρ[i]? ∧ Stp B I H I2 H2 ∧ Sta K B I2 H2 σ2 ρ2 ∧ forRun _ (xs.drop (n + 1)) ρ2 = some out,
          fun σ2 H2 z => ⟨xs.length - (n + 1), by omega, rfl, hlt, z⟩, fun x H2 hyl => ?_⟩
        obtain ⟨rfl, hyl⟩ := hyl
        have : y = x := Option.some.inj (hy.symm.trans (hyl ws (.inl (.inl hw))))
        subst this
        rw [List.drop_eq_getElem_cons hlt] at er
        simp only [forRun] at er
        cases et : setTg g xs[n] ρ' with
        | none => rw [et] at er; cases er
        | some ρ2 =>
          simp only [et] at er
          refine tg_ok et s' ry fun σ3 s3 w3 => ?_
          have e3 : σ3[i]? = σ[i]? := by
            rw [← wipe_get (σ := σ3) ng, w3 (tgS g) (fun _ h => h), wipe_get ng, es]
          have r3 : ρ2[i]? = ρ[i]? := (setTg_get et ng).trans er0
          show tc σ3 H2 _
          cases ec : onT (evE cl c ρ2) with
          | none => simp only [ec] at er; cases er
          | some b =>
            simp only [ec] at er
            refine hT σ3 I' H2 ρ2 b _ s3 ec fun I4 H4 x4 => ?_
            cases b with
            | false =>
              rw [if_neg Bool.false_ne_true]
              exact ⟨e3, I4, ρ2, r3, st.trans (s3.stp x4), s3.ext x4, er⟩
            | true =>
              rw [if_pos rfl]
              have s4 := s3.ext x4
              show te σ3 H4 _
              cases ee : evE cl e ρ2 with
              | none => simp only [ee] at er; cases er
              | some r =>
                obtain ⟨k, d⟩ := r
                simp only [ee] at er
                refine hE σ3 I4 H4 ρ2 k d _ s4 ee fun v I5 H5 x5 r5 => ?_
                have st5 := st.trans ((s3.stp x4).trans (s4.stp x5))
                cases k with
                | fz =>
                  cases er
                  exact q v I5 H5 st5 x5.su r5
                | ow =>
                  cases er
                  obtain ⟨h1, p5, rfl, h0⟩ := r5
                  refine q _ I5 H5 st5 x5.su ⟨h1, p5, rfl, fun hb => ?_⟩
                  obtain ⟨o, ho⟩ := s4.ba p5 hb
                  rw [h0] at ho
                  cases ho
                | bo =>
                  cases er
                  exact q v I5 H5 st5 x5.su r5
      · have hi' : n = xs.length := by omega
        subst hi'
        rw [List.drop_length] at er
        simp only [forRun] at er
        cases er
        exact .inl ⟨⟨ws, .inl (.inl hw), by rw [rw'.len]; exact Nat.le_refl _⟩, q σ' I' H' st s'⟩
  · cases h
mutual
theorem sndS (hc : CallOk K cl sp) : ∀ s : IS, okS1 s = true → EvOkS K B (rdS K sp s) (evS cl s)
  | .set g e, h => by
    simp only [okS1] at h
    simp only [rdS]
    intro σ I H ρ out D s h' q
    rw [evS] at h'
    split at h'
    · cases h'
    · rename_i r e1
      split at h'
      · cases h'
      · rename_i ρ' e2
        cases h'
        obtain ⟨k, d⟩ := r
        exact snd hc e h σ I H ρ k d _ s e1 fun v I' H' x r => setR_ok s e2 x r fun σ' s' => q σ' I' H' (s.stp x) s'
  | .setix i k v, h => by
    simp only [okS1, Bool.and_eq_true] at h
    simp only [rdS]
    exact setix_ok (snd hc k h.1) (snd hc v h.2)
  | .ms m i es, h => by
    simp only [okS1, Bool.and_eq_true] at h
    simp only [rdS]
    exact ms_ok h.2 (sndF hc es h.1)
  | .msv _ _ _ _, h => by simp only [okS1] at h; cases h
  | .frz i, _ => by
    simp only [rdS]
    intro σ I H ρ out D s h' q
    rw [evS] at h'
    split at h'
    · rename_i k d e1
      cases h'
      cases k with
      | fz =>
        have : ρ.set i (some (.fz, d)) = ρ := by
          apply List.ext_getElem?
          intro j
          by_cases c : i = j
          · subst c
            rw [List.getElem?_set_self (List.getElem?_eq_some_iff.mp e1).1, e1]
          · rw [List.getElem?_set_ne c]
        rw [this] at q
        exact q σ I H Stp.refl s
      | ow =>
        obtain ⟨I', st, s'⟩ := s.frz e1
        exact q σ I' H st s'
      | bo => exact absurd e1 (s.sl.bo i d)
    · cases h'
      exact q σ I H Stp.refl s
  | .ite c a b, h => by
    simp only [okS1, Bool.and_eq_true] at h
    simp only [rdS]
    intro σ I H ρ out D s h' q
    rw [evS] at h'
    split at h'
    · cases h'
    · rename_i e1
      refine sndT hc c h.1.1 σ I H ρ true _ s e1 fun I' H' x => ?_
      rw [if_pos rfl]
      exact sndSs hc a h.1.2 σ I' H' ρ out D (s.ext x) h' (q.step (s.stp x))
    · rename_i e1
      refine sndT hc c h.1.1 σ I H ρ false _ s e1 fun I' H' x => ?_
      rw [if_neg Bool.false_ne_true]
      exact sndSs hc b h.2 σ I' H' ρ out D (s.ext x) h' (q.step (s.stp x))
  | .for_ g k src body, h => by
    simp only [okS1, Bool.and_eq_true] at h
    obtain ⟨⟨h2, h3⟩, h4⟩ := h
    have hB : EvOkS K B (rdSs K sp body) (evSs cl body) := sndSs hc body h3
    intro σ I H ρ out D s h' q
    rw [evS] at h'
    split at h'
    · cases h'
    · rename_i ds e1
      split at h'
      · cases h'
      · rename_i xs e2
        have plain : k ≠ .keys → tFor (rdSrc K k (rdL K sp src) (rdA K sp src)) (rdG K g) (rdSs K sp body) D σ H := fun hk => by
          refine for_at (fun R r => ?_) hB s h' q
          refine src_any (fr := True) (k := k) hk (sndF hc src h2).s1 (fun ρ ds h => evF_len h) (fun e he => ?_) σ I H ρ xs R s ?_ r
          · subst he
            exact ⟨_, (sndL hc [e] h2 e List.mem_cons_self).s1, fun ρ => evF_one⟩
          · show (evF cl src ρ).bind (srcD k) = some xs
            rw [e1]
            exact e2
        cases k with
        | keys =>
          simp only [bne_self_eq_false, Bool.false_or] at h4
          match src, h4, h2, e1 with
          | [e], h4, h2, e1 =>
            rw [evF_one] at e1
            cases e5 : evE cl e ρ with
            | none => rw [e5] at e1; cases e1
            | some r =>
              obtain ⟨k0, d0⟩ := r
              have k1 : k0 = .fz := by
                rw [e5] at e1
                have kp : ∀ e : IE, keysPath [e] = true → ∀ r, evE cl e ρ = some r → r.1 = .fz ∨ r.1 = .bo := fun e hp r he => by
                  cases e with
                  | var i =>
                    simp only [evE] at he
                    split at he
                    · cases he; exact .inl rfl
                    · cases he; exact .inr rfl
                    · cases he
                  | ix a b =>
                    rw [evE] at he
                    split at he
                    · cases he
                    · split at he
                      · cases he
                      · split at he
                        · cases he
                        · cases he; exact .inl rfl
                  | _ => simp only [keysPath] at hp; cases hp
                rcases kp e h4 _ e5 with z | z
                · exact z
                · have z : k0 = .bo := z
                  subst z
                  cases e1
              subst k1
              rw [e5] at e1
              cases e1
              simp only [rdS, rdL, rdSrc]
              exact forKeys h4 hB s e5 e2 h' q
          | [], h4, _, _ => simp only [keysPath] at h4; cases h4
          | _ :: _ :: _, h4, _, _ => simp only [keysPath] at h4; cases h4
        | seq => simp only [rdS]; exact plain (by intro h; injection h)
        | rng => simp only [rdS]; exact plain (by intro h; injection h)
        | enum => simp only [rdS]; exact plain (by intro h; injection h)
        | zip => simp only [rdS]; exact plain (by intro h; injection h)
        | rev => simp only [rdS]; exact plain (by intro h; injection h)
  | .forq g i c e, h => by
    simp only [okS1, Bool.and_eq_true] at h
    simp only [rdS]
    exact forq_ok (sndT hc c h.1) (snd hc e h.2)
  | .whl c body, h => by
    simp only [okS1, Bool.and_eq_true] at h
    simp only [rdS]
    have hC := sndT (B := B) hc c h.1
    have hB : EvOkS K B (rdSs K sp body) (evSs cl body) := sndSs hc body h.2
    intro σ I H ρ out D s h' q
    rw [evS] at h'
    refine ⟨fun m σ' H' => ∃ (I' : Hp) (ρ' : Env), Stp B I H I' H' ∧ Sta K B I' H' σ' ρ' ∧ whlRun (fun ρ1 => onT (evE cl c ρ1)) (fun ρ1 => evSs cl body ρ1) m ρ' = some out, ⟨WHL, I, ρ, Stp.refl, s, h'⟩, ?_⟩
    rintro m σ1 H1 ⟨I1, ρ1, st, s1, e1⟩
    cases m with
    | zero => simp only [whlRun] at e1; cases e1
    | succ n =>
      simp only [whlRun] at e1
      split at e1
      · cases e1
      · rename_i e2
        cases e1
        refine hC σ1 I1 H1 ρ1 false _ s1 e2 fun I' H' x => ?_
        rw [if_neg Bool.false_ne_true]
        exact q σ1 I' H' (st.trans (s1.stp x)) (s1.ext x)
      · rename_i e2
        refine hC σ1 I1 H1 ρ1 true _ s1 e2 fun I' H' x => ?_
        rw [if_pos rfl]
        have st' := st.trans (s1.stp x)
        refine ⟨fun σ' H' => ∃ (I' : Hp) (ρ' : Env), Stp B I H I' H' ∧ Sta K B I' H' σ' ρ' ∧ whlRun (fun ρ1 => onT (evE cl c ρ1)) (fun ρ1 => evSs cl body ρ1) n ρ' = some out, fun σ' H' w => ⟨n, Nat.lt_succ_self _, w⟩, ?_⟩
        cases e3 : evSs cl body ρ1 with
        | none => rw [e3] at e1; cases e1
        | some o1 =>
          rw [e3] at e1
          refine hB σ1 I' H' ρ1 o1 _ (s1.ext x) e3 ?_
          cases o1 with
          | nx ρ4 => exact fun σ4 I4 H4 y4 s4 => ⟨I4, ρ4, st'.trans y4, s4, e1⟩
          | ct ρ4 => exact fun σ4 I4 H4 y4 s4 => ⟨I4, ρ4, st'.trans y4, s4, e1⟩
          | bk ρ4 =>
            cases e1
            exact fun σ4 I4 H4 y4 s4 => q σ4 I4 H4 (st'.trans y4) s4
          | rt k d =>
            cases e1
            exact fun v I4 H4 y4 s4 r => q v I4 H4 (st'.trans y4) s4 r
  | .ret e, h => by
    simp only [okS1] at h
    simp only [rdS]
    intro σ I H ρ out D s h' q
    rw [evS] at h'
    split at h'
    · cases h'
    · rename_i d e1
      cases h'
      exact snd hc e h σ I H ρ _ _ _ s e1 fun v I' H' x r => q v I' H' (s.stp x) x.su r
    · rename_i k d hk e1
      cases h'
      refine snd hc e h σ I H ρ _ _ _ s e1 fun v I' H' x r => q v I' H' (s.stp x) x.su ?_
      cases k with
      | fz => exact absurd rfl hk
      | ow =>
        obtain ⟨h1, p, rfl, h0⟩ := r
        refine ⟨h1, p, rfl, fun hb => ?_⟩
        obtain ⟨o, ho⟩ := s.ba p hb
        rw [h0] at ho
        cases ho
      | bo => exact r
  | .retn, _ => by
    simp only [rdS]
    intro σ I H ρ out D s h' q
    rw [evS] at h'
    cases h'
    have rn : Rep K I .non V.non := rep_non
    exact q .non I H Stp.refl s.su rn
  | .brk, _ => by
    simp only [rdS]
    intro σ I H ρ out D s h' q
    rw [evS] at h'
    cases h'
    exact q σ I H Stp.refl s
  | .cnt, _ => by
    simp only [rdS]
    intro σ I H ρ out D s h' q
    rw [evS] at h'
    cases h'
    exact q σ I H Stp.refl s
  | .pass, _ => by
    simp only [rdS]
    intro σ I H ρ out D s h' q
    rw [evS] at h'
    cases h'
    exact q σ I H Stp.refl s
  | .expr e, h => by
    simp only [okS1] at h
    simp only [rdS]
    intro σ I H ρ out D s h' q
    rw [evS] at h'
    split at h'
    · cases h'
    · rename_i r e1
      cases h'
      exact snd hc e h σ I H ρ r.1 r.2 _ s e1 fun v I' H' x _ => q σ I' H' (s.stp x) (s.ext x)
  | .stuck, _ => by
    intro σ I H ρ out D s h' q
    rw [evS] at h'
    cases h'
theorem sndSs (hc : CallOk K cl sp) : ∀ ss : List IS, okSs ss = true → EvOkS K B (rdSs K sp ss) (evSs cl ss)
  | [], _ => by
    simp only [rdSs]
    intro σ I H ρ out D s h' q
    rw [evSs] at h'
    cases h'
    exact q σ I H Stp.refl s
  | s0 :: ss, h => by
    simp only [okSs, Bool.and_eq_true] at h
    simp only [rdSs]
    intro σ I H ρ out D s h' q
    rw [evSs] at h'
    cases e1 : evS cl s0 ρ with
    | none => rw [e1] at h'; cases h'
    | some o1 =>
      rw [e1] at h'
      refine sndS hc s0 h.1 σ I H ρ o1 _ s e1 ?_
      cases o1 with
      | nx ρ' => exact fun σ' I' H' x s' => sndSs hc ss h.2 σ' I' H' ρ' out D s' h' (q.step x)
      | bk ρ' => cases h'; exact q
      | ct ρ' => cases h'; exact q
      | rt k d => cases h'; exact q
end
end
end R

set_option linter.all false
set_option maxHeartbeats 2000000
/-! A term against the text. -/
namespace R
open PySem L2
structure Cc where
  N : List Str
  sc : Scope
  blk : Option Scope
  fns : List (Str × Nat)
  gls : List (Str × D)
def fnB (c : Cc) (x : Str) : Bool := match c.blk with
  | none => true
  | some s => s.names.lookup x == some .cell
def visB (c : Cc) (x : Str) : Bool := (match c.sc.names.lookup x with
  | some .local => true
  | some .cell => true
  | some .free => true
  | _ => false) && !(x == ("__debug__" : Str)) && !(x == ("__classdict__" : Str))
def locB (c : Cc) (x : Str) : Bool := match c.sc.names.lookup x with
  | some .local => true
  | some .cell => fnB c x
  | _ => false
def glB (c : Cc) (x : Str) : Bool := (match c.sc.names.lookup x with
  | some .globalImplicit => true
  | _ => false) && !(x == ("__debug__" : Str))
def ixB (c : Cc) (i : Nat) (x : Str) : Bool := decide (c.N[i]? = some x)
def notSlice : Expr → Bool
  | .Slice _ _ _ _ => false
  | _ => true
def notStar : Expr → Bool
  | .Starred _ _ => false
  | _ => true
def notSet : Expr → Bool
  | .Set _ _ _ => false
  | _ => true
def notTuple : Expr → Bool
  | .Tuple _ _ _ => false
  | _ => true
def notLc : Expr → Bool
  | .ListComp _ _ _ _ => false
  | .SetComp _ _ _ _ => false
  | .DictComp _ _ _ _ _ => false
  | _ => true
def opB : BOp → Operator → Bool
  | .add, .Add => true
  | .sub, .Sub => true
  | .mul, .Mult => true
  | .fdiv, .FloorDiv => true
  | .mod, .Mod => true
  | .pow, .Pow => true
  | _, _ => false
def copB : COp → CmpOp → Bool
  | .eq, .Eq => true
  | .ne, .NotEq => true
  | .lt, .Lt => true
  | .le, .LtE => true
  | .gt, .Gt => true
  | .ge, .GtE => true
  | .is, .Is => true
  | .isnt, .IsNot => true
  | .isin, .In => true
  | .notin, .NotIn => true
  | _, _ => false
def biNm : BI → Str
  | .len => "len" | .tuple => "tuple" | .list => "list" | .int => "int" | .str => "str" | .all => "all" | .max => "max" | .min => "min" | .sum => "sum" | .sorted => "sorted" | _ => ""
def biPl : BI → Bool
  | .len => true | .tuple => true | .list => true | .int => true | .str => true | .all => true | .max => true | .min => true | .sum => true | .sorted => true | _ => false
def blkCtx (c : Cc) (scope : Scope) : Cc := { c with sc := relS scope c.sc, blk := some scope }
def ownOf (c : Cc) (g : Tg) : List (Str × Nat) := (tgS g).map fun i => (c.N.getD i Str.empty, i)
def chkNm (c : Cc) (i : Nat) : Expr → Bool
  | .Name x _ => ixB c i x && locB c x
  | _ => false
def chkNms (c : Cc) : List Nat → List Expr → Bool
  | [], [] => true
  | i :: is, e :: es => chkNm c i e && chkNms c is es
  | _, _ => false
def chkG (c : Cc) : Tg → Expr → Bool
  | .nm i, e => chkNm c i e
  | .tp is, .Tuple ts _ _ => chkNms c is ts
  | .tp _, _ => false
def isTup1 : Expr → Bool
  | .Tuple _ _ _ => true
  | _ => false
/-- what an iterable's own parts are -/
def srcArgs (c : Cc) (k : SK) (tg iter : Expr) : Option (List Expr) := match k with
  | .seq => some [iter]
  | .keys => some [iter]
  | .rng => match iter with
    | .Call (.Name x _) args [] _ => if decide (x = "range") && glB c x then some args else none
    | _ => none
  | .enum => match iter with
    | .Call (.Name x _) [y] [] _ => if isTup1 tg && decide (x = "enumerate") && glB c x then some [y] else none
    | _ => none
  | .zip => match iter with
    | .Call (.Name x _) [y, z] [] _ => if isTup1 tg && decide (x = "zip") && glB c x then some [y, z] else none
    | _ => none
  | .rev => none
/-- what a built-in's own arguments are -/
def biArgs (c : Cc) (b : BI) (x : Str) (args : List Expr) : Option (List Expr) :=
  if glB c x then
    match b with
    | .isBool => match args with
      | [y, .Name t _] => if decide (x = "isinstance") && decide (t = "bool") && glB c t then some [y] else none
      | _ => none
    | .isInt => match args with
      | [y, .Name t _] => if decide (x = "isinstance") && decide (t = "int") && glB c t then some [y] else none
      | _ => none
    | .isStr => match args with
      | [y, .Name t _] => if decide (x = "isinstance") && decide (t = "str") && glB c t then some [y] else none
      | _ => none
    | .isList => match args with
      | [y, .Name t _] => if decide (x = "isinstance") && decide (t = "list") && glB c t then some [y] else none
      | _ => none
    | .isTuple => match args with
      | [y, .Name t _] => if decide (x = "isinstance") && decide (t = "tuple") && glB c t then some [y] else none
      | _ => none
    | .lenset => match args with
      | [.Call (.Name y _) [z] [] _] => if decide (x = "len") && decide (y = "set") && glB c y then some [z] else none
      | _ => none
    | .tupRange => match args with
      | [.Call (.Name y _) zs [] _] => if decide (x = "tuple") && decide (y = "range") && glB c y then some zs else none
      | _ => none
    | .lstRange => match args with
      | [.Call (.Name y _) zs [] _] => if decide (x = "list") && decide (y = "range") && glB c y then some zs else none
      | _ => none
    | b => if biPl b && decide (x = biNm b) then some args else none
  else none
def notCall : Expr → Bool
  | .Call _ _ _ _ => false
  | _ => true
/-- a number, written -/
def litI (d : Int) : Expr → Bool
  | .Constant (.int j) _ _ => decide (d = j)
  | .UnaryOp .USub (.Constant (.int j) _ _) _ => decide (d = -j)
  | _ => false
mutual
def chkE (c : Cc) : IE → Expr → Bool
  | .var i, e => match e with | .Name x _ => ixB c i x && visB c x | _ => false
  | .int i, e => match e with | .Constant (.int j) _ _ => decide (i = j) | _ => false
  | .bl b, e => match e with | .Constant (.bool b') _ _ => decide (b = b') | _ => false
  | .non, e => match e with | .Constant .none _ _ => true | _ => false
  | .str x, e => match e with | .Constant (.str y) _ _ => decide (x = y) | _ => false
  | .glb x d, e => match e with | .Name y _ => decide (x = y) && glB c x && c.gls.any (fun p => decide (p.1 = x) && decide (vOf p.2 = vOf d)) | _ => false
  | .bin op a b, e => match e with | .BinOp l o r _ => opB op o && chkE c a l && chkE c b r | _ => false
  | .cmp op a b, e => match e with | .Compare l [o] [r] _ => copB op o && notSet r && chkE c a l && chkE c b r | _ => false
  | .chain op op' a b d, e => match e with | .Compare l [o, o'] [r, r'] _ => copB op o && copB op' o' && notSet r && notSet r' && chkE c a l && chkE c b r && chkE c d r' | _ => false
  | .and a b, e => match e with
    | .BoolOp .And (l :: r :: rest) pos => chkE c a l && (match rest with | [] => chkE c b r | _ :: _ => chkE c b (.BoolOp .And (r :: rest) pos))
    | _ => false
  | .or a b, e => match e with
    | .BoolOp .Or (l :: r :: rest) pos => chkE c a l && (match rest with | [] => chkE c b r | _ :: _ => chkE c b (.BoolOp .Or (r :: rest) pos))
    | _ => false
  | .not a, e => match e with | .UnaryOp .Not x _ => chkE c a x | _ => false
  | .neg a, e => match e with | .UnaryOp .USub x _ => chkE c a x | _ => false
  | .ifx t a b, e => match e with | .IfExp x y z _ => chkT c t x && chkE c a y && chkE c b z | _ => false
  | .tup es, e => match e with | .Tuple xs _ _ => chkL c es xs | _ => false
  | .lst es, e => match e with | .List xs _ => chkL c es xs | _ => false
  | .ix a b, e => match e with | .Subscript x i _ => notSlice i && chkE c a x && chkE c b i | _ => false
  | .slc a lo hi, e => match e with | .Subscript x (.Slice l h none _) _ => chkE c a x && chkO c lo l && chkO c hi h | _ => false
  | .call f es, e => match e with | .Call (.Name x _) args [] _ => decide ((x, f) ∈ c.fns) && glB c x && chkL c es args | _ => false
  | .bi b es, e => match e with
    | .Call (.Name x _) args kws _ => match kws with
      | [] => (biArgs c b x args).isSome && chkL c es ((biArgs c b x args).getD [])
      | [⟨some k, v, _⟩] => (match b with
        | .maxd d => decide (x = "max") && glB c "max" && decide (k = "default") && litI d v && decide (args.length = 1)
        | _ => false) && chkL c es args
      | _ => false
    | _ => false
  | .mt m o es, e => match e with
    | .Call (.Attribute x nm apos) args [] cpos => (apos.endLine == cpos.line) && notCall x && chkE c o x && chkL c es args && (match m with
      | .get => decide (nm = "get") && decide (args.length = 2)
      | .join => decide (nm = "join") && decide (args.length = 1)
      | .split => decide (nm = "split") && decide (args.length = 1)
      | _ => false)
    | _ => false
  | .lc elt g k src ifs, e => match e with
    | .ListComp el [⟨tg, iter, ts, 0⟩] scope _ => notSet iter && (srcArgs c k tg iter).isSome && chkL c src ((srcArgs c k tg iter).getD []) && blkC c.N c.sc scope (ownOf c g) && chkG (blkCtx c scope) g tg && chkI (blkCtx c scope) ifs ts && chkE (blkCtx c scope) elt el
    | _ => false
  | .dnew _, e => match e with | .Dict [] [] _ => true | _ => false
  | .disp _ _ _, _ => false
def chkT (c : Cc) : IE → Expr → Bool
  | .cmp op a b, e => match e with | .Compare l [o] [r] _ => copB op o && notSet r && chkE c a l && chkE c b r | _ => false
  | .chain op op' a b d, e => match e with | .Compare l [o, o'] [r, r'] _ => copB op o && copB op' o' && notSet r && notSet r' && chkE c a l && chkE c b r && chkE c d r' | _ => false
  | .and a b, e => match e with
    | .BoolOp .And (l :: r :: rest) pos => chkT c a l && (match rest with | [] => chkT c b r | _ :: _ => chkT c b (.BoolOp .And (r :: rest) pos))
    | _ => false
  | .or a b, e => match e with
    | .BoolOp .Or (l :: r :: rest) pos => chkT c a l && (match rest with | [] => chkT c b r | _ :: _ => chkT c b (.BoolOp .Or (r :: rest) pos))
    | _ => false
  | .not a, e => match e with | .UnaryOp .Not x _ => chkT c a x | _ => false
  | .var i, e => match e with | .Name x _ => ixB c i x && visB c x | _ => false
  | .int i, e => match e with | .Constant (.int j) _ _ => decide (i = j) | _ => false
  | .bl b, e => match e with | .Constant (.bool b') _ _ => decide (b = b') | _ => false
  | .ix a b, e => match e with | .Subscript x i _ => notSlice i && chkE c a x && chkE c b i | _ => false
  | .call f es, e => match e with | .Call (.Name x _) args [] _ => decide ((x, f) ∈ c.fns) && glB c x && chkL c es args | _ => false
  | .bi b es, e => match e with
    | .Call (.Name x _) args [] _ => (biArgs c b x args).isSome && chkL c es ((biArgs c b x args).getD [])
    | _ => false
  | _, _ => false
def chkL (c : Cc) : List IE → List Expr → Bool
  | [], [] => true
  | e :: es, x :: xs => notStar x && chkE c e x && chkL c es xs
  | _, _ => false
def chkI (c : Cc) : List IE → List Expr → Bool
  | [], [] => true
  | [e], [x] => chkT c e x
  | _, _ => false
def chkO (c : Cc) : Option IE → Option Expr → Bool
  | none, none => true
  | some e, some x => chkE c e x
  | _, _ => false
end
def msNm : MS → Str
  | .append => "append" | .reverse => "reverse" | _ => ""
/-- whether name = [..] stores within the comprehension's frame -/
def swB (c : Cc) (y : Str) (py : Pos) (pos : Pos) (scope : Scope) : Bool :=
  decide (c.sc.names.lookup y = some .local) && (py.line == pos.line) && !(scope.names.any fun (n, k) => n == y && (k == .local || k == .cell))
/-- a target and what is stored there: nothing swaps -/
def plainSet (e : Expr) : Bool := notLc e && notTuple e && (match e with | .List _ _ => true | _ => true)
def visN (c : Cc) : Expr → Bool
  | .Name x _ => visB c x
  | _ => false
def setC (tg v : Expr) : Bool := match tg with
  | .Name _ _ => (match v with
    | .ListComp _ _ _ _ => true
    | v => notLc v)
  | _ => notLc v && notTuple v
mutual
def chkS (c : Cc) : IS → Stmt → Bool
  | .set g e, st => match st with
    | .Assign [tg] v _ => chkG c g tg && chkE c e v && setC tg v
    | _ => false
  | .setix i k v, st => match st with
    | .Assign [.Subscript o ke _] ve _ => chkNm c i o && visN c o && notSlice ke && notLc ve && chkE c k ke && chkE c v ve
    | _ => false
  | .ms m i es, st => match st with
    | .Expr (.Call (.Attribute o nm apos) args [] cpos) _ => chkNm c i o && visN c o && decide (nm = msNm m) && (apos.endLine == cpos.line) && chkL c es args && msAr m args.length
    | _ => false
  | .msv _ _ _ _, _ => false
  | .frz _, _ => false
  | .ite t a b, st => match st with
    | .If x p q _ => chkT c t x && chkSs c a p && chkSs c b q
    | _ => false
  | .for_ g k src body, st => match st with
    | .For tg iter b [] _ => notSet iter && (srcArgs c k tg iter).isSome && chkL c src ((srcArgs c k tg iter).getD []) && chkG c g tg && chkSs c body b
    | _ => false
  | .forq g i t e, st => match st with
    | .For tg iter [.If x [.Return (some y) _] [] _] [] _ => notSet iter && chkNm c i iter && visN c iter && chkG c g tg && chkT c t x && chkE c e y
    | _ => false
  | .whl t body, st => match st with
    | .While x b [] _ => chkT c t x && chkSs c body b
    | _ => false
  | .ret e, st => match st with
    | .Return (some x) _ => chkE c e x
    | _ => false
  | .retn, st => match st with
    | .Return none _ => true
    | _ => false
  | .brk, st => match st with | .Break _ => true | _ => false
  | .cnt, st => match st with | .Continue _ => true | _ => false
  | .pass, st => match st with | .Pass _ => true | .Expr (.Constant (.str _) _ _) _ => true | _ => false
  | .expr e, st => match st with | .Expr x _ => notLc x && chkE c e x | _ => false
  | .stuck, _ => true
def chkSs (c : Cc) : List IS → List Stmt → Bool
  | [], sts => match sts with | [] => true | _ => false
  | s :: ss, sts => match s with
    | .frz _ => chkSs c ss sts
    | _ => match sts with
      | st :: sts' => chkS c s st && chkSs c ss sts'
      | [] => false
end
end R

set_option linter.all false
set_option maxHeartbeats 4000000
set_option maxRecDepth 100000
/-! What the check gives: the text's expressions keep the readings. -/
namespace R
open PySem L2
def biNames : List Str := ["len", "tuple", "list", "int", "str", "all", "max", "min", "sum", "isinstance", "set", "range", "enumerate", "zip", "bool", "sorted", "reversed", "dict", "ord"]
structure Cok (X : Cx) (c : Cc) (sp : Nat → Sp) : Prop where
  N : X.N = c.N
  nd : c.N.Nodup
  sc : X.env.scope = c.sc
  fn : ∀ x, X.fn x = fnB c x
  calm : X.calm = true
  xe : X.xe = fun _ _ => False
  bi : ∀ x ∈ biNames, X.mg x = none
  gl : ∀ p ∈ c.gls, ∃ u, X.mg p.1 = some u ∧ RelV (vOf p.2) u
  calls : ∀ p ∈ c.fns, ∃ (k : Nat) (f : Addr) (fd : FuncData) (ps : List Str), FnOk X.prog X.w X.K X.mg X.base CX0 k f fd ps (sp p.2) ∧ Room k X.A ∧ X.mg p.1 = some (.ref f) ∧ PySem.W.keepIn X.K (.ref f) = true ∧ Binds X.K fd ps []
  hu : X.A.units + 65 < cLine
section
variable {X : Cx} {c : Cc} {sp : Nat → Sp}
theorem Cok.blk (h : Cok X c sp) (s : Shared) (H : Hp) (scope : Scope) (C : Addr) (cl : List (Str × Addr)) (fp : List Addr) : Cok (X.blk s H scope (compEnvC scope cl C X.env) fp) (blkCtx c scope) sp := by
  refine ⟨h.N, h.nd, ?_, fun x => rfl, h.calm, rfl, h.bi, h.gl, h.calls, h.hu⟩
  show relS scope X.env.scope = relS scope c.sc
  rw [h.sc]
theorem Cok.vis (h : Cok X c sp) {x : Str} (v : visB c x = true) : Vis X.env.scope x ∧ (x == ("__debug__" : Str)) = false ∧ (x == ("__classdict__" : Str)) = false := by
  unfold visB at v
  simp only [Bool.and_eq_true, Bool.not_eq_true'] at v
  obtain ⟨⟨v1, v2⟩, v3⟩ := v
  refine ⟨?_, v2, v3⟩
  unfold Vis
  rw [h.sc]
  split at v1
  · rename_i e; exact .inl e
  · rename_i e; exact .inr (.inl e)
  · rename_i e; exact .inr (.inr e)
  · cases v1
theorem Cok.glo (h : Cok X c sp) {x : Str} (v : glB c x = true) : Gl X x ∧ (x == ("__debug__" : Str)) = false := by
  unfold glB at v
  simp only [Bool.and_eq_true, Bool.not_eq_true'] at v
  refine ⟨?_, v.2⟩
  unfold Gl PySem.Env.kindOf
  rw [h.sc]
  have v1 := v.1
  split at v1
  · rename_i e; exact e
  · cases v1
theorem Cok.ix (h : Cok X c sp) {i : Nat} {x : Str} (v : ixB c i x = true) : X.N[i]? = some x := by
  rw [h.N]
  exact of_decide_eq_true v
theorem Cok.loc (h : Cok X c sp) {x : Str} (v : locB c x = true) : L2.Loc X.env.scope x ∧ (X.fn x = true ∨ X.env.scope.names.lookup x = some .local) := by
  unfold locB at v
  unfold L2.Loc
  rw [h.sc, h.fn]
  split at v
  · rename_i e; exact ⟨.inl e, .inr e⟩
  · rename_i e; exact ⟨.inr e, .inl v⟩
  · cases v
theorem star_ok {e : Expr} {es : List Expr} {env : PySem.Env} (h : notStar e = true) : starEach (e :: es) env = (false, eval e env) :: starEach es env := by
  cases e <;> first | rfl | (cases h)
theorem any_ns {pos : Pos} {env : PySem.Env} : ∀ {es : List Expr}, es.all notStar = true → (backTo pos (starEach es env)).any (·.1) = false
  | [], _ => rfl
  | e :: es, h => by
    simp only [List.all_cons, Bool.and_eq_true] at h
    rw [star_ok h.1]
    have ih := any_ns (pos := pos) (env := env) h.2
    show (false || (backTo pos (starEach es env)).any (·.1)) = false
    rw [ih]
    rfl
theorem all_ns {pos : Pos} {env : PySem.Env} : ∀ {es : List Expr}, es.all notStar = true → (backTo pos (starEach es env)).all (fun x => !x.1) = true
  | [], _ => rfl
  | e :: es, h => by
    simp only [List.all_cons, Bool.and_eq_true] at h
    rw [star_ok h.1]
    have ih := all_ns (pos := pos) (env := env) h.2
    show (true && (backTo pos (starEach es env)).all (fun x => !x.1)) = true
    rw [ih]
    rfl
theorem chkL_ns : ∀ {es : List IE} {xs : List Expr}, chkL c es xs = true → xs.all notStar = true ∧ es.length = xs.length
  | [], [], _ => ⟨rfl, rfl⟩
  | [], _ :: _, h => by simp only [chkL] at h; cases h
  | _ :: _, [], h => by simp only [chkL] at h; cases h
  | e :: es, x :: xs, h => by
    simp only [chkL, Bool.and_eq_true] at h
    obtain ⟨q1, q2⟩ := chkL_ns h.2
    exact ⟨by simp only [List.all_cons, h.1.1, q1, Bool.and_self], by rw [List.length_cons, List.length_cons, q2]⟩
theorem bim_ok {o : CmpOp} {e : Expr} (h : notSet e = true) : behindInMarks o e = false := by
  cases e <;> first | rfl | (cases h)
theorem lm_ok {o o' : CmpOp} {e e' : Expr} (h : notSet e' = true) : lastMarks [o, o'] [e, e'] = false := by
  show behindInMarks o' e' = false
  exact bim_ok h
theorem fsi_ok {e : Expr} {env : PySem.Env} (h : notSet e = true) : ∀ x, foldedSetIterable e env x = pure x := by
  intro x
  cases e <;> first | rfl | (cases h)
theorem sub_ok {e : Expr} (h : notSlice e = true) : ∀ o i, subscripted e false o i = operate [o, i] (getItem o i) := by
  intro o i
  cases e <;> first | rfl | (cases h)
theorem base_ok {o : Expr} {m : Str} {env : PySem.Env} {w : Sem Value} (h : notCall o = true) : attributeBase o m env w = w := by
  cases o <;> first | rfl | (cases h)
theorem PE.or2 {e : Expr} {t u : TE} (h : PE X e t) (g : PE X e u) : PE X e (fun σ H Q => t σ H Q ∨ u σ H Q) := ⟨fun pins s σ H Q I hw => by
  rcases hw with hw | hw
  · exact h.run pins s σ H Q I hw
  · exact g.run pins s σ H Q I hw⟩
theorem PT.or2 {e : Expr} {t u : TT} (h : PT X e t) (g : PT X e u) : PT X e (fun σ H Q => t σ H Q ∨ u σ H Q) := ⟨fun pins s σ H Q I hw => by
  rcases hw with hw | hw
  · exact h.run pins s σ H Q I hw
  · exact g.run pins s σ H Q I hw⟩
theorem PS.or2 {e : Stmt} {t u : TS} (h : PS X e t) (g : PS X e u) : PS X e (fun D σ H => t D σ H ∨ u D σ H) := ⟨fun pins s σ H D I hw => by
  rcases hw with hw | hw
  · exact h.run pins s σ H D I hw
  · exact g.run pins s σ H D I hw⟩
theorem PI.or2 {tg e : Expr} {t u : TI} (h : PI X tg e t) (g : PI X tg e u) : PI X tg e (fun σ H R => t σ H R ∨ u σ H R) := ⟨fun pins s σ H R I hw => by
  rcases hw with hw | hw
  · exact h.run pins s σ H R I hw
  · exact g.run pins s σ H R I hw⟩
theorem op_ok {op : BOp} {o : Operator} (h : opB op o = true) : OpR X (binaryOp o) (rBin X.K op) := by
  cases op <;> cases o <;> first | (cases h; done) | skip
  · exact op_add.or (op_add_str.or (op_cat.or op_catA))
  · exact op_sub
  · exact op_mul.or (op_rep.or op_mulT)
  · exact op_fdivN
  · exact op_modN
  · exact op_pow
theorem cop_ok (hu : X.A.units + 65 < cLine) {op : COp} {o : CmpOp} (h : copB op o = true) : OpR X (compareOp o) (rCmp X.K op) := by
  cases op <;> cases o <;> first | (cases h; done) | skip
  · exact op_eqD (by omega)
  · exact op_neD (by omega)
  · exact op_lt
  · exact op_le
  · exact op_gt
  · exact op_ge
  · exact op_isN
  · exact op_notN
  · exact (op_inD hu).or (op_in_seq.or op_in_sign)
  · exact (op_notInD hu).or (op_notIn_seq.or op_notIn_sign)
theorem pe_cmp_ok (h : Cok X c sp) {op : COp} {o : CmpOp} {l r : Expr} {ta tb : TE} {pos : Pos} (ho : copB op o = true) (hs : notSet r = true) (ha : PE X l ta) (hb : PE X r tb) : PE X (.Compare l [o] [r] pos) (rdCmp X.K op ta tb) := by
  have hop := cop_ok (X := X) h.hu ho
  have base := pe_cmpR (pos := pos) hop ha hb (bim_ok hs)
  cases op <;> cases o <;> first | (cases ho; done) | exact base | skip
  · exact PE.or2 base (pe_cmp (pc_din (by have := h.hu; omega) ha hb) (bim_ok hs))
  · exact PE.or2 base (pe_cmp (pc_dnotin (by have := h.hu; omega) ha hb) (bim_ok hs))
theorem pt_cmp_ok (h : Cok X c sp) {op : COp} {o : CmpOp} {l r : Expr} {ta tb : TE} {pos : Pos} (ho : copB op o = true) (hs : notSet r = true) (ha : PE X l ta) (hb : PE X r tb) : PT X (.Compare l [o] [r] pos) (tB (rdCmp X.K op ta tb)) := by
  have hop := cop_ok (X := X) h.hu ho
  have base := pt_cmpR (pos := pos) hop ha hb (bim_ok hs)
  cases op <;> cases o <;> first | (cases ho; done) | exact base | skip
  · have q := PT.or2 base (pt_cmp (pos := pos) (pc_din (by have := h.hu; omega) ha hb) (bim_ok hs))
    exact ⟨fun pins s σ H Q I hw => q.run pins s σ H Q I hw⟩
  · have q := PT.or2 base (pt_cmp (pos := pos) (pc_dnotin (by have := h.hu; omega) ha hb) (bim_ok hs))
    exact ⟨fun pins s σ H Q I hw => q.run pins s σ H Q I hw⟩
theorem pw_of {op : BoolOp} {vs : List Expr} {pos : Pos} {t : TT} (h : PT X (.BoolOp op vs pos) t) : PW X (.BoolOp op vs pos) t := ⟨fun wh pins s σ H Q I hw => h.run pins s σ H Q I hw⟩
/-- names as targets -/
theorem pg_nm (h : Cok X c sp) {i : Nat} {e : Expr} (v : chkNm c i e = true) : PG X e (gName i) := by
  cases e <;> first | (simp only [chkNm] at v; cases v; done) | skip
  simp only [chkNm, Bool.and_eq_true] at v
  obtain ⟨l1, l2⟩ := h.loc v.2
  exact pg_name (by rw [h.N]; exact h.nd) (h.ix v.1) l1 l2
theorem pg_nms (h : Cok X c sp) : ∀ {is : List Nat} {es : List Expr}, chkNms c is es = true → PGs X es (rdG.rdGs is) ∧ (assignEach es X.env).length = is.length ∧ (assignEach es X.env).findIdx? (·.1) = none
  | [], [], _ => ⟨pgs_nil, rfl, rfl⟩
  | [], _ :: _, v => by simp only [chkNms] at v; cases v
  | _ :: _, [], v => by simp only [chkNms] at v; cases v
  | i :: is, e :: es, v => by
    simp only [chkNms, Bool.and_eq_true] at v
    obtain ⟨q1, q2, q3⟩ := pg_nms h v.2
    have g := pg_nm h v.1
    cases e <;> first | (simp only [chkNm] at v; cases v.1; done) | skip
    refine ⟨pgs_cons g q1, ?_, ?_⟩
    · show (assignEach es X.env).length + 1 = is.length + 1
      rw [q2]
    · show ((false, _) :: assignEach es X.env).findIdx? (·.1) = none
      rw [List.findIdx?_cons]
      simp only [Bool.false_eq_true, if_false]
      rw [q3]
      rfl
theorem pg_ok (h : Cok X c sp) {g : Tg} {e : Expr} (v : chkG c g e = true) : PG X e (rdG X.K g) := by
  cases g with
  | nm i => exact pg_nm h v
  | tp is =>
    cases e <;> first | (simp only [chkG] at v; cases v; done) | skip
    simp only [chkG] at v
    obtain ⟨q1, q2, q3⟩ := pg_nms h v
    exact pg_tup h.calm q1 q2 q3
end
end R

set_option linter.all false
set_option maxHeartbeats 4000000
set_option maxRecDepth 100000
namespace R
open PySem L2
/-- several, each by itself -/
def PLs (X : Cx) (sp : Nat → Sp) : List IE → List Expr → Prop
  | [], [] => True
  | e :: es, x :: xs => notStar x = true ∧ PE X x (rdE X.K sp e) ∧ PLs X sp es xs
  | _, _ => False
section
variable {X : Cx} {c : Cc} {sp : Nat → Sp}
theorem PLs.ns : ∀ {es : List IE} {xs : List Expr}, PLs X sp es xs → xs.all notStar = true
  | [], [], _ => rfl
  | [], _ :: _, h => h.elim
  | _ :: _, [], h => h.elim
  | e :: es, x :: xs, h => by
    obtain ⟨h1, _, h3⟩ := h
    simp only [List.all_cons, h1, PLs.ns h3, Bool.and_self]
theorem PLs.pa : ∀ {es : List IE} {xs : List Expr}, PLs X sp es xs → PA X xs (rdA X.K sp es)
  | [], [], _ => by simp only [rdA]; exact pa_nil
  | [], _ :: _, h => h.elim
  | _ :: _, [], h => h.elim
  | e :: es, x :: xs, h => by
    obtain ⟨h1, h2, h3⟩ := h
    simp only [rdA]
    exact pa_cons h2 h3.pa (star_ok h1)
theorem pe_never {e : Expr} : PE X e tNev := ⟨fun _ _ _ _ _ _ h => h.elim⟩
theorem pi_never {tg e : Expr} : PI X tg e (fun _ _ _ => False) := ⟨fun _ _ _ _ _ _ h => h.elim⟩
theorem bA {s : Str} (h : s ∈ biNames) : s ∈ biNames := h
/-- sources -/
theorem src_ok (h : Cok X c sp) {k : SK} {tg iter : Expr} {zs : List Expr} {src : List IE} (hs : srcArgs c k tg iter = some zs) (hp : PLs X sp src zs) : PI X tg iter (rdSrc X.K k (rdL X.K sp src) (rdA X.K sp src)) := by
  cases k with
  | seq =>
    simp only [srcArgs, Option.some.injEq] at hs
    subst hs
    match src, hp with
    | [e], hp =>
      simp only [rdL, rdSrc]
      exact PI.or2 (pi_list hp.2.1) (PI.or2 (pi_tup hp.2.1) (pi_str hp.2.1))
    | _ :: _ :: _, hp => exact hp.2.2.elim
  | keys =>
    simp only [srcArgs, Option.some.injEq] at hs
    subst hs
    match src, hp with
    | [e], hp =>
      simp only [rdL, rdSrc]
      exact pi_keys hp.2.1
    | _ :: _ :: _, hp => exact hp.2.2.elim
  | rng =>
    simp only [srcArgs] at hs
    split at hs
    · rename_i x p args pos
      split at hs
      · rename_i hc
        simp only [Option.some.injEq] at hs
        subst hs
        simp only [Bool.and_eq_true, decide_eq_true_eq] at hc
        obtain ⟨rfl, hg⟩ := hc
        have g := (h.glo hg).1
        have m := h.bi "range" (by decide)
        have pa := hp.pa
        have ns := hp.ns
        match args, src, hp with
        | [], [], _ => simp only [rdL, rdSrc]; exact pi_never
        | [a], [e], hp =>
          simp only [rdL, rdSrc]
          exact pi_range1 g m pa (star_ok hp.1)
        | [a, b], [e, f], hp =>
          simp only [rdL, rdSrc]
          exact pi_range2 g m pa (by rw [star_ok hp.1, star_ok hp.2.2.1]; rfl) (star_ok hp.2.2.1)
        | [a, b, d], [e, f, j], hp =>
          simp only [rdL, rdSrc]
          exact pi_range3 g m pa (star_ok hp.1) (any_ns (by have := hp.2.2.ns; exact this))
        | _ :: _ :: _ :: _ :: _, _ :: _ :: _ :: _ :: _, _ => simp only [rdL, rdSrc]; exact pi_never
      · cases hs
    · cases hs
  | enum =>
    simp only [srcArgs] at hs
    split at hs
    · rename_i x p y pos
      split at hs
      · rename_i hc
        simp only [Option.some.injEq] at hs
        subst hs
        simp only [Bool.and_eq_true, decide_eq_true_eq] at hc
        obtain ⟨⟨ht, rfl⟩, hg⟩ := hc
        cases tg <;> first | (cases ht; done) | skip
        match src, hp with
        | [e], hp =>
          simp only [rdL, rdSrc]
          exact PI.or2 (pi_enum (h.glo hg).1 (h.bi "enumerate" (by decide)) hp.pa (star_ok hp.1)) (pi_enumT (h.glo hg).1 (h.bi "enumerate" (by decide)) hp.pa (star_ok hp.1))
        | _ :: _ :: _, hp => exact hp.2.2.elim
      · cases hs
    · cases hs
  | zip =>
    simp only [srcArgs] at hs
    split at hs
    · rename_i x p y z pos
      split at hs
      · rename_i hc
        simp only [Option.some.injEq] at hs
        subst hs
        simp only [Bool.and_eq_true, decide_eq_true_eq] at hc
        obtain ⟨⟨ht, rfl⟩, hg⟩ := hc
        cases tg <;> first | (cases ht; done) | skip
        match src, hp with
        | [e, f], hp =>
          simp only [rdL, rdSrc]
          exact pi_zip (h.glo hg).1 (h.bi "zip" (by decide)) hp.pa (star_ok hp.1) (any_ns (by have := hp.2.2.ns; exact this))
        | [_], hp => exact hp.2.2.elim
        | _ :: _ :: _ :: _, hp => exact hp.2.2.2.2.elim
      · cases hs
    · cases hs
  | rev => simp only [srcArgs] at hs; cases hs
/-! ### len(set(xs)) -/
theorem firstMet_all (ns : List Int) : PyProof.Rows.firstMet (fun i => ns.getD i 0) ns.length = dedup ns := by
  unfold PyProof.Rows.firstMet dedup
  congr 1
  apply List.ext_getElem?
  intro i
  rw [List.getElem?_map]
  by_cases hi : i < ns.length
  · rw [List.getElem?_range hi, List.getElem?_eq_getElem hi]
    simp [List.getD_eq_getElem?_getD, hi]
  · rw [List.getElem?_eq_none (by simp; omega), List.getElem?_eq_none (by omega)]
    rfl
theorem pe_lenSet {a : Expr} {ta : TE} {p p2 q pos : Pos} (hc : X.calm = true) (hg : Gl X "len") (hm : X.mg "len" = none) (hg2 : Gl X "set") (hm2 : X.mg "set" = none) (ha : PE X a ta)
    (na : starEach [a] X.env = (false, eval a X.env) :: starEach [] X.env) : PE X (.Call (.Name "len" p) [.Call (.Name "set" p2) [a] [] q] [] pos) (tLenSet X.K ta) := by
  refine ⟨fun pins s σ H Q I hw => PyProof.Rows.Call_ (ld_blt I hg hm PySem.boot_len (PyProof.Rows.callWith_builtin1 (PyProof.Rows.args_cons ?_ rfl) rfl rfl))⟩
  refine PyProof.Rows.Call_ (ld_blt I hg2 hm2 PyProof.Rows.boot_set (PyProof.Rows.callWith_type1 (PyProof.Rows.args_cons (thn (ha.run pins s σ H _ I hw) ?_) na) na rfl))
  intro v s1 w1
  obtain ⟨x, H1, J, rx, l, ns, rfl, sq, small, fin⟩ := w1
  refine PyProof.Rows.args_nil ?_
  cases rx
  obtain ⟨vs, rv, isl, _⟩ := J.list sq
  have sz : vs.toArray.size = ns.length := by rw [List.size_toArray, ← rv.length, List.length_map]
  refine PySem.call_set_list (ns := ns) (J.ok.hd hc) isl.isList (by simpa using rv.ints) (by unfold PySem.scanBound; omega) ?_
  intro h' tk so keep
  rw [sz, firstMet_all] at so
  obtain ⟨o, es, ep, t, ho, hex, hd, _, _, _, hf, hn⟩ := so
  have bd : (dedup ns).length ≤ ns.length := by
    rw [← firstMet_all]
    exact PyProof.Rows.firstMet_length_le _ _
  have J2 : Inv X pins σ H1 { s1 with heap := h', toks := tk } := J.kept fun b o e => keep b o (Heap.lt_size e) e
  exact PyProof.Rows.args_nil (PySem.call_len_set ho hex hd hf (by rw [hn] <;> omega) ⟨.int (dedup ns).length, H1, J2.tok _, ⟨_, by rw [hn]⟩, fin⟩)
/-! ### built-ins -/
theorem boot_all : bootBuiltins "all" = some (.builtin "all") := by rfl
theorem boot_max : bootBuiltins "max" = some (.builtin "max") := by rfl
theorem boot_min : bootBuiltins "min" = some (.builtin "min") := by rfl
theorem boot_sorted : bootBuiltins "sorted" = some (.builtin "sorted") := by rfl
theorem boot_sum : bootBuiltins "sum" = some (.builtin "sum") := by rfl
theorem boot_isi : bootBuiltins "isinstance" = some (.builtin "isinstance") := by rfl
theorem pe_isi (h : Cok X c sp) {a : Expr} {ta : TE} {t : String} {p p2 pos : Pos} (hb : bootBuiltins t = some (.type t)) (hi : (t : Str) ∈ biNames) (hn : (t : Str) ≠ "__name__") (gi : glB c "isinstance" = true) (gt : glB c t = true) (ha : PE X a ta) (na : notStar a = true) : PE X (.Call (.Name "isinstance" p) [a, .Name t p2] [] pos) (tCB (rIsi X.K) (tCons ta (tCons (tC (.ty t)) tNil))) := by
  have g := h.glo gt
  have pt : PE X (.Name t p2) (tC (.ty t)) := pe_bltn g.1 (h.bi _ hi) hb rfl hn g.2
  exact pe_callB call_isi (h.glo gi).1 (h.bi "isinstance" (by decide)) boot_isi (pa_cons ha (pa_cons pt pa_nil (star_ok rfl)) (star_ok na)) (he := star_ok na) (hpl := any_ns rfl)
theorem pa2 {e f : IE} {a b : Expr} (hp : PLs X sp [e, f] [a, b]) : PA X [a, b] (rdA X.K sp [e, f]) := hp.pa
theorem bi_ok (h : Cok X c sp) {b : BI} {x : Str} {p pos : Pos} {args zs : List Expr} {es : List IE} (hb : biArgs c b x args = some zs) (hp : PLs X sp es zs) : PE X (.Call (.Name x p) args [] pos) (rdBi X.K b (rdL X.K sp es) (rdA X.K sp es)) := by
  unfold biArgs at hb
  split at hb
  case isFalse => cases hb
  rename_i hg
  cases b <;> simp only [biPl, Bool.false_and, Bool.true_and, if_false, reduceCtorEq, Bool.false_eq_true] at hb
  case len =>
    split at hb
    case isFalse => cases hb
    rename_i hx
    cases hb
    replace hx := of_decide_eq_true hx
    simp only [biNm] at hx
    subst hx
    match es, args, hp with
    | [], [], hp => simp only [rdL, rdBi]; exact pe_never
    | _ :: _ :: _, _ :: _ :: _, hp => simp only [rdL, rdBi]; exact pe_never
    | [e], [a], hp =>
      simp only [rdL, rdBi]
      exact pe_callB call_len (h.glo hg).1 (h.bi "len" (by decide)) PySem.boot_len hp.pa (he := star_ok hp.1) (hpl := any_ns rfl)
  case tuple =>
    split at hb
    case isFalse => cases hb
    rename_i hx
    cases hb
    replace hx := of_decide_eq_true hx
    simp only [biNm] at hx
    subst hx
    match es, args, hp with
    | [], [], hp => simp only [rdL, rdBi]; exact pe_never
    | _ :: _ :: _, _ :: _ :: _, hp => simp only [rdL, rdBi]; exact pe_never
    | [e], [a], hp =>
      simp only [rdL, rdBi]
      exact pe_tupleOf (h.glo hg).1 (h.bi "tuple" (by decide)) hp.2.1 (star_ok hp.1)
  case list =>
    split at hb
    case isFalse => cases hb
    rename_i hx
    cases hb
    replace hx := of_decide_eq_true hx
    simp only [biNm] at hx
    subst hx
    match es, args, hp with
    | [], [], hp => simp only [rdL, rdBi]; exact pe_never
    | _ :: _ :: _, _ :: _ :: _, hp => simp only [rdL, rdBi]; exact pe_never
    | [e], [a], hp =>
      simp only [rdL, rdBi]
      exact pe_callTy call_list_of (h.glo hg).1 (h.bi "list" (by decide)) PyProof.Rows.boot_list hp.pa (he := star_ok hp.1) (hpl := any_ns rfl)
  case int =>
    split at hb
    case isFalse => cases hb
    rename_i hx
    cases hb
    replace hx := of_decide_eq_true hx
    simp only [biNm] at hx
    subst hx
    match es, args, hp with
    | [], [], hp => simp only [rdL, rdBi]; exact pe_never
    | _ :: _ :: _, _ :: _ :: _, hp => simp only [rdL, rdBi]; exact pe_never
    | [e], [a], hp =>
      simp only [rdL, rdBi]
      exact pe_callTy (call_int1.or call_int_str) (h.glo hg).1 (h.bi "int" (by decide)) PyProof.Rows.boot_int hp.pa (he := star_ok hp.1) (hpl := any_ns rfl)
  case str =>
    split at hb
    case isFalse => cases hb
    rename_i hx
    cases hb
    replace hx := of_decide_eq_true hx
    simp only [biNm] at hx
    subst hx
    match es, args, hp with
    | [], [], hp => simp only [rdL, rdBi]; exact pe_never
    | _ :: _ :: _, _ :: _ :: _, hp => simp only [rdL, rdBi]; exact pe_never
    | [e], [a], hp =>
      simp only [rdL, rdBi]
      exact pe_callTy call_str_int (h.glo hg).1 (h.bi "str" (by decide)) PyProof.Rows.boot_str hp.pa (he := star_ok hp.1) (hpl := any_ns rfl)
  case all =>
    split at hb
    case isFalse => cases hb
    rename_i hx
    cases hb
    replace hx := of_decide_eq_true hx
    simp only [biNm] at hx
    subst hx
    match es, args, hp with
    | [], [], hp => simp only [rdL, rdBi]; exact pe_never
    | _ :: _ :: _, _ :: _ :: _, hp => simp only [rdL, rdBi]; exact pe_never
    | [e], [a], hp =>
      simp only [rdL, rdBi]
      exact pe_callB (cr_all h.calm) (h.glo hg).1 (h.bi "all" (by decide)) boot_all hp.pa (he := star_ok hp.1) (hpl := any_ns rfl)
  case sorted =>
    split at hb
    case isFalse => cases hb
    rename_i hx
    cases hb
    replace hx := of_decide_eq_true hx
    simp only [biNm] at hx
    subst hx
    match es, args, hp with
    | [], [], hp => simp only [rdL, rdBi]; exact pe_never
    | _ :: _ :: _, _ :: _ :: _, hp => simp only [rdL, rdBi]; exact pe_never
    | [e], [a], hp =>
      simp only [rdL, rdBi]
      exact pe_callB (cr_sortedI.or cr_sortedPO) (h.glo hg).1 (h.bi "sorted" (by decide)) boot_sorted hp.pa (he := star_ok hp.1) (hpl := any_ns rfl)
  case sum =>
    split at hb
    case isFalse => cases hb
    rename_i hx
    cases hb
    replace hx := of_decide_eq_true hx
    simp only [biNm] at hx
    subst hx
    match es, args, hp with
    | [], [], hp => simp only [rdL, rdBi]; exact pe_never
    | _ :: _ :: _, _ :: _ :: _, hp => simp only [rdL, rdBi]; exact pe_never
    | [e], [a], hp =>
      simp only [rdL, rdBi]
      exact pe_callB (cr_sum h.calm) (h.glo hg).1 (h.bi "sum" (by decide)) boot_sum hp.pa (he := star_ok hp.1) (hpl := any_ns rfl)
  case max =>
    split at hb
    case isFalse => cases hb
    rename_i hx
    cases hb
    replace hx := of_decide_eq_true hx
    simp only [biNm] at hx
    subst hx
    match es, args, hp with
    | [], [], hp => simp only [rdL, rdBi]; exact pe_never
    | _ :: _ :: _ :: _, _ :: _ :: _ :: _, hp => simp only [rdL, rdBi]; exact pe_never
    | [e, f], [a, b], hp =>
      simp only [rdL, rdBi]
      exact pe_callB ((call_max2 h.calm).or (cr_max h.calm)) (h.glo hg).1 (h.bi "max" (by decide)) boot_max hp.pa (he := star_ok hp.1) (hpl := any_ns (by have := hp.2.2.ns; exact this))
    | [e], [a], hp =>
      simp only [rdL, rdBi]
      exact pe_callB ((call_max2 h.calm).or (cr_max h.calm)) (h.glo hg).1 (h.bi "max" (by decide)) boot_max hp.pa (he := star_ok hp.1) (hpl := any_ns rfl)
  case min =>
    split at hb
    case isFalse => cases hb
    rename_i hx
    cases hb
    replace hx := of_decide_eq_true hx
    simp only [biNm] at hx
    subst hx
    match es, args, hp with
    | [], [], hp => simp only [rdL, rdBi]; exact pe_never
    | _ :: _ :: _ :: _, _ :: _ :: _ :: _, hp => simp only [rdL, rdBi]; exact pe_never
    | [e, f], [a, b], hp =>
      simp only [rdL, rdBi]
      exact pe_callB ((call_min2 h.calm).or (cr_min h.calm)) (h.glo hg).1 (h.bi "min" (by decide)) boot_min hp.pa (he := star_ok hp.1) (hpl := any_ns (by have := hp.2.2.ns; exact this))
    | [e], [a], hp =>
      simp only [rdL, rdBi]
      exact pe_callB ((call_min2 h.calm).or (cr_min h.calm)) (h.glo hg).1 (h.bi "min" (by decide)) boot_min hp.pa (he := star_ok hp.1) (hpl := any_ns rfl)
  case lenset =>
    split at hb
    · split at hb
      · rename_i y p2 z q hc
        cases hb
        simp only [Bool.and_eq_true, decide_eq_true_eq] at hc
        obtain ⟨⟨rfl, rfl⟩, hg2⟩ := hc
        match es, hp with
        | [e], hp =>
          simp only [rdL, rdBi]
          exact pe_lenSet h.calm (h.glo hg).1 (h.bi "len" (by decide)) (h.glo hg2).1 (h.bi "set" (by decide)) hp.2.1 (star_ok hp.1)
        | _ :: _ :: _, hp => exact hp.2.2.elim
      · cases hb
    · cases hb
  case isBool =>
    split at hb
    · split at hb
      · rename_i z t p2 hc
        cases hb
        simp only [Bool.and_eq_true, decide_eq_true_eq] at hc
        obtain ⟨⟨rfl, rfl⟩, hg2⟩ := hc
        match es, hp with
        | [e], hp =>
          simp only [rdL, rdBi]
          exact pe_isi h PyProof.Rows.boot_bool (by decide) (by decide) hg hg2 hp.2.1 hp.1
        | _ :: _ :: _, hp => exact hp.2.2.elim
      · cases hb
    · cases hb
  case isInt =>
    split at hb
    · split at hb
      · rename_i z t p2 hc
        cases hb
        simp only [Bool.and_eq_true, decide_eq_true_eq] at hc
        obtain ⟨⟨rfl, rfl⟩, hg2⟩ := hc
        match es, hp with
        | [e], hp =>
          simp only [rdL, rdBi]
          exact pe_isi h PyProof.Rows.boot_int (by decide) (by decide) hg hg2 hp.2.1 hp.1
        | _ :: _ :: _, hp => exact hp.2.2.elim
      · cases hb
    · cases hb
  case isStr =>
    split at hb
    · split at hb
      · rename_i z t p2 hc
        cases hb
        simp only [Bool.and_eq_true, decide_eq_true_eq] at hc
        obtain ⟨⟨rfl, rfl⟩, hg2⟩ := hc
        match es, hp with
        | [e], hp =>
          simp only [rdL, rdBi]
          exact pe_isi h PyProof.Rows.boot_str (by decide) (by decide) hg hg2 hp.2.1 hp.1
        | _ :: _ :: _, hp => exact hp.2.2.elim
      · cases hb
    · cases hb
  case isList =>
    split at hb
    · split at hb
      · rename_i z t p2 hc
        cases hb
        simp only [Bool.and_eq_true, decide_eq_true_eq] at hc
        obtain ⟨⟨rfl, rfl⟩, hg2⟩ := hc
        match es, hp with
        | [e], hp =>
          simp only [rdL, rdBi]
          exact pe_isi h PyProof.Rows.boot_list (by decide) (by decide) hg hg2 hp.2.1 hp.1
        | _ :: _ :: _, hp => exact hp.2.2.elim
      · cases hb
    · cases hb
  case isTuple =>
    split at hb
    · split at hb
      · rename_i z t p2 hc
        cases hb
        simp only [Bool.and_eq_true, decide_eq_true_eq] at hc
        obtain ⟨⟨rfl, rfl⟩, hg2⟩ := hc
        match es, hp with
        | [e], hp =>
          simp only [rdL, rdBi]
          exact pe_isi h PyProof.Rows.boot_tuple (by decide) (by decide) hg hg2 hp.2.1 hp.1
        | _ :: _ :: _, hp => exact hp.2.2.elim
      · cases hb
    · cases hb
  case tupRange =>
    split at hb
    · split at hb
      · rename_i hc
        cases hb
        simp only [Bool.and_eq_true, decide_eq_true_eq] at hc
        obtain ⟨⟨rfl, rfl⟩, hg2⟩ := hc
        have g2 := (h.glo hg2).1
        have m2 := h.bi "range" (by decide)
        match es, zs, hp with
        | [], [], hp => simp only [rdL, rdBi]; exact pe_never
        | _ :: _ :: _ :: _, _ :: _ :: _ :: _, hp => simp only [rdL, rdBi]; exact pe_never
        | [e], [a], hp =>
          simp only [rdL, rdBi]
          exact pe_tupRg h.calm (h.glo hg).1 (h.bi "tuple" (by decide)) (prg_1 g2 m2 hp.2.1 (star_ok hp.1)) (star_ok rfl)
        | [e, f], [a, b], hp =>
          simp only [rdL, rdBi]
          exact pe_tupRg h.calm (h.glo hg).1 (h.bi "tuple" (by decide)) (prg_2 g2 m2 hp.2.1 hp.2.2.2.1 (star_ok hp.1) (star_ok hp.2.2.1) (any_ns (by have := hp.2.2.ns; exact this))) (star_ok rfl)
      · cases hb
    · cases hb
  case lstRange =>
    split at hb
    · split at hb
      · rename_i hc
        cases hb
        simp only [Bool.and_eq_true, decide_eq_true_eq] at hc
        obtain ⟨⟨rfl, rfl⟩, hg2⟩ := hc
        have g2 := (h.glo hg2).1
        have m2 := h.bi "range" (by decide)
        match es, zs, hp with
        | [], [], hp => simp only [rdL, rdBi]; exact pe_never
        | _ :: _ :: _ :: _, _ :: _ :: _ :: _, hp => simp only [rdL, rdBi]; exact pe_never
        | [e], [a], hp =>
          simp only [rdL, rdBi]
          exact pe_listRg h.calm (h.glo hg).1 (h.bi "list" (by decide)) (prg_1 g2 m2 hp.2.1 (star_ok hp.1)) (star_ok rfl)
        | [e, f], [a, b], hp =>
          simp only [rdL, rdBi]
          exact pe_listRg h.calm (h.glo hg).1 (h.bi "list" (by decide)) (prg_2 g2 m2 hp.2.1 hp.2.2.2.1 (star_ok hp.1) (star_ok hp.2.2.1) (any_ns (by have := hp.2.2.ns; exact this))) (star_ok rfl)
      · cases hb
    · cases hb
end
end R

set_option linter.all false
set_option maxHeartbeats 4000000
set_option maxRecDepth 100000
namespace R
open PySem L2
def PLo (X : Cx) (sp : Nat → Sp) : Option IE → Option Expr → Prop
  | none, none => True
  | some e, some x => PE X x (rdE X.K sp e)
  | _, _ => False
section
variable {X : Cx} {c : Cc} {sp : Nat → Sp}
theorem call_ok (h : Cok X c sp) {f : Nat} {x : Str} {p pos : Pos} {args : List Expr} {es : List IE} (hf : decide ((x, f) ∈ c.fns) = true) (hg : glB c x = true) (hp : PLs X sp es args) : PE X (.Call (.Name x p) args [] pos) (tCall (sp f) [] E0 (rdA X.K sp es)) := by
  obtain ⟨k, a, fd, ps, F, hr, hm, hk, hb⟩ := h.calls _ (of_decide_eq_true hf)
  have g := h.glo hg
  match es, args, hp with
  | [], [], hp =>
    simp only [rdA]
    exact pe_call0 F hr g.1 hm hk hb .nil pass0 g.2
  | e :: es, y :: ys, hp => exact pe_call F hr g.1 hm hk hb .nil pass0 hp.pa g.2 (star_ok hp.1) (any_ns (by have := hp.2.2.ns; exact this))
theorem mt_ok (h : Cok X c sp) {m : MI} {nm : Str} {o : Expr} {oe : IE} {apos cpos : Pos} {args : List Expr} {es : List IE} (hl : (apos.endLine == cpos.line) = true) (hn : notCall o = true) (ho : PE X o (rdE X.K sp oe)) (hp : PLs X sp es args)
    (hm : (match m with
      | .get => decide (nm = "get") && decide (args.length = 2)
      | .join => decide (nm = "join") && decide (args.length = 1)
      | .split => decide (nm = "split") && decide (args.length = 1)
      | _ => false) = true) : PE X (.Call (.Attribute o nm apos) args [] cpos) (rdMt X.K m (rdE X.K sp oe) (rdL X.K sp es) (rdA X.K sp es)) := by
  cases m <;> simp only [Bool.false_eq_true] at hm
  case join =>
    simp only [Bool.and_eq_true, decide_eq_true_eq] at hm
    obtain ⟨rfl, hlen⟩ := hm
    match es, args, hp with
    | [e], [a], hp =>
      simp only [rdL, rdMt]
      exact pe_join ho hp.2.1 (star_ok hp.1) (base_ok hn) hl
    | [], [], hp => simp only [rdL, rdMt]; exact pe_never
    | _ :: _ :: _, _ :: _ :: _, hp => simp only [rdL, rdMt]; exact pe_never
  case split =>
    simp only [Bool.and_eq_true, decide_eq_true_eq] at hm
    obtain ⟨rfl, hlen⟩ := hm
    match es, args, hp with
    | [e], [a], hp =>
      simp only [rdL, rdMt]
      exact pe_split ho hp.2.1 (star_ok hp.1) (base_ok hn) hl
    | [], [], hp => simp only [rdL, rdMt]; exact pe_never
    | _ :: _ :: _, _ :: _ :: _, hp => simp only [rdL, rdMt]; exact pe_never
  case get =>
    simp only [Bool.and_eq_true, decide_eq_true_eq] at hm
    obtain ⟨rfl, hlen⟩ := hm
    match es, args, hp with
    | [e, f], [a, b], hp =>
      simp only [rdL, rdMt]
      refine pe_dget2 (by have := h.hu; omega) ho hp.2.1 hp.2.2.2.1 ⟨base_ok hn, ?_, hl, ?_⟩
      · rw [all_ns hp.ns]
        rfl
      · rw [star_ok hp.1, star_ok hp.2.2.1]
        rfl
    | [], [], hp => simp only [rdL, rdMt]; exact pe_never
    | [_], [_], hp => simp only [rdL, rdMt]; exact pe_never
    | _ :: _ :: _ :: _, _ :: _ :: _ :: _, hp => simp only [rdL, rdMt]; exact pe_never
end
section
variable {sp : Nat → Sp}
theorem pe_lit {X : Cx} {d : Int} {w : Expr} (v : litI d w = true) : PE X w (tC (.int d)) := by
  unfold litI at v
  split at v
  · cases of_decide_eq_true v
    exact pe_int
  · cases of_decide_eq_true v
    rename_i j kk p1 p2
    have b : PE X (.UnaryOp .USub (.Constant (.int j) kk p1) p2) (tUn (rU fun i => .int (-i)) (tC (.int j))) := pe_un un_neg pe_int
    exact ⟨fun pins s σ H Q I hw => b.run pins s σ H Q I ⟨_, rfl, hw⟩⟩
  · cases v
theorem maxd_ok {X : Cx} {c : Cc} {sp : Nat → Sp} (h : Cok X c sp) {d : Int} {es : List IE} {args : List Expr} {p pos kp : Pos} {w : Expr} (g : glB c "max" = true) (v : litI d w = true) (hl : args.length = 1) (hp : PLs X sp es args) :
    PE X (.Call (.Name "max" p) args [⟨some "default", w, kp⟩] pos) (rdE X.K sp (.bi (.maxd d) es)) := by
  match es, args, hp with
  | [], [], hp => cases hl
  | _ :: _ :: _, _ :: _ :: _, hp => cases hl
  | [e], [a], hp =>
    simp only [rdE, rdL, rdBi]
    exact pe_callBK (cr_maxDef h.calm h.hu) (h.glo g).1 (h.bi "max" (by decide)) boot_max hp.pa (pk_cons (pe_lit v) pk_nil) (he := by rw [star_ok hp.1] <;> rfl) (hpl := by rw [star_ok hp.1] <;> rfl)
mutual
theorem pe : ∀ (e : IE) {X : Cx} {c : Cc} (h : Cok X c sp) (x : Expr), chkE c e x = true → PE X x (rdE X.K sp e)
  | .var i, X, c, h, x, v => by
    unfold chkE at v
    split at v
    · rename_i y p
      simp only [Bool.and_eq_true] at v
      simp only [rdE]
      exact pe_var (h.ix v.1) (h.vis v.2).1 (h.vis v.2).2.1 (h.vis v.2).2.2
    · cases v
  | .int i, X, c, h, x, v => by
    unfold chkE at v
    split at v
    · cases of_decide_eq_true v
      simp only [rdE]
      exact pe_int
    · cases v
  | .bl i, X, c, h, x, v => by
    unfold chkE at v
    split at v
    · cases of_decide_eq_true v
      simp only [rdE]
      exact pe_bl
    · cases v
  | .non, X, c, h, x, v => by
    unfold chkE at v
    split at v
    · simp only [rdE]
      exact pe_non
    · cases v
  | .str i, X, c, h, x, v => by
    unfold chkE at v
    split at v
    · cases of_decide_eq_true v
      simp only [rdE]
      exact pe_str
    · cases v
  | .glb i d, X, c, h, x, v => by
    unfold chkE at v
    split at v
    · rename_i y p
      simp only [Bool.and_eq_true, List.any_eq_true, decide_eq_true_eq] at v
      obtain ⟨⟨rfl, v2⟩, p, hp, rfl, e⟩ := v
      obtain ⟨u, m, r⟩ := h.gl p hp
      have g := h.glo v2
      simp only [rdE]
      rw [e] at r
      exact pe_glob g.1 m r g.2
    · cases v
  | .bin op a b, X, c, h, x, v => by
    unfold chkE at v
    split at v
    · rename_i l o r p
      simp only [Bool.and_eq_true] at v
      simp only [rdE]
      exact pe_op (op_ok v.1.1) (pe a h l v.1.2) (pe b h r v.2)
    · cases v
  | .cmp op a b, X, c, h, x, v => by
    unfold chkE at v
    split at v
    · rename_i l o r p
      simp only [Bool.and_eq_true] at v
      simp only [rdE]
      exact pe_cmp_ok h v.1.1.1 v.1.1.2 (pe a h l v.1.2) (pe b h r v.2)
    · cases v
  | .chain op op' a b d, X, c, h, x, v => by
    unfold chkE at v
    split at v
    · rename_i l o o' r r' p
      simp only [Bool.and_eq_true] at v
      obtain ⟨⟨⟨⟨⟨⟨v1, v2⟩, v3⟩, v4⟩, v5⟩, v6⟩, v7⟩ := v
      simp only [rdE]
      exact pe_chain (cop_ok h.hu v1) (cop_ok h.hu v2) (pe a h l v5) (pe b h r v6) (pe d h r' v7) (lm_ok v4)
    · cases v
  | .and a b, X, c, h, x, v => by
    unfold chkE at v
    split at v
    · rename_i l r rest p
      simp only [Bool.and_eq_true] at v
      obtain ⟨v1, v2⟩ := v
      simp only [rdE]
      split at v2
      · exact pe_andT (pe a h l v1) (pe_one (pe b h r v2))
      · exact pe_andT (pe a h l v1) (pe b h _ v2)
    · cases v
  | .or a b, X, c, h, x, v => by
    unfold chkE at v
    split at v
    · rename_i l r rest p
      simp only [Bool.and_eq_true] at v
      obtain ⟨v1, v2⟩ := v
      simp only [rdE]
      split at v2
      · exact pe_orT (pe a h l v1) (pe_one (pe b h r v2))
      · exact pe_orT (pe a h l v1) (pe b h _ v2)
    · cases v
  | .not a, X, c, h, x, v => by
    unfold chkE at v
    split at v
    · rename_i l p
      simp only [rdE]
      exact pe_notT (pe a h l v)
    · cases v
  | .neg a, X, c, h, x, v => by
    unfold chkE at v
    split at v
    · rename_i l p
      simp only [rdE]
      exact pe_un un_neg (pe a h l v)
    · cases v
  | .ifx t a b, X, c, h, x, v => by
    unfold chkE at v
    split at v
    · rename_i l y z p
      simp only [Bool.and_eq_true] at v
      simp only [rdE]
      exact pe_ifExp (pt t h l v.1.1) (pe a h y v.1.2) (pe b h z v.2)
    · cases v
  | .tup es, X, c, h, x, v => by
    unfold chkE at v
    split at v
    · simp only [rdE]
      exact pe_tup (pls es h _ v).pa
    · cases v
  | .lst es, X, c, h, x, v => by
    unfold chkE at v
    split at v
    · simp only [rdE]
      exact pe_lst (pls es h _ v).pa
    · cases v
  | .ix a b, X, c, h, x, v => by
    unfold chkE at v
    split at v
    · rename_i l i p
      simp only [Bool.and_eq_true] at v
      simp only [rdE]
      have ha := pe a h l v.1.2
      have hb := pe b h i v.2
      exact PE.or2 (pe_ix ix_seq ha hb (sub_ok v.1.1)) (pe_dget (by have := h.hu; omega) ha hb (sub_ok v.1.1))
    · cases v
  | .slc a lo hi, X, c, h, x, v => by
    unfold chkE at v
    split at v
    · rename_i l lo' hi' p1 p2
      simp only [Bool.and_eq_true] at v
      simp only [rdE]
      exact pe_slice (sl_list.or (sl_tupA.or sl_str)) (pe a h l v.1.1) (po lo h _ v.1.2) (po hi h _ v.2)
    · cases v
  | .call f es, X, c, h, x, v => by
    unfold chkE at v
    split at v
    · rename_i y p args pos
      simp only [Bool.and_eq_true] at v
      simp only [rdE]
      exact call_ok h v.1.1 v.1.2 (pls es h _ v.2)
    · cases v
  | .bi b es, X, c, h, x, v => by
    unfold chkE at v
    split at v
    · rename_i y p args kws pos
      split at v
      · simp only [Bool.and_eq_true] at v
        obtain ⟨v1, v2⟩ := v
        obtain ⟨zs, e⟩ := Option.isSome_iff_exists.mp v1
        rw [e, Option.getD_some] at v2
        simp only [rdE]
        exact bi_ok h e (pls es h _ v2)
      · rename_i kn w kp
        rw [Bool.and_eq_true] at v
        obtain ⟨v1, v2⟩ := v
        cases b with
        | maxd d =>
          simp only [Bool.and_eq_true, decide_eq_true_eq] at v1
          obtain ⟨⟨⟨⟨rfl, v4⟩, rfl⟩, v5⟩, v6⟩ := v1
          exact maxd_ok h v4 v5 v6 (pls es h _ v2)
        | _ => cases v1
      · cases v
    · cases v
  | .mt m o es, X, c, h, x, v => by
    unfold chkE at v
    split at v
    · rename_i y nm apos args cpos
      simp only [Bool.and_eq_true] at v
      obtain ⟨⟨⟨⟨v1, v2⟩, v3⟩, v4⟩, v5⟩ := v
      simp only [rdE]
      exact mt_ok h v1 v2 (pe o h _ v3) (pls es h _ v4) v5
    · cases v
  | .lc elt g k src ifs, X, c, h, x, v => by
    unfold chkE at v
    split at v
    · rename_i el tg iter ts scope p
      simp only [Bool.and_eq_true] at v
      obtain ⟨⟨⟨⟨⟨⟨v1, v2⟩, v3⟩, v4⟩, v5⟩, v6⟩, v7⟩ := v
      obtain ⟨zs, e⟩ := Option.isSome_iff_exists.mp v2
      rw [e, Option.getD_some] at v3
      have hs := src_ok h e (pls src h _ v3)
      have ow : (ownOf c g).map (·.2) = tgS g := by
        unfold ownOf
        rw [List.map_map]
        exact List.map_id _
      have blk : BlkOk X.N X.env.scope scope (ownOf c g) := by
        rw [h.N, h.sc]
        exact blkOk_by v4
      have base := pe_lc (pos := p) (g := rdG X.K g) (tt := rdI X.K sp ifs) (te := rdE X.K sp elt) h.calm (by rw [h.N]; exact h.nd) hs blk (fun s H C cl fp => pg_ok (h.blk s H scope C cl fp) v5) (fun s H C cl fp => pis ifs (h.blk s H scope C cl fp) _ v6) (fun s H C cl fp => pe elt (h.blk s H scope C cl fp) _ v7) (fsi_ok v1)
      rw [ow] at base
      cases k <;> first | (simp only [rdE]; exact base) | (simp only [rdE]; exact PE.or2 (pe_lock base) base)
    · cases v
  | .dnew t, X, c, h, x, v => by
    unfold chkE at v
    split at v
    · simp only [rdE]
      cases t
      · exact pe_dnewK
      · exact pe_dnewT
    · cases v
  | .disp _ _ _, X, c, h, x, v => by
    unfold chkE at v
    cases v
theorem pt : ∀ (e : IE) {X : Cx} {c : Cc} (h : Cok X c sp) (x : Expr), chkT c e x = true → PT X x (rdT X.K sp e)
  | .cmp op a b, X, c, h, x, v => by
    unfold chkT at v
    split at v
    · rename_i l o r p
      simp only [Bool.and_eq_true] at v
      simp only [rdT]
      exact pt_cmp_ok h v.1.1.1 v.1.1.2 (pe a h l v.1.2) (pe b h r v.2)
    · cases v
  | .chain op op' a b d, X, c, h, x, v => by
    unfold chkT at v
    split at v
    · rename_i l o o' r r' p
      simp only [Bool.and_eq_true] at v
      obtain ⟨⟨⟨⟨⟨⟨v1, v2⟩, v3⟩, v4⟩, v5⟩, v6⟩, v7⟩ := v
      simp only [rdT]
      exact pt_chain (cop_ok h.hu v1) (cop_ok h.hu v2) (pe a h l v5) (pe b h r v6) (pe d h r' v7) (lm_ok v4)
    · cases v
  | .and a b, X, c, h, x, v => by
    unfold chkT at v
    split at v
    · rename_i l r rest p
      simp only [Bool.and_eq_true] at v
      obtain ⟨v1, v2⟩ := v
      simp only [rdT]
      split at v2
      · exact (pw_and (pt a h l v1) (pw_and1 (pt b h r v2))).pt
      · exact (pw_and (pt a h l v1) (pw_of (pt b h _ v2))).pt
    · cases v
  | .or a b, X, c, h, x, v => by
    unfold chkT at v
    split at v
    · rename_i l r rest p
      simp only [Bool.and_eq_true] at v
      obtain ⟨v1, v2⟩ := v
      simp only [rdT]
      split at v2
      · exact (pw_or (pt a h l v1) (pw_or1 (pt b h r v2))).pt
      · exact (pw_or (pt a h l v1) (pw_of (pt b h _ v2))).pt
    · cases v
  | .not a, X, c, h, x, v => by
    unfold chkT at v
    split at v
    · rename_i l p
      simp only [rdT]
      exact pt_not (pt a h l v)
    · cases v
  | .var i, X, c, h, x, v => by
    unfold chkT at v
    split at v
    · rename_i y p
      simp only [Bool.and_eq_true] at v
      simp only [rdT]
      exact pt_truth (pe_var (h.ix v.1) (h.vis v.2).1 (h.vis v.2).2.1 (h.vis v.2).2.2) (fun _ => rfl)
    · cases v
  | .int i, X, c, h, x, v => by
    unfold chkT at v
    split at v
    · cases of_decide_eq_true v
      simp only [rdT]
      exact pt_truth pe_int (fun _ => rfl)
    · cases v
  | .bl i, X, c, h, x, v => by
    unfold chkT at v
    split at v
    · cases of_decide_eq_true v
      simp only [rdT]
      exact pt_truth pe_bl (fun _ => rfl)
    · cases v
  | .ix a b, X, c, h, x, v => by
    unfold chkT at v
    split at v
    · rename_i l i p
      simp only [Bool.and_eq_true] at v
      simp only [rdT]
      have ha := pe a h l v.1.2
      have hb := pe b h i v.2
      exact pt_truth (PE.or2 (pe_ix ix_seq ha hb (sub_ok v.1.1)) (pe_dget (by have := h.hu; omega) ha hb (sub_ok v.1.1))) (fun _ => rfl)
    · cases v
  | .call f es, X, c, h, x, v => by
    unfold chkT at v
    split at v
    · rename_i y p args pos
      simp only [Bool.and_eq_true] at v
      simp only [rdT]
      exact pt_truth (call_ok h v.1.1 v.1.2 (pls es h _ v.2)) (fun _ => rfl)
    · cases v
  | .bi b es, X, c, h, x, v => by
    unfold chkT at v
    split at v
    · rename_i y p args pos
      simp only [Bool.and_eq_true] at v
      obtain ⟨v1, v2⟩ := v
      obtain ⟨zs, e⟩ := Option.isSome_iff_exists.mp v1
      rw [e, Option.getD_some] at v2
      simp only [rdT]
      exact pt_truth (bi_ok h e (pls es h _ v2)) (fun _ => rfl)
    · cases v
  | .non, X, c, h, x, v => by simp only [chkT] at v; cases v
  | .str _, X, c, h, x, v => by simp only [chkT] at v; cases v
  | .glb _ _, X, c, h, x, v => by simp only [chkT] at v; cases v
  | .bin _ _ _, X, c, h, x, v => by simp only [chkT] at v; cases v
  | .neg _, X, c, h, x, v => by simp only [chkT] at v; cases v
  | .ifx _ _ _, X, c, h, x, v => by simp only [chkT] at v; cases v
  | .tup _, X, c, h, x, v => by simp only [chkT] at v; cases v
  | .lst _, X, c, h, x, v => by simp only [chkT] at v; cases v
  | .slc _ _ _, X, c, h, x, v => by simp only [chkT] at v; cases v
  | .mt _ _ _, X, c, h, x, v => by simp only [chkT] at v; cases v
  | .lc _ _ _ _ _, X, c, h, x, v => by simp only [chkT] at v; cases v
  | .dnew _, X, c, h, x, v => by simp only [chkT] at v; cases v
  | .disp _ _ _, X, c, h, x, v => by simp only [chkT] at v; cases v
theorem pls : ∀ (es : List IE) {X : Cx} {c : Cc} (h : Cok X c sp) (xs : List Expr), chkL c es xs = true → PLs X sp es xs
  | [], X, c, h, [], v => trivial
  | [], X, c, h, _ :: _, v => by simp only [chkL] at v; cases v
  | _ :: _, X, c, h, [], v => by simp only [chkL] at v; cases v
  | e :: es, X, c, h, x :: xs, v => by
    simp only [chkL, Bool.and_eq_true] at v
    exact ⟨v.1.1, pe e h x v.1.2, pls es h xs v.2⟩
theorem pis : ∀ (es : List IE) {X : Cx} {c : Cc} (h : Cok X c sp) (xs : List Expr), chkI c es xs = true → PTs X xs (rdI X.K sp es)
  | [], X, c, h, [], v => by simp only [rdI]; exact pts_nil
  | [], X, c, h, _ :: _, v => by simp only [chkI] at v; cases v
  | [e], X, c, h, [], v => by simp only [chkI] at v; cases v
  | [e], X, c, h, [x], v => by
    simp only [chkI] at v
    simp only [rdI]
    exact pts_one (pt e h x v)
  | [e], X, c, h, _ :: _ :: _, v => by simp only [chkI] at v; cases v
  | _ :: _ :: _, X, c, h, xs, v => by simp only [chkI] at v; cases v
theorem po : ∀ (e : Option IE) {X : Cx} {c : Cc} (h : Cok X c sp) (x : Option Expr), chkO c e x = true → PO X x (rdO X.K sp e)
  | none, X, c, h, none, v => by simp only [rdO]; exact po_none
  | none, X, c, h, some _, v => by simp only [chkO] at v; cases v
  | some _, X, c, h, none, v => by simp only [chkO] at v; cases v
  | some e, X, c, h, some x, v => by
    simp only [chkO] at v
    simp only [rdO]
    exact po_some (pe e h x v)
end
end
end R

set_option linter.all false
set_option maxHeartbeats 4000000
set_option maxRecDepth 100000
namespace R
open PySem L2
theorem swN {e : Expr} {t : Option Expr} {l : Nat} {env : PySem.Env} (h : notLc e = true) : swapsWith e t l env = pure false := by
  cases e <;> first | rfl | (cases h)
theorem swS {e o k : Expr} {p : Pos} {l : Nat} {env : PySem.Env} : swapsWith e (some (.Subscript o k p)) l env = pure false := by
  cases e <;> rfl
theorem swT {e : Expr} {ts : List Expr} {n : Nat} {p : Pos} {l : Nat} {env : PySem.Env} (h : notLc e = true) : swapsWithSole [.Tuple ts n p] e l env = pure false := by
  cases e <;> first | rfl | (cases h)
theorem ssT {e : Expr} {ts : List Expr} {n : Nat} {p : Pos} {env : PySem.Env} (h : notTuple e = true) : swappedStores [.Tuple ts n p] e env = pure none := by
  cases e <;> first | rfl | (cases h)
theorem ssS {e o k : Expr} {p : Pos} {env : PySem.Env} : swappedStores [.Subscript o k p] e env = pure none := by
  cases e <;> rfl
theorem swL {elt : Expr} {gs : List Comprehension} {scope : Scope} {pos py : Pos} {y : Str} {l : Nat} {env : PySem.Env} : swapsWith (.ListComp elt gs scope pos) (some (.Name y py)) l env = pure (env.blockKind == .function && env.kindOf y == some .local && py.line == pos.line && !(scope.names.any fun (n, k) => n == y && (k == .local || k == .cell))) := rfl
section
variable {X : Cx} {c : Cc} {sp : Nat → Sp}
theorem PS.imp {e : Stmt} {t u : TS} (h : PS X e t) (g : ∀ D σ H, u D σ H → t D σ H) : PS X e u := ⟨fun pins s σ H D I hw => h.run pins s σ H D I (g D σ H hw)⟩
theorem var_ok (h : Cok X c sp) {i : Nat} {o : Expr} (v1 : chkNm c i o = true) (v2 : visN c o = true) : PE X o (tVar i) := by
  cases o <;> first | (simp only [chkNm] at v1; cases v1; done) | skip
  simp only [chkNm, Bool.and_eq_true] at v1
  simp only [visN] at v2
  exact pe_var (h.ix v1.1) (h.vis v2).1 (h.vis v2).2.1 (h.vis v2).2.2
theorem nm_notCall {i : Nat} {o : Expr} (v1 : chkNm c i o = true) : notCall o = true := by
  cases o <;> first | rfl | (simp only [chkNm] at v1; cases v1; done)
theorem passes (h : Cok X c sp) : PassesOwn (model X.prog X.w) X.A X.env X.xe := by
  rw [h.xe]
  exact PassesOwn.never
theorem psms_ok (h : Cok X c sp) {m : MS} {i : Nat} {nm : Str} {o : Expr} {apos cpos pos : Pos} {args : List Expr} {es : List IE} (hl : (apos.endLine == cpos.line) = true) (v1 : chkNm c i o = true) (v2 : visN c o = true) (hnm : nm = msNm m) (hp : PLs X sp es args) (hlen : msAr m args.length = true) : PS X (.Expr (.Call (.Attribute o nm apos) args [] cpos) pos) (rdMs X.K m i (rdA X.K sp es)) := by
  have ho := var_ok h v1 v2
  have hn := nm_notCall v1
  subst hnm
  cases m <;> simp only [rdMs] <;> try exact ps_never
  case append =>
    match es, args, hp, hlen with
    | [e], [a], hp, _ =>
      refine ps_expr (pe_bm PySem.F.plainAttrs_list PySem.F.slot_list_append PySem.F.type_list_append mt_append ho hp.pa (base_ok hn) ?_ hl (star_ok hp.1) (any_ns rfl)) rfl
      rw [all_ns hp.ns]
      rfl
    | [], [], hp, e => exact nomatch e
    | _ :: _ :: _, _ :: _ :: _, hp, e => exact nomatch e
  case reverse =>
    match es, args, hp, hlen with
    | [], [], hp, _ => exact ps_expr (pe_bm0 PySem.F.plainAttrs_list PySem.F.slot_list_reverse PySem.F.type_list_reverse mt_reverse ho (base_ok hn) hl) rfl
    | e :: es, a :: args, hp, e' => exact nomatch e'
theorem set_ok (h : Cok X c sp) {g : Tg} {e : IE} {tg v : Expr} {pos : Pos} (hg : chkG c g tg = true) (hv : chkE c e v = true) (hx : setC tg v = true) : PS X (.Assign [tg] v pos) (tAsg (rdE X.K sp e) (rdG X.K g)) := by
  have he := pe e h v hv
  cases g with
  | tp is =>
    cases tg <;> first | (simp only [chkG] at hg; cases hg; done) | skip
    simp only [setC, Bool.and_eq_true] at hx
    exact ps_asg he (pg_ok h hg) (swT hx.1) (ssT hx.2) rfl
  | nm i =>
    cases tg <;> first | (simp only [chkG, chkNm] at hg; cases hg; done) | skip
    rename_i y py
    simp only [chkG, chkNm, Bool.and_eq_true] at hg
    obtain ⟨l1, l2⟩ := h.loc hg.2
    have hN : X.N.Nodup := by rw [h.N]; exact h.nd
    simp only [rdG]
    cases hlc : notLc v with
    | true => exact ps_set hN (h.ix hg.1) l1 he (swN hlc) l2
    | false =>
      cases v <;> first | (cases hlc; done) | (simp only [setC, notLc] at hx; cases hx; done) | skip
      rename_i elt gs scope p
      have sw := swL (elt := elt) (gs := gs) (scope := scope) (pos := p) (py := py) (y := y) (l := pos.line) (env := X.env)
      cases hb : (X.env.blockKind == .function && X.env.kindOf y == some .local && py.line == p.line && !(scope.names.any fun (n, k) => n == y && (k == .local || k == .cell))) with
      | false =>
        rw [hb] at sw
        exact ps_set hN (h.ix hg.1) l1 he sw l2
      | true =>
        rw [hb] at sw
        simp only [Bool.and_eq_true] at hb
        have hy : X.env.scope.names.lookup y = some .local := by
          have := hb.1.1.2
          exact eq_of_beq this
        cases e <;> first | (unfold chkE at hv; cases hv; done) | skip
        rename_i elt' g' k src ifs
        unfold chkE at hv
        split at hv
        · rename_i el tg' iter ts scope' p' heq
          cases heq
          simp only [Bool.and_eq_true] at hv
          obtain ⟨⟨⟨⟨⟨⟨v1, v2⟩, v3⟩, v4⟩, v5⟩, v6⟩, v7⟩ := hv
          obtain ⟨zs, e⟩ := Option.isSome_iff_exists.mp v2
          rw [e, Option.getD_some] at v3
          have hs := src_ok h e (pls src h _ v3)
          have ow : (ownOf c g').map (·.2) = tgS g' := by
            unfold ownOf
            rw [List.map_map]
            exact List.map_id _
          have blk : BlkOk X.N X.env.scope scope (ownOf c g') := by
            rw [h.N, h.sc]
            exact blkOk_by v4
          have base := ps_setLc (pos := p) (spos := pos) (py := py) (g := rdG X.K g') (tt := rdI X.K sp ifs) (te := rdE X.K sp elt') h.calm hN (h.ix hg.1) hy sw hs blk (fun s H C cl fp => pg_ok (h.blk s H scope C cl fp) v5) (fun s H C cl fp => pis ifs (h.blk s H scope C cl fp) _ v6) (fun s H C cl fp => pe elt' (h.blk s H scope C cl fp) _ v7) (fsi_ok v1)
          rw [ow] at base
          cases k <;> first | (simp only [rdE]; exact base) | skip
          simp only [rdE]
          refine PS.imp (PS.or2 (ps_lock base) base) fun D σ H hw => ?_
          rcases hw with ⟨d, u, h1, h2, h3⟩ | hw
          · refine .inl ⟨d, u, h1, h2, fun od => ?_⟩
            exact h3 od
          · exact .inr hw
        · cases hv
end
section
variable {X : Cx} {c : Cc} {sp : Nat → Sp}
mutual
theorem psx (h : Cok X c sp) : ∀ (s : IS) (x : Stmt), chkS c s x = true → PS X x (rdS X.K sp s)
  | .set g e, x, v => by
    unfold chkS at v
    split at v
    · simp only [Bool.and_eq_true] at v
      simp only [rdS]
      exact set_ok h v.1.1 v.1.2 v.2
    · cases v
  | .setix i k w, x, v => by
    unfold chkS at v
    split at v
    · rename_i o ke p1 ve p2
      simp only [Bool.and_eq_true] at v
      obtain ⟨⟨⟨⟨⟨v1, v2⟩, v3⟩, v4⟩, v5⟩, v6⟩ := v
      simp only [rdS]
      have hk := pe k h ke v5
      have hv := pe w h ve v6
      have ho := var_ok h v1 v2
      have as : ∀ v, assign (.Subscript o ke p1) X.env v = (do
          let ov ← holding [v] (eval o X.env)
          let iv ← holding [v, ov] (eval ke X.env)
          standAt p1
          holding [v, ov, iv] (setItem ov iv v)
          release [v, ov, iv] []) := by
        intro _
        cases ke <;> first | rfl | (cases v3)
      exact PS.or2 (ps_asg hv (pg_sub ho hk set_list as) (show swapsWith ve (some (.Subscript o ke p1)) p2.line X.env = pure false from swS) ssS rfl) (ps_dput (by have := h.hu; omega) ho hk hv swS)
    · cases v
  | .ms m i es, x, v => by
    unfold chkS at v
    split at v
    · simp only [Bool.and_eq_true] at v
      obtain ⟨⟨⟨⟨⟨v1, v2⟩, v3⟩, v4⟩, v5⟩, v6⟩ := v
      simp only [rdS]
      exact psms_ok h v4 v1 v2 (of_decide_eq_true v3) (pls es h _ v5) v6
    · cases v
  | .msv _ _ _ _, x, v => by
    unfold chkS at v
    cases v
  | .frz _, x, v => by
    unfold chkS at v
    cases v
  | .ite t a b, x, v => by
    unfold chkS at v
    split at v
    · simp only [Bool.and_eq_true] at v
      simp only [rdS]
      exact ps_if (pt t h _ v.1.1) (pssx h a _ v.1.2) (pssx h b _ v.2)
    · cases v
  | .for_ g k src body, x, v => by
    unfold chkS at v
    split at v
    · rename_i tg iter b p
      simp only [Bool.and_eq_true] at v
      obtain ⟨⟨⟨⟨v1, v2⟩, v3⟩, v4⟩, v5⟩ := v
      obtain ⟨zs, e⟩ := Option.isSome_iff_exists.mp v2
      rw [e, Option.getD_some] at v3
      have base := ps_for (pos := p) (passes h) h.calm (src_ok h e (pls src h _ v3)) (pg_ok h v4) (pssx h body _ v5) (fsi_ok v1)
      cases k <;> first | (simp only [rdS]; exact base) | (simp only [rdS]; exact PS.or2 (ps_lock base) base)
    · cases v
  | .forq g i t e, x, v => by
    unfold chkS at v
    split at v
    · rename_i tg iter y p1 p2 z p3
      simp only [Bool.and_eq_true] at v
      obtain ⟨⟨⟨⟨⟨v1, v2⟩, v3⟩, v4⟩, v5⟩, v6⟩ := v
      simp only [rdS]
      exact ps_for (passes h) h.calm (pi_list (var_ok h v2 v3)) (pg_ok h v4) (pss_cons (ps_if (pt t h _ v5) (pss_cons (ps_ret (pe e h _ v6)) pss_nil) pss_nil) pss_nil) (fsi_ok v1)
    · cases v
  | .whl t body, x, v => by
    unfold chkS at v
    split at v
    · simp only [Bool.and_eq_true] at v
      simp only [rdS]
      exact ps_while (passes h) (pt t h _ v.1) (pssx h body _ v.2)
    · cases v
  | .ret e, x, v => by
    unfold chkS at v
    split at v
    · simp only [rdS]
      exact ps_ret (pe e h _ v)
    · cases v
  | .retn, x, v => by
    unfold chkS at v
    split at v
    · simp only [rdS]
      exact ps_retN
    · cases v
  | .brk, x, v => by
    unfold chkS at v
    split at v
    · simp only [rdS]
      exact ps_break
    · cases v
  | .cnt, x, v => by
    unfold chkS at v
    split at v
    · simp only [rdS]
      exact ps_continue
    · cases v
  | .pass, x, v => by
    unfold chkS at v
    split at v
    · simp only [rdS]
      exact ps_pass
    · simp only [rdS]
      exact ps_doc
    · cases v
  | .expr e, x, v => by
    unfold chkS at v
    split at v
    · simp only [Bool.and_eq_true] at v
      simp only [rdS]
      exact ps_expr (pe e h _ v.2) (swN v.1)
    · cases v
  | .stuck, x, v => by
    simp only [rdS]
    exact ps_never
theorem pssx (h : Cok X c sp) : ∀ (ss : List IS) (xs : List Stmt), chkSs c ss xs = true → PSs X xs (rdSs X.K sp ss)
  | [], xs, v => by
    unfold chkSs at v
    split at v
    · simp only [rdSs]
      exact pss_nil
    · cases v
  | s :: ss, xs, v => by
    unfold chkSs at v
    split at v
    · simp only [rdSs, rdS]
      have q := pssx h ss xs v
      exact ⟨fun pins s σ H D I hw => q.run pins s σ H D I hw⟩
    · split at v
      · simp only [Bool.and_eq_true] at v
        simp only [rdSs]
        exact pss_cons (psx h s _ v.1) (pssx h ss _ v.2)
      · cases v
end
end
end R

set_option linter.all false
set_option maxHeartbeats 4000000
set_option maxRecDepth 100000
/-! The defs of a law as a table: each keeps what its terms compute. -/
namespace R
open PySem L2
structure TD where
  f : Nat
  nm : Str
  st : Stmt
  N : List Str
  ps : List Str
  fn : Fn
def spEv (tbl : List (Nat × Fn)) (K : PySem.W.Frag) (n f : Nat) : Sp := fun vs H Q _ => ∃ (I : Hp) (fn : Fn) (ds : List D) (k : Kd) (d : D), Sub I H ∧ Reps K I ds vs ∧ tbl.lookup f = some fn ∧ ds.length = fn.np ∧ evFn tbl n f ds = some (k, d) ∧
  ∀ v I' H', Ext I H I' H' → RK K (fun _ => False) H I' H' k d v → Q v H'
theorem evFn_np {tbl : List (Nat × Fn)} : ∀ {n f : Nat} {ds : List D} {r : Kd × D}, evFn tbl n f ds = some r → ∃ fn, tbl.lookup f = some fn ∧ ds.length = fn.np
  | 0, f, ds, r, h => by
    simp only [evFn] at h
    cases h
  | n + 1, f, ds, r, h => by
    simp only [evFn] at h
    split at h
    · cases h
    · rename_i fn e
      refine ⟨fn, e, ?_⟩
      unfold run at h
      split at h
      · assumption
      · cases h
theorem finD_bo {o : Option Out} {d : D} : finD o = some (.bo, d) → False := by
  intro h
  unfold finD at h
  split at h
  · cases h
  · cases h
  · cases h
  · cases h
theorem evFn_bo {tbl : List (Nat × Fn)} : ∀ {n f : Nat} {ds : List D} {d : D}, evFn tbl n f ds = some (.bo, d) → False
  | 0, f, ds, r, h => by
    simp only [evFn] at h
    cases h
  | n + 1, f, ds, r, h => by
    simp only [evFn] at h
    split at h
    · cases h
    · unfold run at h
      split at h
      · exact finD_bo h
      · cases h
theorem RK.any {K : PySem.W.Frag} {B C : Addr → Prop} {Hs I H : Hp} {k : Kd} {d : D} {v : V} (h : RK K B Hs I H k d v) (n : k ≠ .bo) : RK K C Hs I H k d v := by
  cases k with
  | fz => exact h
  | ow => exact h
  | bo => exact absurd rfl n
theorem callOk (tbl : List (Nat × Fn)) (K : PySem.W.Frag) (n : Nat) : CallOk K (evFn tbl n) (spEv tbl K n) := by
  intro f ds k d h B vs I H Q su r q
  obtain ⟨fn, e1, e2⟩ := evFn_np h
  refine ⟨I, fn, ds, k, d, su, r, e1, e2, h, fun v I' H' x g => q v I' H' x (g.any fun z => ?_)⟩
  subst z
  exact evFn_bo h
/-! ### the entry -/
theorem start_len {fn : Fn} {ds : List D} (h : ds.length = fn.np) (h2 : fn.np ≤ fn.ns) : (start0 fn ds).length = fn.ns := by
  unfold start0
  rw [List.length_append, List.length_map, List.length_replicate, h]
  omega
theorem start_sta {K : PySem.W.Frag} {I H : Hp} {fn : Fn} {N : List Str} {ds : List D} {vs : List V} (su : Sub I H) (r : Reps K I ds vs) (h : ds.length = fn.np) (hN : fn.ns = N.length) : Sta K (fun b => ∃ o, H b = some o) I H (L2.start N vs) (start0 fn ds) := by
  have hl := r.len
  have no : ∀ (i : Nat) (k : Kd) (d : D), (start0 fn ds)[i]? = some (some (k, d)) → k = .fz ∧ ds[i]? = some d := by
    intro i k d e
    unfold start0 at e
    by_cases hi : i < ds.length
    · rw [List.getElem?_append_left (by rw [List.length_map]; exact hi), List.getElem?_map] at e
      cases q : ds[i]? with
      | none => rw [q] at e; cases e
      | some d' =>
        rw [q] at e
        cases e
        exact ⟨rfl, rfl⟩
    · rw [List.getElem?_append_right (by rw [List.length_map]; omega)] at e
      rw [List.getElem?_replicate] at e
      split at e
      · cases e
      · cases e
  refine ⟨su, fun b hb => hb, ?_, fun i d e => ?_, fun i d e => ?_, fun i d e => ?_, fun i j d e p _ e1 => ?_⟩
  · unfold L2.start start0
    rw [List.length_append, List.length_append, List.length_map, List.length_map, List.length_replicate, List.length_replicate, hl, hN, h]
  · obtain ⟨_, e⟩ := no i _ _ e
    obtain ⟨x, hx, rx⟩ := r.get e
    refine ⟨x, ?_, rx⟩
    unfold L2.start
    have hi : i < vs.length := (List.getElem?_eq_some_iff.mp hx).1
    rw [List.getElem?_append_left (by rw [List.length_map]; exact hi), List.getElem?_map, hx]
    rfl
  · cases (no i _ _ e).1
  · cases (no i _ _ e).1
  · cases (no i _ _ e1).1
theorem Stp.ext {I H I' H' : Hp} (s : Stp (fun b => ∃ o, H b = some o) I H I' H') (su : Sub I' H') : Ext I H I' H' :=
  ⟨s.ii, fun b o h => (s.bh b ⟨o, h⟩).trans h, su, fun b o h n => s.bi b o ⟨o, h⟩ h n⟩
/-! ### the table -/
def TD.cc (fns : List (Str × Nat)) (gls : List (Str × D)) (t : TD) : Cc := ⟨t.N, defScope t.st, none, fns, gls⟩
def TD.good (tbl : List (Nat × Fn)) (fns : List (Str × Nat)) (gls : List (Str × D)) (t : TD) : Bool :=
  decide (t.fn.np = t.ps.length) && decide (t.fn.ns = t.N.length) && decide (t.ps.length ≤ t.N.length) && okSs t.fn.body && chkSs (t.cc fns gls) t.fn.body (defBody t.st) && C8.scC t.N t.ps (defScope t.st)
section
variable {P : Program} {w : World} {K : PySem.W.Frag} {mg : Str → Option Value} {base : Heap}
/-- one def as it stands behind the top -/
def TD.At (K : PySem.W.Frag) (mg : Str → Option Value) (t : TD) (a : Addr) (fd : FuncData) : Prop := L2.Fun K t.nm t.nm t.st a fd ∧ mg t.nm = some (.ref a) ∧ Binds K fd t.ps []
theorem tab_ok {tds : List TD} {gls : List (Str × D)} (tbl : List (Nat × Fn)) (fns : List (Str × Nat)) (ht : ∀ t ∈ tds, tbl.lookup t.f = some t.fn) (hfn : ∀ p ∈ fns, ∃ t ∈ tds, t.nm = p.1 ∧ t.f = p.2)
    (hg : ∀ t ∈ tds, t.good tbl fns gls = true) (hat : ∀ t ∈ tds, ∃ a fd, t.At K mg a fd) (hbi : ∀ x ∈ biNames, mg x = none) (hgl : ∀ p ∈ gls, ∃ u, mg p.1 = some u ∧ RelV (vOf p.2) u) :
    ∀ n, ∀ t ∈ tds, ∀ a fd, t.At K mg a fd → FnOk P w K mg base CX0 n a fd t.ps (spEv tbl K n t.f) := by
  intro n
  induction n with
  | zero =>
    intro t _ a fd _
    refine ⟨fun vs H Q E h => ?_, fun A outer s H args us vs Q E _ _ _ _ h => ?_⟩
    · obtain ⟨I, fn, ds, k, d, _, _, _, _, h, _⟩ := h
      simp only [evFn] at h
      cases h
    · obtain ⟨I, fn, ds, k, d, _, _, _, _, h, _⟩ := h
      simp only [evFn] at h
      cases h
  | succ n ih =>
    intro t m a fd F
    have g := hg t m
    unfold TD.good at g
    simp only [Bool.and_eq_true, decide_eq_true_eq] at g
    obtain ⟨⟨⟨⟨⟨g1, g2⟩, g3⟩, g4⟩, g5⟩, g6⟩ := g
    have S := C8.fnScope_by g6
    refine F.1.ok S (fun vs H Q E h => ?_) (fun cdv A outer s H vs Q E hr h => ?_)
    · obtain ⟨I, fn, ds, k, d, su, r, e1, e2, _, _⟩ := h
      rw [ht t m] at e1
      cases e1
      rw [r.len, e2, g1]
    · obtain ⟨I, fn, ds, k, d, su, r, e1, e2, ev, q⟩ := h
      rw [ht t m] at e1
      cases e1
      have C : Cok (cxOf CX0 P w K mg base t.N t.nm (defScope t.st) a cdv A outer s H E).nox (t.cc fns gls) (spEv tbl K n) := by
        refine ⟨rfl, S.nd, rfl, fun x => rfl, rfl, rfl, hbi, hgl, fun p hp => ?_, ?_⟩
        · obtain ⟨t', m', e1, e2⟩ := hfn p hp
          obtain ⟨a', fd', F'⟩ := hat t' m'
          refine ⟨n, a', fd', t'.ps, ?_, hr, ?_, F'.1.kp, F'.2.2⟩
          · rw [← e2]
            exact ih t' m' a' fd' F'
          · rw [← e1]
            exact F'.2.1
        · have := hr.un
          show A.units + 3 + 65 < _
          have h3 : ∀ e, (A.deeper e).units = A.units + 3 := fun _ => rfl
          rw [h3] at this
          omega
      refine ⟨_, pssx C t.fn.body _ g5, ?_⟩
      have st := start_sta (fn := t.fn) (N := t.N) su r e2 g2
      have e3 : evFn tbl (n + 1) t.f ds = finD (evSs (evFn tbl n) t.fn.body (start0 t.fn ds)) := by
        simp only [evFn, ht t m]
        unfold run
        rw [if_pos e2]
      rw [e3] at ev
      cases eo : evSs (evFn tbl n) t.fn.body (start0 t.fn ds) with
      | none =>
        rw [eo] at ev
        cases ev
      | some o =>
        rw [eo] at ev
        refine sndSs (B := fun b => ∃ o, H b = some o) (callOk tbl K n) t.fn.body g4 _ I H _ o _ st eo ?_
        cases o with
        | nx ρ' =>
          simp only [finD] at ev
          cases ev
          exact fun σ' I' H' x s' => q .non I' H' (x.ext s'.su) (show Rep K I' .non .non from rep_non)
        | bk ρ' => simp only [finD] at ev; cases ev
        | ct ρ' => simp only [finD] at ev; cases ev
        | rt k' d' =>
          intro v I' H' x su' rv
          cases k' with
          | fz =>
            simp only [finD] at ev
            cases ev
            exact q v I' H' (x.ext su') rv
          | ow =>
            simp only [finD] at ev
            cases ev
            refine q v I' H' (x.ext su') ⟨rv.1, ?_⟩
            obtain ⟨p, e, nb⟩ := rv.2
            refine ⟨p, e, ?_⟩
            cases hp : H p with
            | none => rfl
            | some o => exact absurd ⟨o, hp⟩ nb
          | bo =>
            simp only [finD] at ev
            cases ev
            refine q v I' H' (x.ext su') ⟨rv.1, ?_⟩
            obtain ⟨p, e, nb⟩ := rv.2
            refine ⟨p, e, ?_⟩
            cases hp : H p with
            | none => rfl
            | some o => exact absurd ⟨o, hp⟩ nb
end
/-- the law's own promise, from what its terms compute -/
theorem law_sp {tbl : List (Nat × Fn)} {K : PySem.W.Frag} {n f : Nat} {H : Hp} {a : Addr} {ns : List Int} (hl : ns.length ≤ 63) (hS : SqL K H a (ns.map V.int)) (ev : evFn tbl n f [.scr ns] = some (.fz, .bl true)) : spEv tbl K n f [.ref a] H (fun v _ => v = .bl true) fun _ _ _ => False := by
  obtain ⟨fn, e1, e2⟩ := evFn_np ev
  have go : ∀ I : Hp, Sub I H → SqL K I a (ns.map V.int) → spEv tbl K n f [.ref a] H (fun v _ => v = .bl true) fun _ _ _ => False := fun I su sq =>
    ⟨I, fn, [.scr ns], .fz, .bl true, su, Reps.cons (by simp only [Rep]; exact ⟨a, rfl, sq, Nat.le_trans hl (by decide)⟩) Reps.nil, e1, e2, ev, fun v I' H' _ r => by
      have r : Rep K I' (.bl true) v := r
      simp only [Rep] at r
      exact r⟩
  rcases hS with (h | ⟨o, h⟩) | h
  · refine go (upd (fun _ => none) a (.lst (ns.map V.int))) (fun b u e => ?_) (.inl (.inl upd_same))
    by_cases q : b = a
    · rw [q, upd_same] at e
      cases e
      rw [q]
      exact .inl h
    · rw [upd_ne q] at e
      cases e
  · refine go (upd (fun _ => none) a (.frz o (.lst (ns.map V.int)))) (fun b u e => ?_) (.inl (.inr ⟨o, upd_same⟩))
    by_cases q : b = a
    · rw [q, upd_same] at e
      cases e
      rw [q]
      exact .inl h
    · rw [upd_ne q] at e
      cases e
  · exact go (fun _ => none) (fun b u e => by cases e) (.inr h)
end R

set_option linter.all false
set_option maxHeartbeats 1000000
/-! What terms compute, in short equations. -/
namespace R
open PySem L2
def IL (ns : List Int) : D := .lst (ns.map .int)
abbrev fi (i : Int) : Option (Kd × D) := some (.fz, .int i)
abbrev fb (c : Bool) : Option (Kd × D) := some (.fz, .bl c)
abbrev fd (d : D) : Option (Kd × D) := some (.fz, d)
abbrev ow (d : D) : Option (Kd × D) := some (.ow, d)
def seqO (r : Option Out) (k : Env → Option Out) : Option Out := match r with
  | some (.nx ρ) => k ρ
  | r => r
theorem seqO_nx (ρ : Env) (k) : seqO (some (.nx ρ)) k = k ρ := rfl
theorem seqO_rt (a d) (k) : seqO (some (.rt a d)) k = some (.rt a d) := rfl
theorem seqO_bk (ρ : Env) (k) : seqO (some (.bk ρ)) k = some (.bk ρ) := rfl
theorem seqO_ct (ρ : Env) (k) : seqO (some (.ct ρ)) k = some (.ct ρ) := rfl
theorem seqO_ite (p : Prop) [Decidable p] (a b) (k) : seqO (if p then a else b) k = if p then seqO a k else seqO b k := by
  split <;> rfl
theorem finD_nx (ρ : Env) : finD (some (.nx ρ)) = some (.fz, .non) := rfl
theorem finD_fz (d : D) : finD (some (.rt .fz d)) = some (.fz, d) := rfl
theorem finD_ow (d : D) : finD (some (.rt .ow d)) = some (.ow, d) := rfl
theorem finD_bo' (d : D) : finD (some (.rt .bo d)) = some (.ow, d) := rfl
theorem finD_ite (p : Prop) [Decidable p] (a b) : finD (if p then a else b) = if p then finD a else finD b := by
  split <;> rfl
def rtD : Kd × D → Option Out
  | (.fz, d) => some (.rt .fz d)
  | (_, d) => some (.rt .ow d)
theorem rtD_fz (d : D) : rtD (.fz, d) = some (.rt .fz d) := rfl
theorem rtD_ow (d : D) : rtD (.ow, d) = some (.rt .ow d) := rfl
theorem rtD_bo (d : D) : rtD (.bo, d) = some (.rt .ow d) := rfl
theorem esc_fz (d : D) : esc (.fz, d) = some d := rfl
theorem esc_ow (d : D) : esc (.ow, d) = some d := rfl
def lkE : Option (Option (Kd × D)) → Option (Kd × D)
  | some (some (.fz, d)) => some (.fz, d)
  | some (some (_, d)) => some (.bo, d)
  | _ => none
theorem lkE_fz (d : D) : lkE (some (some (.fz, d))) = some (.fz, d) := rfl
theorem lkE_ow (d : D) : lkE (some (some (.ow, d))) = some (.bo, d) := rfl
def owE : Option (Option (Kd × D)) → Option D
  | some (some (.ow, d)) => some d
  | _ => none
theorem owE_ow (d : D) : owE (some (some (.ow, d))) = some d := rfl
def frzE (ρ : Env) (i : Nat) : Option (Option (Kd × D)) → Option Out
  | some (some (_, d)) => some (.nx (ρ.set i (some (.fz, d))))
  | _ => some (.nx ρ)
theorem frzE_some (ρ : Env) (i k d) : frzE ρ i (some (some (k, d))) = some (.nx (ρ.set i (some (.fz, d)))) := rfl
theorem frzE_none (ρ : Env) (i) : frzE ρ i (some none) = some (.nx ρ) := rfl
theorem onT_kd (k d) : onT (some (k, d)) = truD d := rfl
theorem onT_ite (p : Prop) [Decidable p] (a b) : onT (if p then a else b) = if p then onT a else onT b := by
  split <;> rfl
section
variable (cl : Nat → List D → Option (Kd × D)) (ρ : Env)
theorem q_var (i) : evE cl (.var i) ρ = lkE ρ[i]? := by
  simp only [evE]
  generalize ρ[i]? = o
  rcases o with _ | _ | ⟨k, d⟩
  · rfl
  · rfl
  · cases k <;> rfl
theorem q_int (i) : evE cl (.int i) ρ = some (.fz, .int i) := by simp only [evE]
theorem q_bl (i) : evE cl (.bl i) ρ = some (.fz, .bl i) := by simp only [evE]
theorem q_non : evE cl .non ρ = some (.fz, .non) := by simp only [evE]
theorem q_str (i) : evE cl (.str i) ρ = some (.fz, .str i) := by simp only [evE]
theorem q_glb (x d) : evE cl (.glb x d) ρ = some (.fz, d) := by simp only [evE]
theorem q_bin (op a b) : evE cl (.bin op a b) ρ = (evE cl a ρ).bind fun x => (evE cl b ρ).bind fun y => binD op x.2 y.2 := by
  simp only [evE]
  cases evE cl a ρ with
  | none => rfl
  | some x => cases evE cl b ρ <;> rfl
theorem q_cmp (op a b) : evE cl (.cmp op a b) ρ = (evE cl a ρ).bind fun x => (evE cl b ρ).bind fun y => (cmpD op x.2 y.2).bind fun c => some (.fz, .bl c) := by
  simp only [evE]
  cases evE cl a ρ with
  | none => rfl
  | some x => cases evE cl b ρ with
    | none => rfl
    | some y =>
      show (match cmpD op x.2 y.2 with | none => none | some c => _) = (cmpD op x.2 y.2).bind _
      cases cmpD op x.2 y.2 <;> rfl
theorem q_chain (op op' a b c) : evE cl (.chain op op' a b c) ρ = (evE cl a ρ).bind fun x => (evE cl b ρ).bind fun y => (cmpD op x.2 y.2).bind fun t => if t = true then (evE cl c ρ).bind fun z => (cmpD op' y.2 z.2).bind fun u => some (.fz, .bl u) else some (.fz, .bl false) := by
  simp only [evE]
  cases evE cl a ρ with
  | none => rfl
  | some x => cases evE cl b ρ with
    | none => rfl
    | some y =>
      show (match cmpD op x.2 y.2 with | none => none | some false => _ | some true => _) = (cmpD op x.2 y.2).bind _
      cases cmpD op x.2 y.2 with
      | none => rfl
      | some t =>
        cases t with
        | false => rfl
        | true =>
          cases evE cl c ρ with
          | none => rfl
          | some z =>
            show (match cmpD op' y.2 z.2 with | none => none | some c => _) = (cmpD op' y.2 z.2).bind _
            cases cmpD op' y.2 z.2 <;> rfl
theorem q_and (a b) : evE cl (.and a b) ρ = (onT (evE cl a ρ)).bind fun t => if t = true then evE cl b ρ else evE cl a ρ := by
  simp only [evE]
  cases onT (evE cl a ρ) with
  | none => rfl
  | some t => cases t <;> rfl
theorem q_or (a b) : evE cl (.or a b) ρ = (onT (evE cl a ρ)).bind fun t => if t = true then evE cl a ρ else evE cl b ρ := by
  simp only [evE]
  cases onT (evE cl a ρ) with
  | none => rfl
  | some t => cases t <;> rfl
theorem q_not (a) : evE cl (.not a) ρ = (onT (evE cl a ρ)).bind fun t => some (.fz, .bl (!t)) := by
  simp only [evE]
  cases onT (evE cl a ρ) <;> rfl
def negD : D → Option (Kd × D)
  | .int i => some (.fz, .int (-i))
  | _ => none
theorem q_neg (a) : evE cl (.neg a) ρ = (evE cl a ρ).bind fun x => negD x.2 := by
  simp only [evE]
  cases evE cl a ρ with
  | none => rfl
  | some x => obtain ⟨k, d⟩ := x; cases d <;> rfl
theorem q_ifx (c a b) : evE cl (.ifx c a b) ρ = (onT (evE cl c ρ)).bind fun t => if t = true then evE cl a ρ else evE cl b ρ := by
  simp only [evE]
  cases onT (evE cl c ρ) with
  | none => rfl
  | some t => cases t <;> rfl
theorem q_tup (es) : evE cl (.tup es) ρ = (evF cl es ρ).bind fun ds => some (.fz, .tup ds) := by
  simp only [evE]
  cases evF cl es ρ <;> rfl
theorem q_lst (es) : evE cl (.lst es) ρ = (evF cl es ρ).bind fun ds => some (.ow, .lst ds) := by
  simp only [evE]
  cases evF cl es ρ <;> rfl
theorem q_ix (a b) : evE cl (.ix a b) ρ = (evE cl a ρ).bind fun x => (evE cl b ρ).bind fun y => (ixD x.2 y.2).bind fun d => some (.fz, d) := by
  simp only [evE]
  cases evE cl a ρ with
  | none => rfl
  | some x => cases evE cl b ρ with
    | none => rfl
    | some y =>
      show (match ixD x.2 y.2 with | none => none | some d => _) = (ixD x.2 y.2).bind _
      cases ixD x.2 y.2 <;> rfl
theorem q_slc (a lo hi) : evE cl (.slc a lo hi) ρ = (evE cl a ρ).bind fun x => (evO cl lo ρ).bind fun l => (evO cl hi ρ).bind fun h => slcD x.2 l h := by
  simp only [evE]
  cases evE cl a ρ with
  | none => rfl
  | some x => cases evO cl lo ρ with
    | none => rfl
    | some y => cases evO cl hi ρ <;> rfl
theorem q_call (f es) : evE cl (.call f es) ρ = (evF cl es ρ).bind fun ds => cl f ds := by
  simp only [evE]
  cases evF cl es ρ <;> rfl
theorem q_bi (f es) : evE cl (.bi f es) ρ = (evB cl es ρ).bind fun ds => biD f ds := by
  simp only [evE]
  cases evB cl es ρ <;> rfl
theorem q_mt (m o es) : evE cl (.mt m o es) ρ = (evE cl o ρ).bind fun x => (evB cl es ρ).bind fun ds => mtD m x.2 ds := by
  simp only [evE]
  cases evE cl o ρ with
  | none => rfl
  | some x => cases evB cl es ρ <;> rfl
def lcF (elt : IE) (g : Tg) (ifs : List IE) (x : D) : Option (Option D) := (setTg g x (wipeR ρ (tgS g))).bind fun ρ' => (evI cl ifs ρ').bind fun t => if t = true then (evE cl elt ρ').bind fun r => (esc r).bind fun d => some (some d) else some none
theorem q_lc (elt g k src ifs) : evE cl (.lc elt g k src ifs) ρ = (srcV k (evF cl src ρ) (evB cl src ρ)).bind fun ds => (srcD k ds).bind fun xs => (lcRun (lcF cl ρ elt g ifs) xs).bind fun ys => some (.ow, .lst ys) := by
  simp only [evE]
  have key : ∀ F : D → Option (Option D), (∀ x, F x = lcF cl ρ elt g ifs x) → ∀ xs, (match lcRun F xs with | none => none | some ys => some (Kd.ow, D.lst ys)) = (lcRun (lcF cl ρ elt g ifs) xs).bind fun ys => some (Kd.ow, D.lst ys) := by
    intro F hF xs
    rw [show F = lcF cl ρ elt g ifs from funext hF]
    cases lcRun (lcF cl ρ elt g ifs) xs <;> rfl
  cases srcV k (evF cl src ρ) (evB cl src ρ) with
  | none => rfl
  | some ds =>
    show (match srcD k ds with | none => none | some xs => _) = (srcD k ds).bind _
    cases srcD k ds with
    | none => rfl
    | some xs =>
      refine key _ (fun x => ?_) xs
      unfold lcF
      cases setTg g x (wipeR ρ (tgS g)) with
      | none => rfl
      | some ρ' =>
        show (match evI cl ifs ρ' with | none => none | some false => some none | some true => _) = (evI cl ifs ρ').bind _
        cases evI cl ifs ρ' with
        | none => rfl
        | some t =>
          cases t with
          | false => rfl
          | true =>
            show (match evE cl elt ρ' with | none => none | some r => _) = (evE cl elt ρ').bind _
            cases evE cl elt ρ' with
            | none => rfl
            | some r =>
              show (match esc r with | none => none | some d => _) = (esc r).bind _
              cases esc r <;> rfl
theorem q_dnew (t) : evE cl (.dnew t) ρ = some (.ow, if t then .dt [] [] else .dk [] []) := by simp only [evE]
theorem q_F0 : evF cl [] ρ = some [] := by simp only [evF]
theorem q_F (e es) : evF cl (e :: es) ρ = (evE cl e ρ).bind fun r => (esc r).bind fun d => (evF cl es ρ).bind fun ds => some (d :: ds) := by
  simp only [evF]
  cases evE cl e ρ with
  | none => rfl
  | some r =>
    show (match esc r with | none => none | some d => _) = (esc r).bind _
    cases esc r with
    | none => rfl
    | some d => cases evF cl es ρ <;> rfl
theorem q_B0 : evB cl [] ρ = some [] := by simp only [evB]
theorem q_B (e es) : evB cl (e :: es) ρ = (evE cl e ρ).bind fun r => (evB cl es ρ).bind fun ds => some (r.2 :: ds) := by
  simp only [evB]
  cases evE cl e ρ with
  | none => rfl
  | some r => cases evB cl es ρ <;> rfl
theorem q_I0 : evI cl [] ρ = some true := by simp only [evI]
theorem q_I (e es) : evI cl (e :: es) ρ = (onT (evE cl e ρ)).bind fun t => if t = true then evI cl es ρ else some false := by
  simp only [evI]
  cases onT (evE cl e ρ) with
  | none => rfl
  | some t => cases t <;> rfl
theorem q_O0 : evO cl none ρ = some none := by simp only [evO]
def intO : D → Option (Option Int)
  | .int i => some (some i)
  | _ => none
theorem q_O (e) : evO cl (some e) ρ = (evE cl e ρ).bind fun x => intO x.2 := by
  simp only [evO]
  cases evE cl e ρ with
  | none => rfl
  | some x => obtain ⟨k, d⟩ := x; cases d <;> rfl
/-! statements -/
theorem s_set (g e) : evS cl (.set g e) ρ = (evE cl e ρ).bind fun r => (setR g r ρ).bind fun ρ' => some (.nx ρ') := by
  simp only [evS]
  cases evE cl e ρ with
  | none => rfl
  | some r =>
    show (match setR g r ρ with | none => none | some d => _) = (setR g r ρ).bind _
    cases setR g r ρ <;> rfl
theorem ownAt_eq (i) : ownAt ρ i = owE ρ[i]? := by
  unfold ownAt owE
  generalize ρ[i]? = o
  rcases o with _ | _ | ⟨k, d⟩
  · rfl
  · rfl
  · cases k <;> rfl
theorem s_setix (i k v) : evS cl (.setix i k v) ρ = (evE cl v ρ).bind fun r => (esc r).bind fun d => (owE ρ[i]?).bind fun o => (evE cl k ρ).bind fun q => (setD o q.2 d).bind fun o' => some (.nx (ρ.set i (some (.ow, o')))) := by
  simp only [evS]
  rw [ownAt_eq]
  cases evE cl v ρ with
  | none => rfl
  | some r =>
    show (match esc r with | none => none | some d => _) = (esc r).bind _
    cases esc r with
    | none => rfl
    | some d =>
      cases owE ρ[i]? with
      | none => rfl
      | some o =>
        cases evE cl k ρ with
        | none => rfl
        | some q =>
          show (match setD o q.2 d with | none => none | some d => _) = (setD o q.2 d).bind _
          cases setD o q.2 d <;> rfl
theorem s_ms (m i es) : evS cl (.ms m i es) ρ = (owE ρ[i]?).bind fun o => (evF cl es ρ).bind fun ds => (msD m o ds).bind fun o' => some (.nx (ρ.set i (some (.ow, o')))) := by
  simp only [evS]
  rw [ownAt_eq]
  cases owE ρ[i]? with
  | none => rfl
  | some o =>
    cases evF cl es ρ with
    | none => rfl
    | some ds =>
      show (match msD m o ds with | none => none | some d => _) = (msD m o ds).bind _
      cases msD m o ds <;> rfl
theorem s_frz (i) : evS cl (.frz i) ρ = frzE ρ i ρ[i]? := by
  simp only [evS]
  unfold frzE
  generalize ρ[i]? = o
  rcases o with _ | _ | ⟨k, d⟩
  · rfl
  · rfl
  · cases k <;> rfl
theorem s_ite (c a b) : evS cl (.ite c a b) ρ = (onT (evE cl c ρ)).bind fun t => if t = true then evSs cl a ρ else evSs cl b ρ := by
  simp only [evS]
  cases onT (evE cl c ρ) with
  | none => rfl
  | some t => cases t <;> rfl
def forF (g : Tg) (body : List IS) (x : D) (ρ1 : Env) : Option Out := (setTg g x ρ1).bind fun ρ2 => evSs cl body ρ2
theorem s_for (g k src body) : evS cl (.for_ g k src body) ρ = (evF cl src ρ).bind fun ds => (srcD k ds).bind fun xs => forRun (forF cl g body) xs ρ := by
  simp only [evS]
  have key : ∀ F : D → Env → Option Out, (∀ x ρ1, F x ρ1 = forF cl g body x ρ1) → ∀ xs, forRun F xs ρ = forRun (forF cl g body) xs ρ := by
    intro F hF xs
    rw [show F = forF cl g body from funext fun x => funext fun ρ1 => hF x ρ1]
  cases evF cl src ρ with
  | none => rfl
  | some ds =>
    show (match srcD k ds with | none => none | some d => _) = (srcD k ds).bind _
    cases srcD k ds with
    | none => rfl
    | some xs =>
      refine key _ (fun x ρ1 => ?_) xs
      unfold forF
      cases setTg g x ρ1 <;> rfl
def whlC (c : IE) (ρ1 : Env) : Option Bool := onT (evE cl c ρ1)
def whlF (body : List IS) (ρ1 : Env) : Option Out := evSs cl body ρ1
theorem s_whl (c body) : evS cl (.whl c body) ρ = whlRun (whlC cl c) (whlF cl body) WHL ρ := by
  simp only [evS]
  rfl
theorem s_ret (e) : evS cl (.ret e) ρ = (evE cl e ρ).bind rtD := by
  simp only [evS]
  cases evE cl e ρ with
  | none => rfl
  | some r => obtain ⟨k, d⟩ := r; cases k <;> rfl
theorem s_retn : evS cl .retn ρ = some (.rt .fz .non) := by simp only [evS]
theorem s_brk : evS cl .brk ρ = some (.bk ρ) := by simp only [evS]
theorem s_cnt : evS cl .cnt ρ = some (.ct ρ) := by simp only [evS]
theorem s_pass : evS cl .pass ρ = some (.nx ρ) := by simp only [evS]
theorem s_expr (e) : evS cl (.expr e) ρ = (evE cl e ρ).bind fun _ => some (.nx ρ) := by
  simp only [evS]
  cases evE cl e ρ <;> rfl
theorem ss_nil : evSs cl [] ρ = some (.nx ρ) := by simp only [evSs]
theorem ss_cons (s ss) : evSs cl (s :: ss) ρ = seqO (evS cl s ρ) (evSs cl ss) := by
  simp only [evSs]
  unfold seqO
  split <;> simp_all
end
theorem bind_ite {α β : Type} (p : Prop) [Decidable p] (a b : Option α) (k : α → Option β) : (if p then a else b).bind k = if p then a.bind k else b.bind k := by
  split <;> rfl
/-! loops -/
/-- no turn leaves the loop -/
theorem forRun_nx {α σ : Type} (g : α → D) {F : D → Env → Option Out} (A : σ → Env → Prop) (step : σ → α → σ) :
    ∀ (xs : List α) (s : σ) (ρ : Env), (∀ (s : σ) (a : α) (ρ : Env), a ∈ xs → A s ρ → ∃ ρ', (F (g a) ρ = some (.nx ρ') ∨ F (g a) ρ = some (.ct ρ')) ∧ A (step s a) ρ') → A s ρ → ∃ ρ', forRun F (xs.map g) ρ = some (.nx ρ') ∧ A (xs.foldl step s) ρ'
  | [], s, ρ, _, h => ⟨ρ, rfl, h⟩
  | x :: xs, s, ρ, H, h => by
    obtain ⟨ρ', e, h'⟩ := H s x ρ (List.mem_cons_self ..) h
    obtain ⟨ρ2, e2, h2⟩ := forRun_nx g A step xs (step s x) ρ' (fun s a ρ m => H s a ρ (List.mem_cons_of_mem _ m)) h'
    refine ⟨ρ2, ?_, h2⟩
    rw [List.map_cons, forRun]
    rcases e with e | e <;> rw [e] <;> exact e2
/-- a turn goes on, or leaves -/
inductive Go (σ : Type) | go (s : σ) | out (k : Kd) (d : D) | stop (s : σ)
def goRun {α σ : Type} (step : σ → α → Go σ) : List α → σ → Go σ
  | [], s => .go s
  | x :: xs, s => match step s x with
    | .go s' => goRun step xs s'
    | .stop s' => .go s'
    | .out k d => .out k d
def GoOk {σ : Type} (A : σ → Env → Prop) (r : Go σ) (o : Option Out) : Prop := match r with
  | .go s => ∃ ρ, (o = some (.nx ρ) ∨ o = some (.ct ρ)) ∧ A s ρ
  | .out k d => o = some (.rt k d)
  | .stop s => ∃ ρ, o = some (.bk ρ) ∧ A s ρ
def GoEnd {σ : Type} (A : σ → Env → Prop) (r : Go σ) (o : Option Out) : Prop := match r with
  | .go s => ∃ ρ, o = some (.nx ρ) ∧ A s ρ
  | .out k d => o = some (.rt k d)
  | .stop s => ∃ ρ, o = some (.nx ρ) ∧ A s ρ
theorem forRun_go {α σ : Type} (g : α → D) {F : D → Env → Option Out} (A : σ → Env → Prop) (step : σ → α → Go σ) :
    ∀ (xs : List α) (s : σ) (ρ : Env), (∀ (s : σ) (a : α) (ρ : Env), a ∈ xs → A s ρ → GoOk A (step s a) (F (g a) ρ)) → A s ρ → GoEnd A (goRun step xs s) (forRun F (xs.map g) ρ)
  | [], s, ρ, _, h => ⟨ρ, rfl, h⟩
  | x :: xs, s, ρ, H, h => by
    have q := H s x ρ (List.mem_cons_self ..) h
    rw [List.map_cons, forRun, goRun]
    cases e : step s x with
    | go s' =>
      rw [e] at q
      obtain ⟨ρ', e2, h'⟩ := q
      have ih := forRun_go g A step xs s' ρ' (fun s a ρ m => H s a ρ (List.mem_cons_of_mem _ m)) h'
      rcases e2 with e2 | e2 <;> rw [e2] <;> exact ih
    | stop s' =>
      rw [e] at q
      obtain ⟨ρ', e2, h'⟩ := q
      rw [e2]
      exact ⟨ρ', rfl, h'⟩
    | out k d =>
      rw [e] at q
      have q : F (g x) ρ = some (.rt k d) := q
      rw [q]
      rfl
/-- a comprehension over a list, all its items taken -/
theorem lcRun_map {α : Type} (g : α → D) {F : D → Option (Option D)} (v : α → D) : ∀ xs : List α, (∀ a ∈ xs, F (g a) = some (some (v a))) → lcRun F (xs.map g) = some (xs.map v)
  | [], _ => rfl
  | x :: xs, h => by
    rw [List.map_cons, lcRun, h x (List.mem_cons_self ..)]
    simp only
    rw [lcRun_map g v xs fun a m => h a (List.mem_cons_of_mem _ m)]
    rfl
theorem lcRun_filter {α : Type} (g : α → D) {F : D → Option (Option D)} (v : α → D) (p : α → Bool) : ∀ xs : List α, (∀ a ∈ xs, F (g a) = some (if p a = true then some (v a) else none)) → lcRun F (xs.map g) = some ((xs.filter p).map v)
  | [], _ => rfl
  | x :: xs, h => by
    rw [List.map_cons, lcRun, h x (List.mem_cons_self ..)]
    simp only
    rw [lcRun_filter g v p xs fun a m => h a (List.mem_cons_of_mem _ m)]
    cases e : p x
    · rw [List.filter_cons_of_neg (by rw [e]; exact Bool.false_ne_true)]
      rfl
    · rw [List.filter_cons_of_pos e]
      rfl
/-- by places -/
theorem forRun_J {F : D → Env → Option Out} : ∀ (xs : List D) (J : Nat → Env → Prop) (ρ : Env), J 0 ρ → (∀ (i : Nat) (x : D) (ρ : Env), xs[i]? = some x → J i ρ → ∃ ρ', (F x ρ = some (.nx ρ') ∨ F x ρ = some (.ct ρ')) ∧ J (i + 1) ρ') → ∃ ρ', forRun F xs ρ = some (.nx ρ') ∧ J xs.length ρ'
  | [], J, ρ, h, _ => ⟨ρ, rfl, h⟩
  | x :: xs, J, ρ, h, H => by
    obtain ⟨ρ1, e, h1⟩ := H 0 x ρ rfl h
    obtain ⟨ρ2, e2, h2⟩ := forRun_J xs (fun i => J (i + 1)) ρ1 h1 fun i y ρ hy hj => H (i + 1) y ρ hy hj
    refine ⟨ρ2, ?_, h2⟩
    rw [forRun]
    rcases e with e | e <;> rw [e] <;> exact e2
theorem forRun_JE {F : D → Env → Option Out} (E : Kd → D → Prop) (B : Env → Prop) : ∀ (xs : List D) (J : Nat → Env → Prop) (ρ : Env), J 0 ρ → (∀ (i : Nat) (x : D) (ρ : Env), xs[i]? = some x → J i ρ → (∃ ρ', (F x ρ = some (.nx ρ') ∨ F x ρ = some (.ct ρ')) ∧ J (i + 1) ρ') ∨ (∃ k d, F x ρ = some (.rt k d) ∧ E k d) ∨ (∃ ρ', F x ρ = some (.bk ρ') ∧ B ρ')) →
    (∃ ρ', forRun F xs ρ = some (.nx ρ') ∧ J xs.length ρ') ∨ (∃ k d, forRun F xs ρ = some (.rt k d) ∧ E k d) ∨ (∃ ρ', forRun F xs ρ = some (.nx ρ') ∧ B ρ')
  | [], J, ρ, h, _ => .inl ⟨ρ, rfl, h⟩
  | x :: xs, J, ρ, h, H => by
    rw [forRun]
    rcases H 0 x ρ rfl h with ⟨ρ1, e, h1⟩ | ⟨k, d, e, h1⟩ | ⟨ρ1, e, h1⟩
    · have ih := forRun_JE E B xs (fun i => J (i + 1)) ρ1 h1 fun i y ρ hy hj => H (i + 1) y ρ hy hj
      rcases e with e | e <;> rw [e] <;> exact ih
    · rw [e]
      exact .inr (.inl ⟨k, d, rfl, h1⟩)
    · rw [e]
      exact .inr (.inr ⟨ρ1, rfl, h1⟩)
/-! data -/
theorem ixN_in {n : Nat} {i : Int} (h0 : 0 ≤ i) (h1 : i < n) : ixN n i = some i.toNat := by
  unfold ixN
  rw [if_pos h0, if_pos h1]
theorem atI_in {α : Type} {xs : List α} {i : Int} (h0 : 0 ≤ i) (h1 : i < xs.length) : atI xs i = xs[i.toNat]? := by
  unfold atI
  rw [ixN_in h0 h1]
  rfl
theorem atI_getD {α : Type} {xs : List α} {i : Int} (d : α) (h0 : 0 ≤ i) (h1 : i < xs.length) : atI xs i = some (xs.getD i.toNat d) := by
  rw [atI_in h0 h1]
  have h : i.toNat < xs.length := by omega
  rw [List.getD_eq_getElem?_getD, List.getElem?_eq_getElem h]
  rfl
theorem intsD_map : ∀ ns : List Int, intsD (ns.map .int) = some ns
  | [] => rfl
  | n :: ns => by
    rw [List.map_cons, intsD, intsD_map ns]
    rfl
theorem deps_le {k : Nat} : ∀ {ds : List D}, (∀ d ∈ ds, d.dep ≤ k) → D.deps ds ≤ k
  | [], _ => by simp only [D.deps]; exact Nat.zero_le _
  | d :: ds, h => by
    simp only [D.deps]
    exact Nat.max_le.mpr ⟨h d (List.mem_cons_self ..), deps_le fun e m => h e (List.mem_cons_of_mem _ m)⟩
theorem dep_il (ns : List Int) : D.deps (ns.map .int) ≤ 0 := deps_le fun d m => by
  obtain ⟨n, _, rfl⟩ := List.mem_map.mp m
  simp only [D.dep]
  exact Nat.le_refl 0
mutual
def D.nod : D → Bool
  | .dk _ _ => false
  | .dt _ _ => false
  | .tup xs => D.nods xs
  | .lst xs => D.nods xs
  | _ => true
def D.nods : List D → Bool
  | [] => true
  | x :: xs => D.nod x && D.nods xs
end
theorem eqvAll_refl_int : ∀ ns : List Int, PyData.eqvAll (ns.map PyData.int) (ns.map PyData.int) = true
  | [] => by simp [PyData.eqvAll]
  | n :: ns => by
    rw [List.map_cons, PyData.eqvAll, eqvAll_refl_int ns]
    simp [PyData.eqv]
mutual
theorem eqv_refl : ∀ d : D, d.nod = true → eqv d d = true
  | .non, _ => by simp [eqv, D.py, PyData.eqv]
  | .bl _, _ => by simp [eqv, D.py, PyData.eqv]
  | .int _, _ => by simp [eqv, D.py, PyData.eqv]
  | .str _, _ => by simp [eqv, D.py, PyData.eqv]
  | .tup xs, h => by
    simp only [D.nod] at h
    have := eqvs_refl xs h
    simpa [eqv, D.py, PyData.eqv] using this
  | .lst xs, h => by
    simp only [D.nod] at h
    have := eqvs_refl xs h
    simpa [eqv, D.py, PyData.eqv] using this
  | .dk _ _, h => by simp [D.nod] at h
  | .dt _ _, h => by simp [D.nod] at h
  | .scr ns, _ => by
    simp only [eqv, D.py, PyData.eqv]
    exact eqvAll_refl_int ns
theorem eqvs_refl : ∀ ds : List D, D.nods ds = true → PyData.eqvAll (D.pys ds) (D.pys ds) = true
  | [], _ => by simp [D.pys, PyData.eqvAll]
  | d :: ds, h => by
    simp only [D.nods, Bool.and_eq_true] at h
    have h1 := eqv_refl d h.1
    have h2 := eqvs_refl ds h.2
    simp only [D.pys, PyData.eqvAll, h2, Bool.and_true]
    exact h1
end
theorem nods_of : ∀ {ds : List D}, (∀ d ∈ ds, d.nod = true) → D.nods ds = true
  | [], _ => by simp only [D.nods]
  | d :: ds, h => by
    simp only [D.nods, h d (List.mem_cons_self ..), nods_of fun e m => h e (List.mem_cons_of_mem _ m), Bool.and_self]
theorem nods_il (ns : List Int) : D.nods (ns.map .int) = true := nods_of fun d m => by
  obtain ⟨n, _, rfl⟩ := List.mem_map.mp m
  simp only [D.nod]
def pD (p : Int × Int) : D := .tup [.int p.1, .int p.2]
theorem dep_pD (p : Int × Int) : (pD p).dep = 1 := by simp [pD, D.dep, D.deps]
theorem nod_pD (p : Int × Int) : (pD p).nod = true := by simp [pD, D.nod, D.nods]
theorem dep_pl (ps : List (Int × Int)) : D.deps (ps.map pD) ≤ 1 := deps_le fun d m => by
  obtain ⟨n, _, rfl⟩ := List.mem_map.mp m
  rw [dep_pD]
  exact Nat.le_refl _
theorem nods_pl (ps : List (Int × Int)) : D.nods (ps.map pD) = true := nods_of fun d m => by
  obtain ⟨n, _, rfl⟩ := List.mem_map.mp m
  exact nod_pD n
theorem mem_rangeL {a b x : Int} : x ∈ rangeL a b ↔ a ≤ x ∧ x < b := by
  unfold rangeL
  rw [List.mem_map]
  constructor
  · rintro ⟨i, hi, rfl⟩
    rw [List.mem_range] at hi
    omega
  · rintro ⟨h1, h2⟩
    exact ⟨(x - a).toNat, by rw [List.mem_range]; omega, by omega⟩
theorem len_rangeL (a b : Int) : (rangeL a b).length = (b - a).toNat := by
  unfold rangeL
  rw [List.length_map, List.length_range]
theorem get_rangeL {a b : Int} {i : Nat} (h : i < (b - a).toNat) : (rangeL a b)[i]? = some (a + (i : Nat)) := by
  unfold rangeL
  rw [List.getElem?_map, List.getElem?_range h]
  rfl
theorem setR_fz (i : Nat) (d : D) (ρ : Env) : setR (.nm i) (.fz, d) ρ = if i < ρ.length then some (ρ.set i (some (.fz, d))) else none := by simp only [setR]
theorem setR_ow (i : Nat) (d : D) (ρ : Env) : setR (.nm i) (.ow, d) ρ = if i < ρ.length then some (ρ.set i (some (.ow, d))) else none := by simp only [setR]
theorem setR_tp (is : List Nat) (ds : List D) (ρ : Env) : setR (.tp is) (.fz, .tup ds) ρ = setMany is ds ρ := by simp only [setR]
theorem b_add (i j : Int) : binD .add (.int i) (.int j) = some (.fz, .int (i + j)) := by simp only [binD]
theorem b_sub (i j : Int) : binD .sub (.int i) (.int j) = some (.fz, .int (i - j)) := by simp only [binD]
theorem sm64_of {j : Int} (h0 : -18446744073709551616 < j) (h1 : j < 18446744073709551616) : R.small64 j = true := by
  unfold R.small64
  rw [decide_eq_true (by omega), decide_eq_true (by omega)]
  rfl
theorem b_mul1 {i j : Int} (h0 : -18446744073709551616 < j) (h1 : j < 18446744073709551616) : binD .mul (.int i) (.int j) = some (.fz, .int (i * j)) := by
  simp only [binD, sm64_of h0 h1, Bool.or_true, if_true]
theorem b_mul2 {i j : Int} (h0 : -18446744073709551616 < i) (h1 : i < 18446744073709551616) : binD .mul (.int i) (.int j) = some (.fz, .int (i * j)) := by
  simp only [binD, sm64_of h0 h1, Bool.true_or, if_true]
theorem b_mod {i j : Int} (h : 0 < j) : binD .mod (.int i) (.int j) = some (.fz, .int (i % j)) := by
  simp only [binD]
  rw [if_pos (by omega), Int.fmod_eq_emod_of_nonneg _ (by omega)]
theorem b_fdiv {i j : Int} (h : 0 < j) (h2 : j < 1073741824) : binD .fdiv (.int i) (.int j) = some (.fz, .int (i / j)) := by
  simp only [binD]
  rw [if_pos (by omega), Int.fdiv_eq_ediv_of_nonneg _ (by omega)]
theorem le_lineR {n : Nat} (h : n ≤ 1000000) : n ≤ LINE := Nat.le_trans h (by decide)
theorem lt_lineR {n : Nat} (h : n ≤ 1000000) : n < LINE := Nat.lt_of_le_of_lt h (by decide)
theorem b_cat {xs ys : List D} (h : xs.length + ys.length ≤ 1000000) : binD .add (.lst xs) (.lst ys) = some (.ow, .lst (xs ++ ys)) := by
  simp only [binD, if_pos (le_lineR h)]
theorem b_catT {xs ys : List D} (h : xs.length + ys.length ≤ 1000000) : binD .add (.tup xs) (.tup ys) = some (.fz, .tup (xs ++ ys)) := by
  simp only [binD, if_pos (le_lineR h)]
theorem m_app {xs : List D} {d : D} (h : xs.length ≤ 1000000) : msD .append (.lst xs) [d] = some (.lst (xs ++ [d])) := by
  simp only [msD, if_pos (lt_lineR h)]
theorem m_rev {xs : List D} : msD .reverse (.lst xs) [] = some (.lst xs.reverse) := by simp only [msD]
theorem c_eqI (i j : Int) : cmpD .eq (.int i) (.int j) = some (decide (i = j)) := by
  simp only [cmpD, D.dep, Nat.zero_le, and_self, if_true, eqv, D.py, PyData.eqv]
  by_cases h : i = j
  · subst h
    rw [beq_self_eq_true, decide_eq_true rfl]
  · rw [beq_eq_false_iff_ne.mpr h, decide_eq_false h]
theorem c_neI (i j : Int) : cmpD .ne (.int i) (.int j) = some (decide (i ≠ j)) := by
  simp only [cmpD, D.dep, Nat.zero_le, and_self, if_true, eqv, D.py, PyData.eqv]
  by_cases h : i = j
  · subst h
    rw [beq_self_eq_true, decide_eq_false (by simp)]
    rfl
  · rw [beq_eq_false_iff_ne.mpr h, decide_eq_true h]
    rfl
theorem c_eqB (i j : Bool) : cmpD .eq (.bl i) (.bl j) = some (i == j) := by
  simp only [cmpD, D.dep, Nat.zero_le, and_self, if_true, eqv, D.py, PyData.eqv]
theorem c_refl {d : D} (h : d.nod = true) (h2 : d.dep ≤ 60) : cmpD .eq d d = some true := by
  simp only [cmpD, h2, and_self, if_true, eqv_refl d h]
theorem c_lt (i j : Int) : cmpD .lt (.int i) (.int j) = some (decide (i < j)) := by simp only [cmpD]
theorem c_le (i j : Int) : cmpD .le (.int i) (.int j) = some (decide (i ≤ j)) := by simp only [cmpD]
theorem c_gt (i j : Int) : cmpD .gt (.int i) (.int j) = some (decide (j < i)) := by simp only [cmpD]
theorem c_ge (i j : Int) : cmpD .ge (.int i) (.int j) = some (decide (j ≤ i)) := by simp only [cmpD]
def mx (i j : Int) : Int := if j > i then j else i
def mn (i j : Int) : Int := if j < i then j else i
theorem f_max (i j : Int) : biD .max [.int i, .int j] = some (.fz, .int (mx i j)) := by simp only [biD]; rfl
theorem f_min (i j : Int) : biD .min [.int i, .int j] = some (.fz, .int (mn i j)) := by simp only [biD]; rfl
theorem f_lenL (xs : List D) : biD .len [.lst xs] = some (.fz, .int xs.length) := by simp only [biD]
theorem f_lenT (xs : List D) : biD .len [.tup xs] = some (.fz, .int xs.length) := by simp only [biD]
theorem f_lenS (xs : List Int) : biD .len [.scr xs] = some (.fz, .int xs.length) := by simp only [biD]
theorem f_lenX (x : Str) : biD .len [.str x] = some (.fz, .int x.length) := by simp only [biD]
theorem f_tupL (xs : List D) : biD .tuple [.lst xs] = some (.fz, .tup xs) := by simp only [biD]
theorem f_tupT (xs : List D) : biD .tuple [.tup xs] = some (.fz, .tup xs) := by simp only [biD]
theorem f_lstL (xs : List D) : biD .list [.lst xs] = some (.ow, .lst xs) := by simp only [biD]
theorem f_lstT (xs : List D) : biD .list [.tup xs] = some (.ow, .lst xs) := by simp only [biD]
theorem f_lstS (xs : List Int) : biD .list [.scr xs] = some (.ow, .lst (xs.map .int)) := by simp only [biD]
theorem f_intB (c : Bool) : biD .int [.bl c] = some (.fz, .int (if c = true then 1 else 0)) := by simp only [biD]
theorem f_intI (c : Int) : biD .int [.int c] = some (.fz, .int c) := by simp only [biD]
theorem f_isB (c : Bool) : biD .isBool [.bl c] = some (.fz, .bl true) := by simp only [biD, isD, Option.map_some]
theorem f_lenset {ns : List Int} (h : ns.length ≤ 4000) : biD .lenset [.lst (ns.map .int)] = some (.fz, .int (dedup ns).length) := by
  simp only [biD, intsD_map, if_pos h]
theorem sm62_of {j : Int} (h0 : -1000000 ≤ j) (h1 : j ≤ 1000000) : small62 j = true := by
  unfold small62
  rw [decide_eq_true (by omega), decide_eq_true (by omega)]
  rfl
theorem k_rng1 {n : Int} (h0 : -100000 ≤ n) (h1 : n ≤ 100000) : srcD .rng [.int n] = some ((rangeL 0 n).map .int) := by
  simp only [srcD, sm62_of (j := n) (by omega) (by omega)]
  rw [if_pos ⟨trivial, le_lineR (by omega)⟩]
theorem k_rng2 {a n : Int} (ha0 : -100000 ≤ a) (ha1 : a ≤ 100000) (h0 : -100000 ≤ n) (h1 : n ≤ 100000) : srcD .rng [.int a, .int n] = some ((rangeL a n).map .int) := by
  simp only [srcD, sm62_of (j := n) (by omega) (by omega), sm62_of (j := a) (by omega) (by omega)]
  rw [if_pos ⟨trivial, trivial, le_lineR (by omega)⟩]
theorem k_seqL (xs : List D) : srcD .seq [.lst xs] = some xs := by simp only [srcD, items]
theorem k_seqT (xs : List D) : srcD .seq [.tup xs] = some xs := by simp only [srcD, items]
theorem k_seqS (xs : List Int) : srcD .seq [.scr xs] = some (xs.map .int) := by simp only [srcD, items]
theorem x_lst {xs : List D} {i : Int} : ixD (.lst xs) (.int i) = atI xs i := by simp only [ixD]
theorem x_tup {xs : List D} {i : Int} : ixD (.tup xs) (.int i) = atI xs i := by simp only [ixD]
theorem at_0 {α : Type} (x : α) (xs : List α) : atI (x :: xs) 0 = some x := by
  rw [atI_in (by omega) (by simp only [List.length_cons]; omega)]
  rfl
theorem at_1 {α : Type} (x y : α) (xs : List α) : atI (x :: y :: xs) 1 = some y := by
  rw [atI_in (by omega) (by simp only [List.length_cons]; omega)]
  rfl
theorem at_2 {α : Type} (x y z : α) (xs : List α) : atI (x :: y :: z :: xs) 2 = some z := by
  rw [atI_in (by omega) (by simp only [List.length_cons]; omega)]
  rfl
theorem at_3 {α : Type} (x y z u : α) (xs : List α) : atI (x :: y :: z :: u :: xs) 3 = some u := by
  rw [atI_in (by omega) (by simp only [List.length_cons]; omega)]
  rfl
theorem get_map_int {xs : List Int} {i : Nat} {x : D} (h : (xs.map D.int)[i]? = some x) : ∃ n, xs[i]? = some n ∧ x = .int n := by
  rw [List.getElem?_map] at h
  cases e : xs[i]? with
  | none => rw [e] at h; cases h
  | some n => rw [e] at h; exact ⟨n, rfl, (Option.some.inj h).symm⟩
theorem get_map {α : Type} {f : α → D} {xs : List α} {i : Nat} {x : D} (h : (xs.map f)[i]? = some x) : ∃ n, xs[i]? = some n ∧ x = f n := by
  rw [List.getElem?_map] at h
  cases e : xs[i]? with
  | none => rw [e] at h; cases h
  | some n => rw [e] at h; exact ⟨n, rfl, (Option.some.inj h).symm⟩
theorem get_range {a b x : Int} {i : Nat} (h : (rangeL a b)[i]? = some x) : x = a + i ∧ a ≤ x ∧ x < b := by
  have hi : i < (rangeL a b).length := (List.getElem?_eq_some_iff.mp h).1
  rw [len_rangeL] at hi
  rw [get_rangeL hi] at h
  have := Option.some.inj h
  omega
theorem run_eq {cl : Nat → List D → Option (Kd × D)} {fn : Fn} {ds : List D} (h : ds.length = fn.np) : R.run cl fn ds = finD (evSs cl fn.body (start0 fn ds)) := by
  unfold R.run
  rw [if_pos h]
theorem run_to {cl : Nat → List D → Option (Kd × D)} {fn : Fn} {ds : List D} {r : Option (Kd × D)} (h : ds.length = fn.np) (e : finD (evSs cl fn.body (start0 fn ds)) = r) : R.run cl fn ds = r := (run_eq h).trans e
theorem ev_to {tbl : List (Nat × Fn)} {n f : Nat} {fn : Fn} {ds : List D} {r : Option (Kd × D)} (h : tbl.lookup f = some fn) (e : R.run (evFn tbl n) fn ds = r) : evFn tbl (n + 1) f ds = r := by
  simp only [evFn, h]
  exact e
theorem whl_J {c : Env → Option Bool} {f : Env → Option Out} (J : Nat → Env → Prop) (E : Env → Prop) (h : ∀ i ρ, J i ρ → (c ρ = some false ∧ E ρ) ∨ (i ≠ 0 ∧ c ρ = some true ∧ ∃ ρ', (f ρ = some (.nx ρ') ∨ f ρ = some (.ct ρ')) ∧ J (i - 1) ρ')) :
    ∀ (n i : Nat) (ρ : Env), i < n → J i ρ → ∃ ρ', whlRun c f n ρ = some (.nx ρ') ∧ E ρ'
  | 0, i, ρ, hi, _ => absurd hi (Nat.not_lt_zero i)
  | n + 1, i, ρ, hi, hj => by
    rw [whlRun]
    rcases h i ρ hj with ⟨e, he⟩ | ⟨h0, e, ρ', e2, hj'⟩
    · rw [e]
      exact ⟨ρ, rfl, he⟩
    · rw [e]
      have ih := whl_J J E h n (i - 1) ρ' (by omega) hj'
      rcases e2 with e2 | e2 <;> simp only [e2] <;> exact ih
theorem f_isI (i : Int) : biD .isInt [.int i] = some (.fz, .bl true) := by simp only [biD, isD, Option.map_some]
theorem f_isIB (i : Bool) : biD .isInt [.bl i] = some (.fz, .bl true) := by simp only [biD, isD, Option.map_some]
theorem f_isBI (i : Int) : biD .isBool [.int i] = some (.fz, .bl false) := by simp only [biD, isD, Option.map_some]
theorem f_isL (i : List D) : biD .isList [.lst i] = some (.fz, .bl true) := by simp only [biD, isD, Option.map_some]
theorem f_isT (i : List D) : biD .isTuple [.tup i] = some (.fz, .bl true) := by simp only [biD, isD, Option.map_some]
theorem f_isS (i : Str) : biD .isStr [.str i] = some (.fz, .bl true) := by simp only [biD, isD, Option.map_some]
theorem c_is (d : D) : cmpD .is d .non = some (isNon d) := by simp only [cmpD]
theorem c_isnt (d : D) : cmpD .isnt d .non = some (!isNon d) := by simp only [cmpD]
theorem isNon_non : isNon .non = true := rfl
theorem isNon_tup (xs : List D) : isNon (.tup xs) = false := rfl
theorem isNon_int (i : Int) : isNon (.int i) = false := rfl
theorem isNon_bl (i : Bool) : isNon (.bl i) = false := rfl
theorem isNon_lst (xs : List D) : isNon (.lst xs) = false := rfl
theorem cut_nat {α : Type} (xs : List α) (a b : Nat) : cut xs (some (a : Int)) (some (b : Int)) = (xs.drop (min a xs.length)).take (min b xs.length - min a xs.length) := by
  unfold cut
  rw [HT.sIx_nat, HT.sIx_nat]
theorem cut_from {α : Type} (xs : List α) (a : Nat) : cut xs (some (a : Int)) none = xs.drop (min a xs.length) := by
  unfold cut
  rw [HT.sIx_nat, HT.sIx_none]
  exact List.take_of_length_le (by rw [List.length_drop]; omega)
theorem cut_to {α : Type} (xs : List α) (b : Nat) : cut xs none (some (b : Int)) = xs.take (min b xs.length) := by
  unfold cut
  rw [HT.sIx_nat, HT.sIx_none]
  simp
def loopO (r : Option Out) (k : Env → Option Out) : Option Out := match r with
  | some (.nx ρ) => k ρ
  | some (.ct ρ) => k ρ
  | some (.bk ρ) => some (.nx ρ)
  | some (.rt a d) => some (.rt a d)
  | none => none
theorem loopO_nx (ρ : Env) (k) : loopO (some (.nx ρ)) k = k ρ := rfl
theorem loopO_ct (ρ : Env) (k) : loopO (some (.ct ρ)) k = k ρ := rfl
theorem loopO_bk (ρ : Env) (k) : loopO (some (.bk ρ)) k = some (.nx ρ) := rfl
theorem loopO_rt (a d) (k) : loopO (some (.rt a d)) k = some (.rt a d) := rfl
theorem forRun_nil (f : D → Env → Option Out) (ρ : Env) : forRun f [] ρ = some (.nx ρ) := by simp only [forRun]
theorem forRun_cons (f : D → Env → Option Out) (x : D) (xs : List D) (ρ : Env) : forRun f (x :: xs) ρ = loopO (f x ρ) (forRun f xs) := by
  rw [forRun]
  unfold loopO
  rcases f x ρ with _ | o
  · rfl
  · cases o <;> rfl
theorem flat_il (ns : List Int) : (ns.map D.int).all flat = true := by
  rw [List.all_eq_true]
  intro d m
  obtain ⟨n, _, rfl⟩ := List.mem_map.mp m
  rfl
theorem any_il (ns : List Int) (i : Int) : ((ns.map D.int).any fun z => eqv z (.int i)) = decide (i ∈ ns) := by
  induction ns with
  | nil => rfl
  | cons n ns ih =>
    rw [List.map_cons, List.any_cons, ih]
    have e : eqv (.int n) (.int i) = decide (n = i) := by
      simp only [eqv, D.py, PyData.eqv]
      by_cases h : n = i
      · subst h; rw [beq_self_eq_true, decide_eq_true rfl]
      · rw [beq_eq_false_iff_ne.mpr h, decide_eq_false h]
    rw [e]
    by_cases h : n = i
    · subst h
      simp
    · have h2 : ¬ i = n := fun z => h z.symm
      simp [h, h2]
theorem c_inT (i : Int) (ns : List Int) : cmpD .isin (.int i) (.tup (ns.map .int)) = some (decide (i ∈ ns)) := by
  simp only [cmpD, flat_il, any_il, flat, Bool.and_self, if_true]
theorem c_ninT (i : Int) (ns : List Int) : cmpD .notin (.int i) (.tup (ns.map .int)) = some (!decide (i ∈ ns)) := by
  simp only [cmpD, flat_il, any_il, flat, Bool.and_self, if_true]
theorem c_inL (i : Int) (ns : List Int) : cmpD .isin (.int i) (.lst (ns.map .int)) = some (decide (i ∈ ns)) := by
  have := dep_il ns
  have h : (D.int i).dep ≤ 60 ∧ D.deps (ns.map .int) ≤ 60 := ⟨by simp [D.dep], by omega⟩
  simp only [cmpD, any_il, h, and_self, if_true]
theorem c_ninL (i : Int) (ns : List Int) : cmpD .notin (.int i) (.lst (ns.map .int)) = some (!decide (i ∈ ns)) := by
  have := dep_il ns
  have h : (D.int i).dep ≤ 60 ∧ D.deps (ns.map .int) ≤ 60 := ⟨by simp [D.dep], by omega⟩
  simp only [cmpD, any_il, h, and_self, if_true]
section
variable {cl : Nat → List D → Option (Kd × D)} {ρ : Env}
def lstO : D → Option (List D)
  | .lst xs => some xs
  | _ => none
theorem lstO_lst (xs : List D) : lstO (.lst xs) = some xs := rfl
def forqF (cl : Nat → List D → Option (Kd × D)) (g : Tg) (c e : IE) (x : D) (ρ1 : Env) : Option Out := (setTg g x ρ1).bind fun ρ2 => (onT (evE cl c ρ2)).bind fun t => if t = true then (evE cl e ρ2).bind rtD else some (.nx ρ2)
theorem s_forq (g i c e) : evS cl (.forq g i c e) ρ = (owE ρ[i]?).bind fun o => (lstO o).bind fun xs => if (tgS g).contains i = true then none else forRun (forqF cl g c e) xs ρ := by
  simp only [evS]
  rw [ownAt_eq]
  cases owE ρ[i]? with
  | none => rfl
  | some o =>
    cases o with
    | lst xs =>
      show (if (tgS g).contains i = true then none else _) = (if (tgS g).contains i = true then none else _)
      split
      · rfl
      · congr 1
        funext x ρ1
        unfold forqF
        cases setTg g x ρ1 with
        | none => rfl
        | some ρ2 =>
          simp only [Option.bind_some]
          cases onT (evE cl c ρ2) with
          | none => rfl
          | some b =>
            cases b with
            | false => rfl
            | true =>
              simp only [Option.bind_some, if_true]
              cases evE cl e ρ2 with
              | none => rfl
              | some r => obtain ⟨k, d⟩ := r; cases k <;> rfl
    | _ => rfl
theorem f_maxd (d : Int) (ns : List Int) : biD (.maxd d) [.lst (ns.map .int)] = some (.fz, .int (maxDI d ns)) := by
  simp only [biD, intsD_map]
theorem b_mulT {xs : List D} {k : Int} (h0 : xs.length ≠ 0) (h1 : xs.length ≤ 1000) (k0 : -1000 ≤ k) (k1 : k ≤ 1000) : binD .mul (.tup xs) (.int k) = some (.fz, .tup (List.replicate k.toNat xs).flatten) := by
  simp only [binD]
  rw [if_pos ⟨⟨h0, h1⟩, k0, k1⟩]
end
theorem f_sum (ns : List Int) : biD .sum [.lst (ns.map .int)] = some (.fz, .int ns.sum) := by
  simp only [biD, intsD_map, Option.map_some]
end R

set_option linter.all false
namespace RL
open PySem R L2
/- time_between: 0=book 1=s 2=t 3=scenes 4=minutes 5=scene -/
def b34 : List IS :=
  [.set (.nm 3) (.ix (.var 0) (.int 2)),
  .set (.nm 4) (.ix (.ix (.var 3) (.var 1)) (.int 2)),
  .for_ (.nm 5) .seq [.slc (.var 3) (some (.bin .add (.var 1) (.int 1))) (some (.var 2))] [.set (.nm 4) (.bin .add (.bin .add (.var 4) (.ix (.var 5) (.int 1))) (.ix (.var 5) (.int 2))),
    .frz 4],
  .ret (.var 4)]
def fn34 : Fn := ⟨3, 6, b34⟩
/- _law_cell_at: 0=_law_script 1=_law_k -/
def b6 : List IS :=
  [.ite (.cmp .lt (.var 1) (.bi .len [.var 0])) [.ret (.ix (.var 0) (.var 1))] [],
  .ret (.int 0)]
def fn6 : Fn := ⟨2, 2, b6⟩
/- _law_mixed: 0=_law_cell 1=_law_k -/
def b35 : List IS :=
  [.ret (.bin .mod (.bin .add (.bin .add (.bin .mul (.var 0) (.int 48271)) (.bin .mul (.bin .mul (.var 1) (.var 1)) (.int 69621))) (.int 5)) (.int 2147483647))]
def fn35 : Fn := ⟨2, 2, b35⟩
/- _law_minutes: 0=_law_n -/
def b36 : List IS :=
  [.ret (.ix (.lst [.int 0, .bin .mod (.bin .fdiv (.var 0) (.int 5)) (.int 7), .bin .mod (.bin .fdiv (.var 0) (.int 5)) (.int 31), .bin .mod (.bin .fdiv (.var 0) (.int 5)) (.int 400), .bin .mod (.bin .mul (.var 0) (.var 0)) (.bin .pow (.int 10) (.int 9))]) (.bin .mod (.var 0) (.int 5)))]
def fn36 : Fn := ⟨1, 1, b36⟩
/- _law_parts: 0=_law_n 1=_law_many 2=_law_found 3=_law_k 4=_law_m 5=_law_off 6=_law_put_on -/
def b37 : List IS :=
  [.set (.nm 2) (.lst []),
  .for_ (.nm 3) .rng [.var 1] [.set (.nm 4) (.call 35 [.var 0, .bin .add (.bin .mul (.int 3) (.var 3)) (.int 1)]),
    .frz 4,
    .set (.nm 5) (.call 36 [.bin .fdiv (.var 4) (.int 7)]),
    .frz 5,
    .set (.nm 6) (.call 36 [.bin .fdiv (.var 4) (.int 11)]),
    .frz 6,
    .ms .append 2 [.tup [.bin .add (.str "p") (.ix (.str "abcdefgh") (.var 3)), .ix (.str "stb") (.bin .mod (.var 4) (.int 3)), .ix (.lst [.int 0, .var 5]) (.bi .int [.cmp .gt (.bin .mod (.var 4) (.int 4)) (.int 0)]), .ix (.lst [.int 0, .var 6]) (.bi .int [.cmp .gt (.bin .mod (.bin .fdiv (.var 4) (.int 3)) (.int 4)) (.int 0)])]]],
  .ret (.bi .tuple [.var 2])]
def fn37 : Fn := ⟨2, 7, b37⟩
/- _law_scenes: 0=_law_cells 1=_law_many 2=_law_found 3=_law_k 4=_law_cell 5=_law_m 6=_law_numbers 7=_law_name 8=_law_part -/
def b38 : List IS :=
  [.set (.nm 2) (.lst []),
  .for_ (.tp [3, 4]) .enum [.var 0] [.set (.nm 5) (.call 35 [.var 4, .var 3]),
    .frz 5,
    .set (.nm 6) (.lc (.var 8) (.nm 8) .rng [.var 1] [.cmp .eq (.bin .mod (.bin .fdiv (.var 5) (.ix (.lst [.int 8, .int 16, .int 32, .int 64, .int 128, .int 256, .int 512, .int 1024]) (.var 8))) (.int 2)) (.int 1)]),
    .ite (.cmp .gt (.bin .mod (.var 5) (.int 3)) (.int 0)) [.set (.nm 6) (.slc (.var 6) none (some (.bin .add (.int 1) (.bin .mod (.bin .fdiv (.var 5) (.int 2048)) (.int 2)))))] [],
    .ite (.cmp .eq (.bin .mod (.bin .fdiv (.var 5) (.int 4096)) (.int 2)) (.int 1)) [.ms .reverse 6 []] [],
    .set (.nm 7) (.bin .add (.str "s") (.ix (.str "abcdefghijklmnopqrstuvwx") (.var 3))),
    .frz 7,
    .ms .append 2 [.tup [.var 7, .call 36 [.bin .fdiv (.var 5) (.int 8192)], .call 36 [.bin .fdiv (.var 5) (.int 64)], .bi .tuple [.var 6]]]],
  .ret (.bi .tuple [.var 2])]
def fn38 : Fn := ⟨2, 9, b38⟩
/- law: 0=_law_script 1=_law_many 2=_law_scenes_here 3=_law_book 4=_law_n 5=_law_s 6=_law_t 7=_law_due 8=_law_at 9=_law_found -/
def b39 : List IS :=
  [.set (.nm 1) (.bin .mod (.call 6 [.var 0, .int 0]) (.int 9)),
  .set (.nm 2) (.call 38 [.bin .add (.slc (.var 0) (some (.int 3)) (some (.int 27))) (.slc (.lst [.int 0, .int 1]) (some (.bi .len [.slc (.var 0) (some (.int 3)) (some (.int 27))])) none), .var 1]),
  .frz 2,
  .set (.nm 3) (.tup [.call 37 [.call 6 [.var 0, .int 1], .var 1], .tup [], .var 2, .tup [], .tup []]),
  .set (.nm 4) (.call 35 [.call 6 [.var 0, .int 2], .int 9]),
  .frz 4,
  .set (.nm 5) (.bin .mod (.var 4) (.bin .sub (.bi .len [.var 2]) (.int 1))),
  .set (.nm 6) (.bin .add (.bin .add (.var 5) (.int 1)) (.bin .mod (.bin .fdiv (.var 4) (.int 24)) (.bin .sub (.bin .sub (.bi .len [.var 2]) (.int 1)) (.var 5)))),
  .set (.nm 7) (.int 0),
  .set (.nm 8) (.var 5),
  .whl (.cmp .lt (.var 8) (.var 6)) [.set (.nm 7) (.bin .add (.var 7) (.ix (.ix (.var 2) (.var 8)) (.int 2))),
    .frz 7,
    .set (.nm 8) (.bin .add (.var 8) (.int 1)),
    .ite (.cmp .lt (.var 8) (.var 6)) [.set (.nm 7) (.bin .add (.var 7) (.ix (.ix (.var 2) (.var 8)) (.int 1))),
      .frz 7] []],
  .set (.nm 9) (.call 34 [.var 3, .var 5, .var 6]),
  .frz 9,
  .ite (.or (.not (.bi .isInt [.var 9])) (.or (.bi .isBool [.var 9]) (.cmp .ne (.var 9) (.var 7)))) [.ret (.bl false)] [],
  .ret (.and (.cmp .eq (.call 34 [.var 3, .var 5, .bin .add (.var 5) (.int 1)]) (.ix (.ix (.var 2) (.var 5)) (.int 2))) (.cmp .eq (.ix (.var 3) (.int 2)) (.var 2)))]
def fn39 : Fn := ⟨1, 10, b39⟩
/- time_needed: 0=book 1=i 2=j -/
def b40 : List IS :=
  [.ret (.bin .add (.ix (.ix (.ix (.var 0) (.int 0)) (.var 1)) (.int 2)) (.ix (.ix (.ix (.var 0) (.int 0)) (.var 2)) (.int 3)))]
def fn40 : Fn := ⟨3, 3, b40⟩
/- too_short: 0=book 1=s 2=t 3=i 4=j 5=have 6=need -/
def b41 : List IS :=
  [.ite (.or (.cmp .notin (.var 3) (.ix (.ix (.ix (.var 0) (.int 2)) (.var 1)) (.int 3))) (.cmp .notin (.var 4) (.ix (.ix (.ix (.var 0) (.int 2)) (.var 2)) (.int 3)))) [.ret (.non)] [],
  .set (.nm 5) (.call 34 [.var 0, .var 1, .var 2]),
  .frz 5,
  .set (.nm 6) (.call 40 [.var 0, .var 3, .var 4]),
  .frz 6,
  .ite (.cmp .lt (.var 5) (.var 6)) [.ret (.tup [.str "change", .var 1, .var 2, .var 5, .var 6])] [],
  .ret (.non)]
def fn41 : Fn := ⟨5, 7, b41⟩
/- reason_of: 0=book 1=i 2=j 3=many 4=s 5=t 6=one 7=other 8=reason -/
def b42 : List IS :=
  [.set (.nm 3) (.bi .len [.ix (.var 0) (.int 2)]),
  .for_ (.nm 4) .rng [.var 3] [.ite (.and (.cmp .isin (.var 1) (.ix (.ix (.ix (.var 0) (.int 2)) (.var 4)) (.int 3))) (.cmp .isin (.var 2) (.ix (.ix (.ix (.var 0) (.int 2)) (.var 4)) (.int 3)))) [.ret (.tup [.str "scene", .var 4])] [],
    .for_ (.nm 5) .rng [.bin .add (.var 4) (.int 1), .var 3] [.for_ (.tp [6, 7]) .seq [.tup [.tup [.var 1, .var 2], .tup [.var 2, .var 1]]] [.set (.nm 8) (.call 41 [.var 0, .var 4, .var 5, .var 6, .var 7]),
        .frz 8,
        .ite (.cmp .isnt (.var 8) (.non)) [.ret (.var 8)] []]]],
  .ret (.non)]
def fn42 : Fn := ⟨3, 9, b42⟩
/- _law_clock: 0=_law_scenes_here 1=_law_begins 2=_law_now 3=_law_scene -/
def b43 : List IS :=
  [.set (.nm 1) (.lst []),
  .set (.nm 2) (.int 0),
  .for_ (.nm 3) .seq [.var 0] [.ms .append 1 [.var 2],
    .set (.nm 2) (.bin .add (.bin .add (.var 2) (.ix (.var 3) (.int 1))) (.ix (.var 3) (.int 2))),
    .frz 2],
  .ret (.var 1)]
def fn43 : Fn := ⟨1, 4, b43⟩
/- _law_due: 0=_law_parts_here 1=_law_scenes_here 2=_law_i 3=_law_j 4=_law_begins 5=_law_s 6=_law_has 7=_law_t 8=_law_have 9=_law_one 10=_law_other 11=_law_need -/
def b44 : List IS :=
  [.set (.nm 4) (.call 43 [.var 1]),
  .frz 4,
  .for_ (.nm 5) .rng [.bi .len [.var 1]] [.set (.nm 6) (.ix (.ix (.var 1) (.var 5)) (.int 3)),
    .ite (.and (.cmp .isin (.var 2) (.var 6)) (.cmp .isin (.var 3) (.var 6))) [.ret (.tup [.str "scene", .var 5])] [],
    .for_ (.nm 7) .rng [.bin .add (.var 5) (.int 1), .bi .len [.var 1]] [.set (.nm 8) (.bin .sub (.bin .sub (.ix (.var 4) (.var 7)) (.ix (.var 4) (.var 5))) (.ix (.ix (.var 1) (.var 5)) (.int 1))),
      .for_ (.tp [9, 10]) .seq [.lst [.tup [.var 2, .var 3], .tup [.var 3, .var 2]]] [.set (.nm 11) (.bin .add (.ix (.ix (.var 0) (.var 9)) (.int 2)) (.ix (.ix (.var 0) (.var 10)) (.int 3))),
        .frz 11,
        .ite (.and (.cmp .isin (.var 9) (.var 6)) (.and (.cmp .isin (.var 10) (.ix (.ix (.var 1) (.var 7)) (.int 3))) (.cmp .lt (.var 8) (.var 11)))) [.ret (.tup [.str "change", .var 5, .var 7, .var 8, .var 11])] []]]],
  .ret (.non)]
def fn44 : Fn := ⟨4, 12, b44⟩
/- _law_alike: 0=_law_found 1=_law_due_here 2=_law_number -/
def b45 : List IS :=
  [.ite (.or (.cmp .is (.var 1) (.non)) (.cmp .is (.var 0) (.non))) [.ret (.and (.cmp .is (.var 0) (.non)) (.cmp .is (.var 1) (.non)))] [],
  .ite (.or (.not (.bi .isTuple [.var 0])) (.or (.not (.bi .isStr [.ix (.var 0) (.int 0)])) (.cmp .ne (.var 0) (.var 1)))) [.ret (.bl false)] [],
  .ret (.cmp .eq (.lc (.var 2) (.nm 2) .seq [.slc (.var 0) (some (.int 1)) none] [.or (.not (.bi .isInt [.var 2])) (.bi .isBool [.var 2])]) (.lst []))]
def fn45 : Fn := ⟨2, 3, b45⟩
/- law: 0=_law_script 1=_law_many 2=_law_parts_here 3=_law_scenes_here 4=_law_book 5=_law_j 6=_law_i 7=_law_due_here -/
def b46 : List IS :=
  [.set (.nm 1) (.bin .add (.int 2) (.bin .mod (.call 6 [.var 0, .int 0]) (.int 7))),
  .set (.nm 2) (.call 37 [.call 6 [.var 0, .int 1], .var 1]),
  .frz 2,
  .set (.nm 3) (.call 38 [.slc (.var 0) (some (.int 3)) (some (.int 15)), .var 1]),
  .frz 3,
  .set (.nm 4) (.tup [.var 2, .tup [], .var 3, .tup [], .tup []]),
  .for_ (.nm 5) .rng [.var 1] [.for_ (.nm 6) .rng [.var 5] [.set (.nm 7) (.call 44 [.var 2, .var 3, .var 6, .var 5]),
      .frz 7,
      .ite (.or (.not (.call 45 [.call 42 [.var 4, .var 6, .var 5], .var 7])) (.not (.call 45 [.call 42 [.var 4, .var 5, .var 6], .var 7]))) [.ret (.bl false)] []]],
  .ret (.cmp .eq (.var 4) (.tup [.var 2, .tup [], .var 3, .tup [], .tup []]))]
def fn46 : Fn := ⟨1, 8, b46⟩
/- clashes_of: 0=book 1=found 2=j 3=i -/
def b47 : List IS :=
  [.set (.nm 1) (.lst []),
  .for_ (.nm 2) .rng [.bi .len [.ix (.var 0) (.int 0)]] [.for_ (.nm 3) .rng [.var 2] [.ite (.cmp .isnt (.call 42 [.var 0, .var 3, .var 2]) (.non)) [.ms .append 1 [.tup [.var 3, .var 2]]] []]],
  .ret (.bi .sorted [.var 1])]
def fn47 : Fn := ⟨1, 4, b47⟩
/- _law_clash: 0=_law_parts_here 1=_law_scenes_here 2=_law_i 3=_law_j 4=_law_now 5=_law_last 6=_law_scene 7=_law_one 8=_law_other -/
def b48 : List IS :=
  [.set (.nm 4) (.int 0),
  .set (.nm 5) (.dnew false),
  .for_ (.nm 6) .seq [.var 1] [.ite (.and (.cmp .isin (.var 2) (.ix (.var 6) (.int 3))) (.cmp .isin (.var 3) (.ix (.var 6) (.int 3)))) [.ret (.bl true)] [],
    .for_ (.tp [7, 8]) .seq [.lst [.tup [.var 2, .var 3], .tup [.var 3, .var 2]]] [.ite (.and (.cmp .isin (.var 8) (.ix (.var 6) (.int 3))) (.and (.cmp .isin (.var 7) (.var 5)) (.cmp .lt (.bin .sub (.var 4) (.ix (.var 5) (.var 7))) (.bin .add (.ix (.ix (.var 0) (.var 7)) (.int 2)) (.ix (.ix (.var 0) (.var 8)) (.int 3)))))) [.ret (.bl true)] []],
    .set (.nm 4) (.bin .add (.var 4) (.ix (.var 6) (.int 1))),
    .frz 4,
    .for_ (.nm 7) .seq [.tup [.var 2, .var 3]] [.ite (.cmp .isin (.var 7) (.ix (.var 6) (.int 3))) [.setix 5 (.var 7) (.var 4)] []],
    .set (.nm 4) (.bin .add (.var 4) (.ix (.var 6) (.int 2))),
    .frz 4],
  .ret (.bl false)]
def fn48 : Fn := ⟨4, 9, b48⟩
/- _law_pairs: 0=_law_many 1=_law_found 2=_law_i 3=_law_j -/
def b49 : List IS :=
  [.set (.nm 1) (.lst []),
  .frz 1,
  .for_ (.nm 2) .rng [.var 0] [.set (.nm 1) (.bin .add (.var 1) (.lc (.tup [.var 2, .var 3]) (.nm 3) .rng [.bin .add (.var 2) (.int 1), .var 0] [])),
    .frz 1],
  .ret (.var 1)]
def fn49 : Fn := ⟨1, 4, b49⟩
/- law: 0=_law_script 1=_law_many 2=_law_parts_here 3=_law_scenes_here 4=_law_due 5=_law_book 6=_law_found 7=_law_calm 8=_law_shared 9=_law_i 10=_law_j 11=_law_pair 12=_law_part 13=_law_scene -/
def b50 : List IS :=
  [.set (.nm 1) (.bin .mod (.call 6 [.var 0, .int 0]) (.int 9)),
  .set (.nm 2) (.call 37 [.call 6 [.var 0, .int 1], .var 1]),
  .frz 2,
  .set (.nm 3) (.call 38 [.slc (.var 0) (some (.int 2)) (some (.int 18)), .var 1]),
  .frz 3,
  .set (.nm 4) (.lc (.var 11) (.nm 11) .seq [.call 49 [.var 1]] [.call 48 [.var 2, .var 3, .ix (.var 11) (.int 0), .ix (.var 11) (.int 1)]]),
  .frz 4,
  .set (.nm 5) (.tup [.var 2, .tup [], .var 3, .tup [], .tup []]),
  .set (.nm 6) (.call 47 [.var 5]),
  .ite (.or (.not (.bi .isList [.var 6])) (.cmp .ne (.var 6) (.var 4))) [.ret (.bl false)] [],
  .ms .append 6 [.tup [.int 0, .int 0]],
  .set (.nm 7) (.bi .tuple [.lc (.tup [.ix (.var 12) (.int 0), .ix (.var 12) (.int 1), .int 0, .int 0]) (.nm 12) .seq [.var 2] []]),
  .set (.nm 8) (.lst []),
  .for_ (.tp [9, 10]) .seq [.call 49 [.var 1]] [.ite (.cmp .ne (.lc (.var 13) (.nm 13) .seq [.var 3] [.and (.cmp .isin (.var 9) (.ix (.var 13) (.int 3))) (.cmp .isin (.var 10) (.ix (.var 13) (.int 3)))]) (.lst [])) [.ms .append 8 [.tup [.var 9, .var 10]]] []],
  .ret (.and (.cmp .eq (.call 47 [.var 5]) (.var 4)) (.cmp .eq (.call 47 [.tup [.var 7, .tup [], .var 3, .tup [], .tup []]]) (.var 8)))]
def fn50 : Fn := ⟨1, 14, b50⟩
/- faults_of: 0=book 1=casting 2=found 3=part 4=player 5=one 6=other -/
def b51 : List IS :=
  [.set (.nm 2) (.lst []),
  .for_ (.tp [3, 4]) .enum [.var 1] [.ite (.cmp .is (.var 4) (.non)) [.ms .append 2 [.tup [.str "nobody", .var 3]]] [.ite (.cmp .notin (.ix (.ix (.ix (.var 0) (.int 0)) (.var 3)) (.int 1)) (.ix (.ix (.ix (.var 0) (.int 1)) (.var 4)) (.int 1))) [.ms .append 2 [.tup [.str "voice", .var 3, .var 4]]] []]],
  .for_ (.tp [5, 6]) .seq [.call 47 [.var 0]] [.ite (.and (.cmp .isnt (.ix (.var 1) (.var 5)) (.non)) (.cmp .eq (.ix (.var 1) (.var 5)) (.ix (.var 1) (.var 6)))) [.ms .append 2 [.tup [.str "clash", .var 5, .var 6]]] []],
  .ret (.var 2)]
def fn51 : Fn := ⟨2, 7, b51⟩
/- _law_mix: 0=_law_cell 1=_law_k -/
def b7 : List IS :=
  [.ret (.bin .mod (.bin .add (.bin .mul (.bin .mod (.var 0) (.int 1000003)) (.bin .add (.int 48271) (.bin .mul (.bin .mul (.int 15838) (.var 1)) (.var 1)))) (.bin .mul (.int 69621) (.var 1))) (.int 2147483647))]
def fn7 : Fn := ⟨2, 2, b7⟩
/- _law_name: 0=_law_cell 1=_law_k 2=_law_letter 3=_law_tail 4=_law_at -/
def b8 : List IS :=
  [.set (.nm 2) (.ix (.str "abcdefghijklmnopqrstuvwxyz") (.bin .mod (.bin .add (.var 0) (.bin .mul (.var 1) (.ix (.lst [.int 1, .int 3, .int 5, .int 7]) (.bin .mod (.bin .fdiv (.var 0) (.int 26)) (.int 4))))) (.int 26))),
  .set (.nm 3) (.ix (.lst [.str "", .str "a", .str "ba", .str "zzzzzzz"]) (.bin .mod (.bin .fdiv (.var 0) (.int 104)) (.int 4))),
  .set (.nm 4) (.bin .mod (.bin .fdiv (.var 0) (.int 416)) (.bin .add (.bi .len [.var 3]) (.int 1))),
  .ret (.bin .add (.bin .add (.slc (.var 3) none (some (.var 4))) (.var 2)) (.slc (.var 3) (some (.var 4)) none))]
def fn8 : Fn := ⟨2, 5, b8⟩
/- _law_minutes: 0=_law_number -/
def b9 : List IS :=
  [.ret (.bin .mod (.bin .fdiv (.var 0) (.int 6)) (.ix (.lst [.int 7, .int 7, .int 40, .bin .pow (.int 10) (.int 9)]) (.bin .add (.bin .fdiv (.bin .mod (.var 0) (.int 6)) (.int 2)) (.bin .fdiv (.bin .mod (.var 0) (.int 6)) (.int 5)))))]
def fn9 : Fn := ⟨1, 1, b9⟩
/- _law_part: 0=_law_cell 1=_law_k 2=_law_base 3=_law_number 4=_law_voice -/
def b10 : List IS :=
  [.set (.nm 3) (.call 7 [.var 0, .var 1]),
  .frz 3,
  .set (.nm 4) (.ix (.lst [.str "a", .str "b", .str "a", .slc (.call 8 [.bin .mul (.int 7) (.var 2), .var 3]) none (some (.int 1))]) (.bin .mod (.var 3) (.int 4))),
  .ret (.tup [.call 8 [.var 2, .var 1], .var 4, .call 9 [.bin .fdiv (.var 3) (.int 4)], .call 9 [.call 7 [.var 0, .bin .add (.var 1) (.int 20)]]])]
def fn10 : Fn := ⟨3, 5, b10⟩
/- _law_player: 0=_law_cell 1=_law_k 2=_law_base 3=_law_number 4=_law_voices -/
def b11 : List IS :=
  [.set (.nm 3) (.call 7 [.var 0, .var 1]),
  .frz 3,
  .set (.nm 4) (.ix (.lst [.str "ab", .str "a", .str "bca", .str "", .str "abcdefghijklmnopqrstuvwxyz", .str "zb"]) (.bin .mod (.var 3) (.int 6))),
  .ret (.tup [.call 8 [.var 2, .var 1], .var 4, .call 9 [.bin .fdiv (.var 3) (.int 6)]])]
def fn11 : Fn := ⟨3, 5, b11⟩
/- _law_scene: 0=_law_cell 1=_law_k 2=_law_base 3=_law_many 4=_law_number 5=_law_some 6=_law_middle 7=_law_pause 8=_law_j -/
def b12 : List IS :=
  [.set (.nm 4) (.call 7 [.var 0, .bin .add (.var 1) (.int 40)]),
  .frz 4,
  .set (.nm 5) (.lc (.var 8) (.nm 8) .rng [.var 3] [.cmp .eq (.bin .mod (.bin .fdiv (.var 4) (.ix (.lst [.int 1, .int 3, .int 9, .int 27, .int 81, .int 243, .int 729, .int 2187]) (.var 8))) (.int 3)) (.int 0)]),
  .frz 5,
  .set (.nm 6) (.bin .mod (.var 0) (.bin .add (.bi .len [.var 5]) (.int 1))),
  .set (.nm 4) (.call 7 [.var 0, .var 1]),
  .frz 4,
  .set (.nm 7) (.call 9 [.call 7 [.var 0, .bin .add (.var 1) (.int 20)]]),
  .frz 7,
  .ret (.tup [.call 8 [.var 2, .var 1], .call 9 [.var 4], .var 7, .bi .tuple [.bin .add (.slc (.var 5) (some (.var 6)) none) (.slc (.var 5) none (some (.var 6)))]])]
def fn12 : Fn := ⟨4, 9, b12⟩
/- _law_pairs: 0=_law_cell 1=_law_one 2=_law_other 3=_law_share 4=_law_found 5=_law_k 6=_law_middle 7=_law_number 8=_law_pair -/
def b13 : List IS :=
  [.set (.nm 4) (.lst []),
  .for_ (.nm 5) .rng [.bin .mul (.var 1) (.var 2)] [.set (.nm 7) (.call 7 [.var 0, .var 5]),
    .frz 7,
    .set (.nm 8) (.tup [.bin .fdiv (.var 5) (.var 2), .bin .mod (.var 5) (.var 2)]),
    .ite (.cmp .eq (.bin .mod (.bin .fdiv (.var 7) (.int 64)) (.var 3)) (.int 0)) [.ms .append 4 [.var 8]] []],
  .set (.nm 6) (.bin .mod (.var 0) (.bin .add (.bi .len [.var 4]) (.int 1))),
  .ret (.bin .add (.slc (.var 4) (some (.var 6)) none) (.slc (.var 4) none (some (.var 6))))]
def fn13 : Fn := ⟨4, 9, b13⟩
/- _law_drawn: 0=_law_script 1=_law_at 2=_law_cells 3=_law_many 4=_law_parts 5=_law_players 6=_law_scenes 7=_law_likes 8=_law_covers 9=_law_k 10=_law_cell 11=_law_player_here 12=_law_part_here -/
def b14 : List IS :=
  [.set (.nm 2) (.lc (.call 6 [.var 0, .bin .add (.var 1) (.var 9)]) (.nm 9) .rng [.int 8] []),
  .frz 2,
  .set (.nm 3) (.bin .add (.bin .mod (.ix (.var 2) (.int 1)) (.int 7)) (.bin .mul (.int 2) (.bi .int [.and (.cmp .eq (.bin .mod (.bin .fdiv (.ix (.var 2) (.int 1)) (.int 7)) (.int 8)) (.int 5)) (.cmp .eq (.bin .mod (.ix (.var 2) (.int 1)) (.int 7)) (.int 6))]))),
  .set (.nm 4) (.bi .tuple [.lc (.call 10 [.ix (.var 2) (.int 2), .var 9, .ix (.var 2) (.int 0)]) (.nm 9) .rng [.var 3] []]),
  .set (.nm 5) (.bi .tuple [.lc (.call 11 [.ix (.var 2) (.int 3), .var 9, .ix (.var 2) (.int 4)]) (.nm 9) .rng [.bin .mod (.bin .fdiv (.ix (.var 2) (.int 1)) (.int 56)) (.int 7)] []]),
  .set (.nm 6) (.lst []),
  .for_ (.tp [9, 10]) .enum [.slc (.var 0) (some (.bin .add (.var 1) (.int 8))) (some (.bin .add (.var 1) (.int 17)))] [.ms .append 6 [.call 12 [.var 10, .var 9, .ix (.var 2) (.int 5), .var 3]]],
  .set (.nm 7) (.lst []),
  .for_ (.tp [11, 12]) .seq [.call 13 [.ix (.var 2) (.int 6), .bi .len [.var 5], .var 3, .int 3]] [.ms .append 7 [.tup [.var 11, .var 12, .bin .mod (.call 7 [.ix (.var 2) (.int 6), .bin .add (.var 12) (.bin .mul (.int 9) (.var 11))]) (.bin .pow (.int 10) (.int 9))]]],
  .set (.nm 8) (.bi .tuple [.call 13 [.ix (.var 2) (.int 7), .var 3, .bi .len [.var 5], .int 2]]),
  .ret (.tup [.var 4, .var 5, .bi .tuple [.var 6], .bi .tuple [.var 7], .var 8])]
def fn14 : Fn := ⟨2, 13, b14⟩
/- _law_given: 0=_law_book 1=_law_cell 2=_law_found 3=_law_k 4=_law_number 5=_law_able 6=_law_j -/
def b52 : List IS :=
  [.set (.nm 2) (.lst []),
  .for_ (.nm 3) .rng [.bi .len [.ix (.var 0) (.int 0)]] [.set (.nm 4) (.call 7 [.var 1, .var 3]),
    .frz 4,
    .set (.nm 5) (.lc (.var 6) (.nm 6) .rng [.bi .len [.ix (.var 0) (.int 1)]] [.cmp .isin (.ix (.ix (.ix (.var 0) (.int 0)) (.var 3)) (.int 1)) (.ix (.ix (.ix (.var 0) (.int 1)) (.var 6)) (.int 1))]),
    .frz 5,
    .ite (.or (.cmp .eq (.bin .mod (.var 4) (.int 9)) (.int 4)) (.cmp .eq (.ix (.var 0) (.int 1)) (.tup []))) [.ms .append 2 [.non]] [.ite (.or (.cmp .eq (.bin .mod (.var 4) (.int 9)) (.int 5)) (.cmp .eq (.var 5) (.lst []))) [.ms .append 2 [.bin .mod (.bin .fdiv (.var 4) (.int 9)) (.bi .len [.ix (.var 0) (.int 1)])]] [.ms .append 2 [.ix (.var 5) (.bin .mod (.bin .fdiv (.var 4) (.int 9)) (.bi .len [.var 5]))]]]],
  .ret (.var 2)]
def fn52 : Fn := ⟨2, 7, b52⟩
/- _law_apart: 0=_law_faults 1=_law_part_here 2=_law_mine 3=_law_others 4=_law_row -/
def b64 : List IS :=
  [.set (.nm 2) (.lst []),
  .set (.nm 3) (.lst []),
  .for_ (.nm 4) .seq [.var 0] [.ite (.or (.cmp .eq (.ix (.var 4) (.int 1)) (.var 1)) (.and (.cmp .eq (.ix (.var 4) (.int 0)) (.str "clash")) (.cmp .eq (.ix (.var 4) (.int 2)) (.var 1)))) [.ms .append 2 [.var 4]] [.ms .append 3 [.var 4]]],
  .frz 2,
  .frz 3,
  .ret (.tup [.var 2, .var 3])]
def fn64 : Fn := ⟨2, 5, b64⟩
/- law: 0=_law_script 1=_law_book 2=_law_casting 3=_law_before 4=_law_part_here 5=_law_some 6=_law_player_here 7=_law_other 8=_law_mine 9=_law_others -/
def b65 : List IS :=
  [.set (.nm 1) (.call 14 [.var 0, .int 2]),
  .frz 1,
  .ite (.cmp .eq (.ix (.var 1) (.int 0)) (.tup [])) [.ret (.cmp .eq (.call 51 [.var 1, .lst []]) (.lst []))] [],
  .set (.nm 2) (.call 52 [.var 1, .call 6 [.var 0, .int 0]]),
  .frz 2,
  .set (.nm 3) (.call 51 [.var 1, .var 2]),
  .frz 3,
  .set (.nm 4) (.bin .mod (.call 6 [.var 0, .int 1]) (.bi .len [.var 2])),
  .set (.nm 5) (.bin .add (.lst [.non, .ix (.var 2) (.var 4)]) (.slc (.bi .lstRange [.bi .len [.ix (.var 1) (.int 1)]]) none (some (.int 2)))),
  .frz 5,
  .for_ (.nm 6) .seq [.var 5] [.set (.nm 7) (.bin .add (.bin .add (.slc (.var 2) none (some (.var 4))) (.lst [.var 6])) (.slc (.var 2) (some (.bin .add (.var 4) (.int 1))) none)),
    .frz 7,
    .set (.tp [8, 9]) (.call 64 [.call 51 [.var 1, .var 7], .var 4]),
    .ite (.cmp .ne (.var 9) (.ix (.call 64 [.var 3, .var 4]) (.int 1))) [.ret (.bl false)] [],
    .ite (.and (.cmp .is (.var 6) (.non)) (.cmp .ne (.var 8) (.lst [.tup [.str "nobody", .var 4]]))) [.ret (.bl false)] [],
    .ite (.and (.cmp .eq (.var 6) (.ix (.var 2) (.var 4))) (.cmp .ne (.var 8) (.ix (.call 64 [.var 3, .var 4]) (.int 0)))) [.ret (.bl false)] []],
  .ret (.cmp .eq (.call 51 [.var 1, .var 2]) (.var 3))]
def fn65 : Fn := ⟨1, 10, b65⟩
/- law: 0=_law_script 1=_law_book 2=_law_casting 3=_law_due 4=_law_k 5=_law_kept 6=_law_found 7=_law_row 8=_law_one 9=_law_other -/
def b53 : List IS :=
  [.set (.nm 1) (.call 14 [.var 0, .int 1]),
  .frz 1,
  .set (.nm 2) (.call 52 [.var 1, .call 6 [.var 0, .int 0]]),
  .frz 2,
  .set (.nm 3) (.lst []),
  .for_ (.nm 4) .rng [.bi .len [.var 2]] [.ite (.cmp .is (.ix (.var 2) (.var 4)) (.non)) [.ms .append 3 [.tup [.str "nobody", .var 4]]] [.ite (.cmp .notin (.ix (.ix (.ix (.var 1) (.int 0)) (.var 4)) (.int 1)) (.ix (.ix (.ix (.var 1) (.int 1)) (.ix (.var 2) (.var 4))) (.int 1))) [.ms .append 3 [.tup [.str "voice", .var 4, .ix (.var 2) (.var 4)]]] []]],
  .for_ (.tp [8, 9]) .seq [.call 47 [.var 1]] [.ite (.and (.cmp .isnt (.ix (.var 2) (.var 8)) (.non)) (.cmp .eq (.ix (.var 2) (.var 8)) (.ix (.var 2) (.var 9)))) [.ms .append 3 [.tup [.str "clash", .var 8, .var 9]]] []],
  .set (.nm 5) (.bi .list [.var 2]),
  .frz 5,
  .set (.nm 6) (.call 51 [.var 1, .var 2]),
  .ite (.or (.not (.bi .isList [.var 6])) (.or (.cmp .ne (.var 6) (.var 3)) (.cmp .ne (.var 2) (.var 5)))) [.ret (.bl false)] [],
  .forq (.nm 7) 6 (.or (.not (.bi .isTuple [.var 7])) (.cmp .ne (.lc (.var 4) (.nm 4) .seq [.slc (.var 7) (some (.int 1)) none] [.bi .isBool [.var 4]]) (.lst []))) (.bl false),
  .ms .append 6 [.non],
  .ret (.cmp .eq (.call 51 [.var 1, .var 2]) (.var 3))]
def fn53 : Fn := ⟨1, 10, b53⟩
/- evening_of: 0=book 1=casting 2=player 3=found 4=scene 5=row 6=part -/
def b54 : List IS :=
  [.set (.nm 3) (.lst []),
  .for_ (.tp [4, 5]) .enum [.ix (.var 0) (.int 2)] [.for_ (.nm 6) .seq [.ix (.var 5) (.int 3)] [.ite (.cmp .eq (.ix (.var 1) (.var 6)) (.var 2)) [.ms .append 3 [.tup [.var 4, .var 6]]] []]],
  .ret (.var 3)]
def fn54 : Fn := ⟨3, 7, b54⟩
/- law: 0=_law_script 1=_law_book 2=_law_casting 3=_law_every 4=_law_player_here 5=_law_many 6=_law_scene_here 7=_law_found 8=_law_due 9=_law_s 10=_law_part_here 11=_law_row -/
def b55 : List IS :=
  [.set (.nm 1) (.call 14 [.var 0, .int 1]),
  .frz 1,
  .set (.nm 2) (.call 52 [.var 1, .call 6 [.var 0, .int 0]]),
  .frz 2,
  .set (.nm 3) (.lst []),
  .frz 3,
  .for_ (.nm 4) .rng [.bi .len [.ix (.var 1) (.int 1)]] [.set (.nm 7) (.call 54 [.var 1, .var 2, .var 4]),
    .ite (.not (.bi .isList [.var 7])) [.ret (.bl false)] [],
    .set (.nm 8) (.lst []),
    .frz 8,
    .for_ (.nm 9) .rng [.bi .len [.ix (.var 1) (.int 2)]] [.set (.nm 8) (.bin .add (.var 8) (.lc (.tup [.var 9, .var 10]) (.nm 10) .seq [.ix (.ix (.ix (.var 1) (.int 2)) (.var 9)) (.int 3)] [.cmp .eq (.ix (.var 2) (.var 10)) (.var 4)])),
      .frz 8],
    .ite (.or (.cmp .ne (.var 7) (.var 8)) (.cmp .ne (.lc (.var 11) (.nm 11) .seq [.var 7] [.not (.bi .isTuple [.var 11])]) (.lst []))) [.ret (.bl false)] [],
    .set (.nm 3) (.bin .add (.var 3) (.var 7)),
    .frz 3,
    .ms .append 7 [.non],
    .ite (.cmp .ne (.call 54 [.var 1, .var 2, .var 4]) (.var 8)) [.ret (.bl false)] []],
  .set (.nm 5) (.int 0),
  .for_ (.nm 6) .seq [.ix (.var 1) (.int 2)] [.set (.nm 5) (.bin .add (.var 5) (.bi .len [.lc (.var 10) (.nm 10) .seq [.ix (.var 6) (.int 3)] [.cmp .isnt (.ix (.var 2) (.var 10)) (.non)]]))],
  .ret (.and (.cmp .eq (.bi .len [.var 3]) (.var 5)) (.cmp .eq (.bi .lenset [.var 3]) (.var 5)))]
def fn55 : Fn := ⟨1, 12, b55⟩
/- is_hurry: 0=book 1=ahead 2=behind 3=need -/
def b56 : List IS :=
  [.ite (.cmp .eq (.ix (.var 1) (.int 1)) (.ix (.var 2) (.int 1))) [.ret (.bl false)] [],
  .ite (.cmp .eq (.ix (.var 1) (.int 0)) (.ix (.var 2) (.int 0))) [.ret (.bl true)] [],
  .set (.nm 3) (.bin .add (.ix (.ix (.ix (.var 0) (.int 0)) (.ix (.var 1) (.int 1))) (.int 2)) (.ix (.ix (.ix (.var 0) (.int 0)) (.ix (.var 2) (.int 1))) (.int 3))),
  .frz 3,
  .ret (.cmp .lt (.call 34 [.var 0, .ix (.var 1) (.int 0), .ix (.var 2) (.int 0)]) (.var 3))]
def fn56 : Fn := ⟨3, 4, b56⟩
/- hurries_of: 0=book 1=casting 2=player 3=evening 4=found 5=ahead 6=behind -/
def b57 : List IS :=
  [.set (.nm 3) (.call 54 [.var 0, .var 1, .var 2]),
  .frz 3,
  .set (.nm 4) (.lst []),
  .for_ (.tp [5, 6]) .zip [.var 3, .slc (.var 3) (some (.int 1)) none] [.ite (.call 56 [.var 0, .var 5, .var 6]) [.ms .append 4 [.tup [.var 5, .var 6]]] []],
  .ret (.var 4)]
def fn57 : Fn := ⟨3, 7, b57⟩
/- _law_hours: 0=_law_book 1=_law_found 2=_law_now 3=_law_name_here 4=_law_length 5=_law_pause 6=_law_numbers -/
def b58 : List IS :=
  [.set (.nm 1) (.lst []),
  .set (.nm 2) (.int 0),
  .for_ (.tp [3, 4, 5, 6]) .seq [.ix (.var 0) (.int 2)] [.ms .append 1 [.tup [.var 2, .bin .add (.var 2) (.var 4)]],
    .set (.nm 2) (.bin .add (.bin .add (.var 2) (.var 4)) (.var 5)),
    .frz 2],
  .ret (.var 1)]
def fn58 : Fn := ⟨1, 7, b58⟩
/- _law_entrances: 0=_law_book 1=_law_casting 2=_law_player_here 3=_law_found 4=_law_s 5=_law_part_here -/
def b59 : List IS :=
  [.set (.nm 3) (.lst []),
  .frz 3,
  .for_ (.nm 4) .rng [.bi .len [.ix (.var 0) (.int 2)]] [.set (.nm 3) (.bin .add (.var 3) (.lc (.tup [.var 4, .var 5]) (.nm 5) .seq [.ix (.ix (.ix (.var 0) (.int 2)) (.var 4)) (.int 3)] [.cmp .eq (.ix (.var 1) (.var 5)) (.var 2)])),
    .frz 3],
  .ret (.var 3)]
def fn59 : Fn := ⟨3, 6, b59⟩
/- _law_is_hurry: 0=_law_book 1=_law_clock 2=_law_ahead 3=_law_behind 4=_law_have -/
def b60 : List IS :=
  [.ite (.cmp .eq (.ix (.var 2) (.int 1)) (.ix (.var 3) (.int 1))) [.ret (.bl false)] [],
  .ite (.cmp .eq (.ix (.var 2) (.int 0)) (.ix (.var 3) (.int 0))) [.ret (.bl true)] [],
  .set (.nm 4) (.bin .sub (.ix (.ix (.var 1) (.ix (.var 3) (.int 0))) (.int 0)) (.ix (.ix (.var 1) (.ix (.var 2) (.int 0))) (.int 1))),
  .ret (.cmp .lt (.var 4) (.bin .add (.ix (.ix (.ix (.var 0) (.int 0)) (.ix (.var 2) (.int 1))) (.int 2)) (.ix (.ix (.ix (.var 0) (.int 0)) (.ix (.var 3) (.int 1))) (.int 3))))]
def fn60 : Fn := ⟨4, 5, b60⟩
/- law: 0=_law_script 1=_law_book 2=_law_casting 3=_law_clock 4=_law_player_here 5=_law_some 6=_law_due 7=_law_found 8=_law_k 9=_law_row -/
def b61 : List IS :=
  [.set (.nm 1) (.call 14 [.var 0, .int 1]),
  .frz 1,
  .set (.nm 2) (.call 52 [.var 1, .call 6 [.var 0, .int 0]]),
  .frz 2,
  .set (.nm 3) (.call 58 [.var 1]),
  .frz 3,
  .for_ (.nm 4) .rng [.bi .len [.ix (.var 1) (.int 1)]] [.set (.nm 5) (.call 59 [.var 1, .var 2, .var 4]),
    .frz 5,
    .set (.nm 6) (.lc (.tup [.ix (.var 5) (.bin .sub (.var 8) (.int 1)), .ix (.var 5) (.var 8)]) (.nm 8) .rng [.int 1, .bi .len [.var 5]] [.call 60 [.var 1, .var 3, .ix (.var 5) (.bin .sub (.var 8) (.int 1)), .ix (.var 5) (.var 8)]]),
    .frz 6,
    .set (.nm 7) (.call 57 [.var 1, .var 2, .var 4]),
    .ite (.or (.not (.bi .isList [.var 7])) (.or (.cmp .ne (.var 7) (.var 6)) (.cmp .ne (.lc (.var 9) (.nm 9) .seq [.var 7] [.not (.bi .isTuple [.var 9])]) (.lst [])))) [.ret (.bl false)] [],
    .ms .append 7 [.non],
    .ite (.cmp .ne (.call 57 [.var 1, .var 2, .var 4]) (.var 6)) [.ret (.bl false)] []],
  .ret (.bl true)]
def fn61 : Fn := ⟨1, 10, b61⟩
/- _law_is_apart: 0=_law_book 1=_law_clock 2=_law_i 3=_law_j 4=_law_s 5=_law_t 6=_law_one 7=_law_other 8=_law_need 9=_law_both -/
def b62 : List IS :=
  [.for_ (.nm 4) .rng [.bi .len [.ix (.var 0) (.int 2)]] [.ite (.and (.cmp .isin (.var 2) (.ix (.ix (.ix (.var 0) (.int 2)) (.var 4)) (.int 3))) (.cmp .isin (.var 3) (.ix (.ix (.ix (.var 0) (.int 2)) (.var 4)) (.int 3)))) [.ret (.bl true)] [],
    .for_ (.nm 5) .rng [.bin .add (.var 4) (.int 1), .bi .len [.ix (.var 0) (.int 2)]] [.for_ (.tp [6, 7]) .seq [.lst [.tup [.var 2, .var 3], .tup [.var 3, .var 2]]] [.set (.nm 8) (.bin .add (.ix (.ix (.ix (.var 0) (.int 0)) (.var 6)) (.int 2)) (.ix (.ix (.ix (.var 0) (.int 0)) (.var 7)) (.int 3))),
        .frz 8,
        .set (.nm 9) (.and (.cmp .isin (.var 6) (.ix (.ix (.ix (.var 0) (.int 2)) (.var 4)) (.int 3))) (.cmp .isin (.var 7) (.ix (.ix (.ix (.var 0) (.int 2)) (.var 5)) (.int 3)))),
        .ite (.and (.var 9) (.cmp .lt (.bin .sub (.ix (.ix (.var 1) (.var 5)) (.int 0)) (.ix (.ix (.var 1) (.var 4)) (.int 1))) (.var 8))) [.ret (.bl true)] []]]],
  .ret (.bl false)]
def fn62 : Fn := ⟨4, 10, b62⟩
/- law: 0=_law_script 1=_law_book 2=_law_casting 3=_law_clock 4=_law_pairs_here 5=_law_j 6=_law_faults 7=_law_good 8=_law_k 9=_law_player_here 10=_law_i 11=_law_some 12=_law_hurries 13=_law_row -/
def b63 : List IS :=
  [.set (.nm 1) (.call 14 [.var 0, .int 1]),
  .frz 1,
  .set (.nm 2) (.call 52 [.var 1, .call 6 [.var 0, .int 0]]),
  .frz 2,
  .set (.nm 3) (.call 58 [.var 1]),
  .frz 3,
  .set (.nm 4) (.call 47 [.var 1]),
  .frz 4,
  .for_ (.nm 5) .rng [.bi .len [.ix (.var 1) (.int 0)]] [.for_ (.nm 10) .rng [.var 5] [.ite (.cmp .ne (.cmp .isin (.tup [.var 10, .var 5]) (.var 4)) (.call 62 [.var 1, .var 3, .var 10, .var 5])) [.ret (.bl false)] []]],
  .set (.nm 6) (.call 51 [.var 1, .var 2]),
  .frz 6,
  .set (.nm 7) (.bl true),
  .for_ (.nm 8) .rng [.bi .len [.var 2]] [.ite (.or (.cmp .is (.ix (.var 2) (.var 8)) (.non)) (.cmp .notin (.ix (.ix (.ix (.var 1) (.int 0)) (.var 8)) (.int 1)) (.ix (.ix (.ix (.var 1) (.int 1)) (.ix (.var 2) (.var 8))) (.int 1)))) [.set (.nm 7) (.bl false)] []],
  .for_ (.nm 9) .rng [.bi .len [.ix (.var 1) (.int 1)]] [.set (.nm 11) (.lc (.var 13) (.nm 13) .seq [.var 6] [.cmp .eq (.ix (.var 13) (.int 0)) (.str "clash")]),
    .frz 11,
    .set (.nm 11) (.lc (.var 13) (.nm 13) .seq [.var 11] [.cmp .eq (.ix (.var 2) (.ix (.var 13) (.int 1))) (.var 9)]),
    .frz 11,
    .set (.nm 12) (.call 57 [.var 1, .var 2, .var 9]),
    .frz 12,
    .ite (.cmp .ne (.cmp .eq (.var 11) (.lst [])) (.cmp .eq (.var 12) (.lst []))) [.ret (.bl false)] [],
    .set (.nm 7) (.and (.var 7) (.cmp .eq (.var 12) (.lst [])))],
  .ret (.cmp .eq (.cmp .eq (.var 6) (.lst [])) (.var 7))]
def fn63 : Fn := ⟨1, 14, b63⟩
/- prices_of: 0=book 1=told 2=likes 3=player 4=part 5=price -/
def b105 : List IS :=
  [.set (.nm 1) (.dnew true),
  .for_ (.tp [3, 4, 5]) .seq [.ix (.var 0) (.int 3)] [.setix 1 (.tup [.var 3, .var 4]) (.var 5)],
  .set (.nm 2) (.lst []),
  .for_ (.nm 3) .rng [.bi .len [.ix (.var 0) (.int 1)]] [.ms .append 2 [.bi .tuple [.lc (.mt .get (.var 1) [.tup [.var 3, .var 4], .int 0]) (.nm 4) .rng [.bi .len [.ix (.var 0) (.int 0)]] []]]],
  .ret (.tup [.bi .tuple [.lc (.ix (.var 3) (.int 2)) (.nm 3) .seq [.ix (.var 0) (.int 1)] []], .bi .tuple [.var 2]])]
def fn105 : Fn := ⟨1, 6, b105⟩
/- prices_of_change: 0=book 1=casting 2=likes 3=player 4=part -/
def b106 : List IS :=
  [.set (.nm 2) (.lst []),
  .for_ (.nm 3) .rng [.bi .len [.ix (.var 0) (.int 1)]] [.ms .append 2 [.bi .tuple [.lc (.bi .int [.cmp .ne (.ix (.var 1) (.var 4)) (.var 3)]) (.nm 4) .rng [.bi .len [.ix (.var 0) (.int 0)]] []]]],
  .ret (.tup [.bi .tuple [.lc (.int 0) (.nm 3) .seq [.ix (.var 0) (.int 1)] []], .bi .tuple [.var 2]])]
def fn106 : Fn := ⟨2, 5, b106⟩
/- price_of: 0=prices 1=casting 2=price 3=player 4=hires 5=likes 6=part -/
def b107 : List IS :=
  [.set (.tp [4, 5]) (.var 0),
  .set (.nm 2) (.int 0),
  .for_ (.nm 3) .rng [.bi .len [.var 4]] [.ite (.cmp .isin (.var 3) (.var 1)) [.set (.nm 2) (.bin .add (.var 2) (.ix (.var 4) (.var 3))),
      .frz 2] []],
  .for_ (.tp [6, 3]) .enum [.var 1] [.set (.nm 2) (.bin .add (.var 2) (.ix (.ix (.var 5) (.var 3)) (.var 6))),
    .frz 2],
  .ret (.var 2)]
def fn107 : Fn := ⟨2, 7, b107⟩
/- _law_players: 0=_law_n 1=_law_many 2=_law_found 3=_law_k 4=_law_m 5=_law_voices 6=_law_hire -/
def b108 : List IS :=
  [.set (.nm 2) (.lst []),
  .for_ (.nm 3) .rng [.var 1] [.set (.nm 4) (.call 35 [.var 0, .bin .add (.bin .mul (.int 5) (.var 3)) (.int 2)]),
    .frz 4,
    .set (.nm 5) (.ix (.lst [.str "s", .str "t", .str "st", .str "tb", .str "stb", .str "bts", .str "bs", .str ""]) (.bin .mod (.var 4) (.int 8))),
    .set (.nm 6) (.ix (.lst [.int 0, .bin .mod (.bin .fdiv (.var 4) (.int 8)) (.int 5), .bin .mod (.bin .fdiv (.var 4) (.int 8)) (.int 100), .bin .mod (.bin .mul (.var 4) (.var 4)) (.bin .pow (.int 10) (.int 9))]) (.bin .mod (.bin .fdiv (.var 4) (.int 3)) (.int 4))),
    .ms .append 2 [.tup [.bin .add (.str "x") (.ix (.str "abcdef") (.var 3)), .var 5, .var 6]]],
  .ret (.bi .tuple [.var 2])]
def fn108 : Fn := ⟨2, 7, b108⟩
/- _law_likes: 0=_law_n 1=_law_players_here 2=_law_many 3=_law_found 4=_law_player 5=_law_part 6=_law_m -/
def b109 : List IS :=
  [.set (.nm 3) (.lst []),
  .for_ (.nm 4) .rng [.var 1] [.for_ (.nm 5) .rng [.var 2] [.set (.nm 6) (.call 35 [.var 0, .bin .add (.bin .mul (.int 8) (.var 4)) (.var 5)]),
      .frz 6,
      .ite (.cmp .eq (.bin .mod (.var 6) (.int 3)) (.int 1)) [.ms .append 3 [.tup [.var 4, .var 5, .ix (.lst [.bin .mod (.bin .fdiv (.var 6) (.int 3)) (.int 4), .bin .mod (.bin .fdiv (.var 6) (.int 3)) (.int 50), .bin .mod (.bin .mul (.var 6) (.var 6)) (.bin .pow (.int 10) (.int 9))]) (.bin .mod (.bin .fdiv (.var 6) (.int 5)) (.int 3))]]] []]],
  .ret (.bi .tuple [.var 3])]
def fn109 : Fn := ⟨3, 7, b109⟩
/- _law_book: 0=_law_script 1=_law_parts_here 2=_law_players_here 3=_law_scenes_here 4=_law_told 5=_law_cells 6=_law_team -/
def b110 : List IS :=
  [.set (.nm 4) (.call 37 [.call 6 [.var 0, .int 1], .var 1]),
  .frz 4,
  .set (.nm 5) (.slc (.var 0) (some (.int 6)) (some (.bin .add (.int 6) (.var 3)))),
  .frz 5,
  .set (.nm 6) (.call 108 [.call 6 [.var 0, .int 2], .var 2]),
  .frz 6,
  .ret (.tup [.var 4, .var 6, .call 38 [.var 5, .var 1], .call 109 [.call 6 [.var 0, .int 3], .var 2, .var 1], .tup []])]
def fn110 : Fn := ⟨4, 7, b110⟩
/- _law_price: 0=_law_prices 1=_law_casting 2=_law_price_here 3=_law_player 4=_law_part -/
def b111 : List IS :=
  [.set (.nm 2) (.bi .sum [.lc (.ix (.ix (.var 0) (.int 0)) (.var 3)) (.nm 3) .rng [.bi .len [.ix (.var 0) (.int 0)]] [.cmp .isin (.var 3) (.var 1)]]),
  .ret (.bin .add (.var 2) (.bi .sum [.lc (.ix (.ix (.ix (.var 0) (.int 1)) (.var 3)) (.var 4)) (.tp [4, 3]) .enum [.var 1] []]))]
def fn111 : Fn := ⟨2, 5, b111⟩
/- _law_whole: 0=_law_found -/
def b80 : List IS :=
  [.ret (.and (.bi .isInt [.var 0]) (.not (.bi .isBool [.var 0])))]
def fn80 : Fn := ⟨1, 1, b80⟩
/- law: 0=_law_script 1=_law_parts_here 2=_law_players_here 3=_law_book_here 4=_law_hires 5=_law_told 6=_law_likes_here 7=_law_player 8=_law_due 9=_law_casting 10=_law_whole_here 11=_law_part 12=_law_changes 13=_law_handed 14=_law_found 15=_law_kept 16=_law_prices 17=_law_price_here 18=_law_cell 19=_law_row 20=_law_one -/
def b112 : List IS :=
  [.set (.nm 1) (.bin .mod (.call 6 [.var 0, .int 0]) (.int 9)),
  .set (.nm 2) (.bin .mod (.bin .fdiv (.call 6 [.var 0, .int 0]) (.int 9)) (.int 7)),
  .set (.nm 3) (.call 110 [.var 0, .var 1, .var 2, .int 0]),
  .frz 3,
  .set (.nm 4) (.bi .tuple [.lc (.ix (.var 7) (.int 2)) (.nm 7) .seq [.ix (.var 3) (.int 1)] []]),
  .set (.nm 5) (.dnew true),
  .for_ (.tp [7, 11, 17]) .seq [.ix (.var 3) (.int 3)] [.setix 5 (.tup [.var 7, .var 11]) (.var 17)],
  .set (.nm 6) (.lst []),
  .for_ (.nm 7) .rng [.var 2] [.ms .append 6 [.bi .tuple [.lc (.mt .get (.var 5) [.tup [.var 7, .var 11], .int 0]) (.nm 11) .rng [.var 1] []]]],
  .set (.nm 8) (.tup [.var 4, .bi .tuple [.var 6]]),
  .ite (.cmp .ne (.call 105 [.var 3]) (.var 8)) [.ret (.bl false)] [],
  .set (.nm 9) (.lst []),
  .set (.nm 10) (.lst []),
  .for_ (.nm 11) .rng [.var 1] [.set (.nm 18) (.call 6 [.var 0, .bin .add (.int 4) (.var 11)]),
    .frz 18,
    .ms .append 9 [.ix (.bin .add (.lst [.non]) (.bi .lstRange [.var 2])) (.bin .mod (.var 18) (.bin .add (.var 2) (.int 1)))],
    .ms .append 10 [.bin .mod (.bin .fdiv (.var 18) (.int 7)) (.bi .max [.int 1, .var 2])]],
  .set (.nm 12) (.lst []),
  .for_ (.nm 7) .rng [.var 2] [.ms .append 12 [.bi .tuple [.lc (.bi .int [.cmp .ne (.ix (.var 9) (.var 11)) (.var 7)]) (.nm 11) .rng [.var 1] []]]],
  .set (.nm 13) (.bi .list [.var 9]),
  .frz 13,
  .set (.nm 14) (.call 106 [.var 3, .var 13]),
  .frz 14,
  .ite (.or (.cmp .ne (.var 14) (.tup [.bin .mul (.tup [.int 0]) (.var 2), .bi .tuple [.var 12]])) (.cmp .ne (.var 13) (.var 9))) [.ret (.bl false)] [],
  .ite (.cmp .ne (.lc (.var 19) (.nm 19) .seq [.ix (.var 14) (.int 1)] [.cmp .ne (.lc (.var 20) (.nm 20) .seq [.var 19] [.not (.call 80 [.var 20])]) (.lst [])]) (.lst [])) [.ret (.bl false)] [],
  .ite (.cmp .eq (.var 2) (.int 0)) [.ret (.cmp .eq (.call 105 [.tup [.ix (.var 3) (.int 0), .tup [], .tup [], .tup [], .tup []]]) (.tup [.tup [], .tup []]))] [],
  .set (.nm 15) (.bi .list [.var 10]),
  .frz 15,
  .for_ (.nm 16) .seq [.lst [.var 8, .var 14]] [.frz 10,
    .set (.nm 17) (.call 107 [.var 16, .var 10]),
    .frz 17,
    .frz 10,
    .ite (.or (.not (.call 80 [.var 17])) (.cmp .ne (.var 17) (.call 111 [.var 16, .var 10]))) [.ret (.bl false)] []],
  .ret (.cmp .eq (.var 10) (.var 15))]
def fn112 : Fn := ⟨1, 21, b112⟩
/- pairs_of: 0=clashes 1=found 2=i 3=j -/
def b70 : List IS :=
  [.set (.nm 1) (.dnew true),
  .for_ (.tp [2, 3]) .seq [.var 0] [.setix 1 (.tup [.var 2, .var 3]) (.bl true),
    .setix 1 (.tup [.var 3, .var 2]) (.bl true)],
  .ret (.var 1)]
def fn70 : Fn := ⟨1, 4, b70⟩
/- open_groups: 0=groups 1=part 2=pairs 3=shut 4=other 5=group -/
def b71 : List IS :=
  [.set (.nm 3) (.dnew false),
  .for_ (.tp [4, 5]) .enum [.var 0] [.ite (.cmp .isin (.tup [.var 1, .var 4]) (.var 2)) [.setix 3 (.var 5) (.bl true)] []],
  .ret (.lc (.var 5) (.nm 5) .rng [.bin .add (.bi (.maxd (-1)) [.var 0]) (.int 1)] [.cmp .notin (.var 5) (.var 3)])]
def fn71 : Fn := ⟨3, 6, b71⟩
/- grown: 0=groups 1=many 2=pairs 3=most 4=part 5=some 6=fresh 7=group 8=found -/
def b72 : List IS :=
  [.set (.nm 4) (.bi .len [.var 0]),
  .ite (.cmp .eq (.var 4) (.var 1)) [.ret (.bi .list [.var 0])] [],
  .set (.nm 5) (.call 71 [.var 0, .var 4, .var 2]),
  .set (.nm 6) (.bin .add (.bi (.maxd (-1)) [.var 0]) (.int 1)),
  .ite (.cmp .lt (.var 6) (.var 3)) [.ms .append 5 [.var 6]] [],
  .frz 5,
  .for_ (.nm 7) .seq [.var 5] [.set (.nm 8) (.call 72 [.bin .add (.var 0) (.lst [.var 7]), .var 1, .var 2, .var 3]),
    .frz 8,
    .ite (.cmp .isnt (.var 8) (.non)) [.ret (.var 8)] []],
  .ret (.non)]
def fn72 : Fn := ⟨4, 9, b72⟩
/- fewest_of: 0=many 1=clashes 2=pairs 3=most 4=found -/
def b73 : List IS :=
  [.set (.nm 2) (.call 70 [.var 1]),
  .frz 2,
  .for_ (.nm 3) .rng [.bin .add (.var 0) (.int 1)] [.set (.nm 4) (.call 72 [.lst [], .var 0, .var 2, .var 3]),
    .frz 4,
    .ite (.cmp .isnt (.var 4) (.non)) [.ret (.tup [.var 3, .var 4])] []],
  .ret (.tup [.var 0, .bi .lstRange [.var 0]])]
def fn73 : Fn := ⟨2, 5, b73⟩
/- _law_clashes: 0=_law_cells 1=_law_many 2=_law_share 3=_law_pairs_here 4=_law_found 5=_law_k 6=_law_m -/
def b67 : List IS :=
  [.set (.nm 3) (.call 49 [.var 1]),
  .frz 3,
  .set (.nm 4) (.lst []),
  .for_ (.nm 5) .rng [.bi .len [.var 3]] [.set (.nm 6) (.call 35 [.ix (.bin .add (.var 0) (.lst [.bin .mul (.int 3) (.var 5)])) (.bi .min [.var 5, .bi .len [.var 0]]), .var 5]),
    .frz 6,
    .ite (.cmp .lt (.bin .mod (.var 6) (.int 12)) (.var 2)) [.ms .append 4 [.ix (.var 3) (.var 5)]] []],
  .ite (.cmp .eq (.bin .mod (.var 2) (.int 2)) (.int 1)) [.ms .reverse 4 []] [],
  .ret (.var 4)]
def fn67 : Fn := ⟨3, 7, b67⟩
/- _law_one: 0=_law_clashes_here 1=_law_i 2=_law_j 3=_law_found 4=_law_pair 5=_law_ends 6=_law_part -/
def b103 : List IS :=
  [.set (.nm 3) (.lst []),
  .for_ (.nm 4) .seq [.var 0] [.set (.nm 5) (.lst []),
    .for_ (.nm 6) .seq [.var 4] [.set (.nm 6) (.ix (.lst [.var 6, .var 1]) (.bi .int [.cmp .eq (.var 6) (.var 2)])),
      .ms .append 5 [.bin .sub (.var 6) (.bi .int [.cmp .gt (.var 6) (.var 2)])]],
    .set (.nm 5) (.tup [.bi .min [.var 5], .bi .max [.var 5]]),
    .ite (.cmp .notin (.var 5) (.var 3)) [.frz 5,
      .ms .append 3 [.var 5]] []],
  .ret (.var 3)]
def fn103 : Fn := ⟨3, 7, b103⟩
/- law: 0=_law_script 1=_law_many 2=_law_clashes_here 3=_law_k 4=_law_n 5=_law_j 6=_law_i 7=_law_apart 8=_law_one_here 9=_law_part -/
def b104 : List IS :=
  [.set (.nm 1) (.bin .add (.int 2) (.bin .mod (.call 6 [.var 0, .int 0]) (.int 6))),
  .set (.nm 2) (.call 67 [.slc (.var 0) (some (.int 3)) (some (.int 24)), .var 1, .bin .mod (.call 6 [.var 0, .int 1]) (.int 13)]),
  .frz 2,
  .set (.nm 3) (.ix (.call 73 [.var 1, .var 2]) (.int 0)),
  .set (.nm 4) (.call 6 [.var 0, .int 2]),
  .frz 4,
  .set (.nm 5) (.bin .add (.int 1) (.bin .mod (.var 4) (.bin .sub (.var 1) (.int 1)))),
  .set (.nm 6) (.bin .mod (.bin .fdiv (.var 4) (.int 7)) (.var 5)),
  .ite (.cmp .notin (.tup [.var 6, .var 5]) (.var 2)) [.set (.nm 7) (.ix (.call 73 [.var 1, .bin .add (.var 2) (.lst [.tup [.var 6, .var 5]])]) (.int 0)),
    .set (.nm 8) (.ix (.call 73 [.bin .sub (.var 1) (.int 1), .call 103 [.var 2, .var 6, .var 5]]) (.int 0)),
    .ite (.cmp .ne (.var 3) (.bi .min [.var 7, .var 8])) [.ret (.bl false)] []] [],
  .ite (.cmp .ne (.ix (.call 73 [.bin .add (.var 1) (.int 1), .var 2]) (.int 0)) (.var 3)) [.ret (.bl false)] [],
  .ret (.cmp .eq (.ix (.call 73 [.bin .add (.var 1) (.int 1), .bin .add (.var 2) (.lc (.tup [.var 9, .var 1]) (.nm 9) .rng [.var 1] [])]) (.int 0)) (.bin .add (.var 3) (.int 1)))]
def fn104 : Fn := ⟨1, 10, b104⟩
end RL

set_option linter.all false
set_option maxHeartbeats 4000000
namespace RL
open PySem R L2
/-! ### cells -/
def mix (c k : Int) : Int := (c * 48271 + k * k * 69621 + 5) % 2147483647
theorem mix_lo (c k : Int) : 0 ≤ mix c k := by unfold mix; omega
theorem mix_hi (c k : Int) : mix c k < 2147483647 := by unfold mix; omega
theorem r_mixed (cl) (c k : Int) (h0 : -100000 ≤ k) (h1 : k ≤ 100000) : R.run cl fn35 [.int c, .int k] = fi (mix c k) := by
  refine run_to rfl ?_
  show finD (evSs cl b35 [fi c, fi k]) = _
  have e : binD .mul (.int k) (.int k) = fi (k * k) := b_mul1 (by omega) (by omega)
  simp -implicitDefEqProofs only [b35, q_var, q_int, q_bl, q_non, q_str, q_glb, q_bin, q_cmp, q_chain, q_and, q_or, q_not, q_neg, q_ifx, q_tup, q_lst, q_ix, q_slc, q_call, q_bi, q_mt, q_lc, q_dnew, q_F0, q_F, q_B0, q_B, q_I0, q_I, q_O0, q_O, s_set, s_setix, s_ms, s_frz, s_ite, s_for, s_whl, s_ret, s_retn, s_brk, s_cnt, s_pass, s_expr, ss_nil, ss_cons, seqO_nx, seqO_rt, seqO_bk, seqO_ct, finD_nx, finD_fz, finD_ow, finD_bo', rtD_fz, rtD_ow, rtD_bo, esc_fz, esc_ow, lkE_fz, lkE_ow, owE_ow, frzE_some, frzE_none, onT_kd, Option.bind_some, List.getElem?_cons_zero, List.getElem?_cons_succ, List.set_cons_zero, List.set_cons_succ, truD, setR_fz, setR_ow, setR_tp, setTg, setMany, tgS, wipeR, srcV, List.length_cons, List.length_nil, Nat.reduceAdd, Nat.reduceLT, ↓reduceIte, reduceCtorEq, intO, Bool.false_eq_true, decide_eq_true_eq, Bool.not_eq_true', decide_eq_false_iff_not, b_add, b_sub, b_mul1, b_mul2, b_mod, b_fdiv, m_rev, c_eqI, c_neI, c_eqB, c_lt, c_le, c_gt, c_ge, f_max, f_min, f_lenL, f_lenT, f_lenS, f_lenX, f_tupL, f_tupT, f_lstL, f_lstT, f_lstS, f_intB, f_intI, f_isB, k_seqL, k_seqT, k_seqS, at_0, at_1, at_2, at_3, x_lst, x_tup, Int.reduceLT, Int.reduceNeg, Int.reduceLE, List.length_map, Bool.or_self, Bool.not_true, Bool.not_false, f_isI, f_isIB, f_isBI, f_isL, f_isT, f_isS, c_is, c_isnt, isNon_non, isNon_tup, isNon_int, isNon_bl, isNon_lst, ne_eq, not_true_eq_false, not_false_eq_true, beq_self_eq_true, if_true, if_false, loopO_nx, loopO_ct, loopO_bk, loopO_rt, c_inT, c_ninT, c_inL, c_ninL, s_forq, lstO_lst, e]
  rfl
theorem r_cell (cl) (ns : List Int) (k : Nat) : R.run cl fn6 [.scr ns, .int k] = fi (ns.getD k 0) := by
  refine run_to rfl ?_
  show finD (evSs cl b6 [fd (.scr ns), fi k]) = _
  simp -implicitDefEqProofs only [b6, q_var, q_int, q_bl, q_non, q_str, q_glb, q_bin, q_cmp, q_chain, q_and, q_or, q_not, q_neg, q_ifx, q_tup, q_lst, q_ix, q_slc, q_call, q_bi, q_mt, q_lc, q_dnew, q_F0, q_F, q_B0, q_B, q_I0, q_I, q_O0, q_O, s_set, s_setix, s_ms, s_frz, s_ite, s_for, s_whl, s_ret, s_retn, s_brk, s_cnt, s_pass, s_expr, ss_nil, ss_cons, seqO_nx, seqO_rt, seqO_bk, seqO_ct, finD_nx, finD_fz, finD_ow, finD_bo', rtD_fz, rtD_ow, rtD_bo, esc_fz, esc_ow, lkE_fz, lkE_ow, owE_ow, frzE_some, frzE_none, onT_kd, Option.bind_some, List.getElem?_cons_zero, List.getElem?_cons_succ, List.set_cons_zero, List.set_cons_succ, truD, setR_fz, setR_ow, setR_tp, setTg, setMany, tgS, wipeR, srcV, List.length_cons, List.length_nil, Nat.reduceAdd, Nat.reduceLT, ↓reduceIte, reduceCtorEq, intO, Bool.false_eq_true, decide_eq_true_eq, Bool.not_eq_true', decide_eq_false_iff_not, b_add, b_sub, b_mul1, b_mul2, b_mod, b_fdiv, m_rev, c_eqI, c_neI, c_eqB, c_lt, c_le, c_gt, c_ge, f_max, f_min, f_lenL, f_lenT, f_lenS, f_lenX, f_tupL, f_tupT, f_lstL, f_lstT, f_lstS, f_intB, f_intI, f_isB, k_seqL, k_seqT, k_seqS, at_0, at_1, at_2, at_3, x_lst, x_tup, Int.reduceLT, Int.reduceNeg, Int.reduceLE, List.length_map, Bool.or_self, Bool.not_true, Bool.not_false, f_isI, f_isIB, f_isBI, f_isL, f_isT, f_isS, c_is, c_isnt, isNon_non, isNon_tup, isNon_int, isNon_bl, isNon_lst, ne_eq, not_true_eq_false, not_false_eq_true, beq_self_eq_true, if_true, if_false, loopO_nx, loopO_ct, loopO_bk, loopO_rt, c_inT, c_ninT, c_inL, c_ninL, s_forq, lstO_lst]
  by_cases h : (k : Int) < ns.length
  · have h' : k < ns.length := by omega
    simp -implicitDefEqProofs only [if_pos h, q_var, q_int, q_bl, q_non, q_str, q_glb, q_bin, q_cmp, q_chain, q_and, q_or, q_not, q_neg, q_ifx, q_tup, q_lst, q_ix, q_slc, q_call, q_bi, q_mt, q_lc, q_dnew, q_F0, q_F, q_B0, q_B, q_I0, q_I, q_O0, q_O, s_set, s_setix, s_ms, s_frz, s_ite, s_for, s_whl, s_ret, s_retn, s_brk, s_cnt, s_pass, s_expr, ss_nil, ss_cons, seqO_nx, seqO_rt, seqO_bk, seqO_ct, finD_nx, finD_fz, finD_ow, finD_bo', rtD_fz, rtD_ow, rtD_bo, esc_fz, esc_ow, lkE_fz, lkE_ow, owE_ow, frzE_some, frzE_none, onT_kd, Option.bind_some, List.getElem?_cons_zero, List.getElem?_cons_succ, List.set_cons_zero, List.set_cons_succ, truD, setR_fz, setR_ow, setR_tp, setTg, setMany, tgS, wipeR, srcV, List.length_cons, List.length_nil, Nat.reduceAdd, Nat.reduceLT, ↓reduceIte, reduceCtorEq, intO, Bool.false_eq_true, decide_eq_true_eq, Bool.not_eq_true', decide_eq_false_iff_not, b_add, b_sub, b_mul1, b_mul2, b_mod, b_fdiv, m_rev, c_eqI, c_neI, c_eqB, c_lt, c_le, c_gt, c_ge, f_max, f_min, f_lenL, f_lenT, f_lenS, f_lenX, f_tupL, f_tupT, f_lstL, f_lstT, f_lstS, f_intB, f_intI, f_isB, k_seqL, k_seqT, k_seqS, at_0, at_1, at_2, at_3, x_lst, x_tup, Int.reduceLT, Int.reduceNeg, Int.reduceLE, List.length_map, Bool.or_self, Bool.not_true, Bool.not_false, f_isI, f_isIB, f_isBI, f_isL, f_isT, f_isS, c_is, c_isnt, isNon_non, isNon_tup, isNon_int, isNon_bl, isNon_lst, ne_eq, not_true_eq_false, not_false_eq_true, beq_self_eq_true, if_true, if_false, loopO_nx, loopO_ct, loopO_bk, loopO_rt, c_inT, c_ninT, c_inL, c_ninL, s_forq, lstO_lst, ixD, atI_nat (List.getElem?_eq_getElem h'), Option.map_some]
    rw [List.getD_eq_getElem?_getD, List.getElem?_eq_getElem h']
    rfl
  · simp -implicitDefEqProofs only [if_neg h, q_var, q_int, q_bl, q_non, q_str, q_glb, q_bin, q_cmp, q_chain, q_and, q_or, q_not, q_neg, q_ifx, q_tup, q_lst, q_ix, q_slc, q_call, q_bi, q_mt, q_lc, q_dnew, q_F0, q_F, q_B0, q_B, q_I0, q_I, q_O0, q_O, s_set, s_setix, s_ms, s_frz, s_ite, s_for, s_whl, s_ret, s_retn, s_brk, s_cnt, s_pass, s_expr, ss_nil, ss_cons, seqO_nx, seqO_rt, seqO_bk, seqO_ct, finD_nx, finD_fz, finD_ow, finD_bo', rtD_fz, rtD_ow, rtD_bo, esc_fz, esc_ow, lkE_fz, lkE_ow, owE_ow, frzE_some, frzE_none, onT_kd, Option.bind_some, List.getElem?_cons_zero, List.getElem?_cons_succ, List.set_cons_zero, List.set_cons_succ, truD, setR_fz, setR_ow, setR_tp, setTg, setMany, tgS, wipeR, srcV, List.length_cons, List.length_nil, Nat.reduceAdd, Nat.reduceLT, ↓reduceIte, reduceCtorEq, intO, Bool.false_eq_true, decide_eq_true_eq, Bool.not_eq_true', decide_eq_false_iff_not, b_add, b_sub, b_mul1, b_mul2, b_mod, b_fdiv, m_rev, c_eqI, c_neI, c_eqB, c_lt, c_le, c_gt, c_ge, f_max, f_min, f_lenL, f_lenT, f_lenS, f_lenX, f_tupL, f_tupT, f_lstL, f_lstT, f_lstS, f_intB, f_intI, f_isB, k_seqL, k_seqT, k_seqS, at_0, at_1, at_2, at_3, x_lst, x_tup, Int.reduceLT, Int.reduceNeg, Int.reduceLE, List.length_map, Bool.or_self, Bool.not_true, Bool.not_false, f_isI, f_isIB, f_isBI, f_isL, f_isT, f_isS, c_is, c_isnt, isNon_non, isNon_tup, isNon_int, isNon_bl, isNon_lst, ne_eq, not_true_eq_false, not_false_eq_true, beq_self_eq_true, if_true, if_false, loopO_nx, loopO_ct, loopO_bk, loopO_rt, c_inT, c_ninT, c_inL, c_ninL, s_forq, lstO_lst]
    rw [List.getD_eq_getElem?_getD, List.getElem?_eq_none (by omega)]
    rfl
/-! ### lists of numbers -/
def at0 (gs : List Int) (i : Int) : Int := gs.getD i.toNat 0
theorem ix_il {gs : List Int} {i : Int} (h0 : 0 ≤ i) (h1 : i < gs.length) : atI (gs.map D.int) i = some (.int (at0 gs i)) := by
  simp only [atI_map, atI_getD 0 h0 h1]
  rfl
theorem at0_mem {gs : List Int} {i : Int} (h0 : 0 ≤ i) (h1 : i < gs.length) : at0 gs i ∈ gs := by
  unfold at0
  have h : i.toNat < gs.length := by omega
  rw [List.getD_eq_getElem?_getD, List.getElem?_eq_getElem h]
  exact List.getElem_mem h
theorem cut_map {α β : Type} (f : α → β) (xs : List α) (lo hi : Option Int) : cut (xs.map f) lo hi = (cut xs lo hi).map f := by
  unfold cut
  rw [List.length_map, List.map_take, List.map_drop]
theorem mem_cut {α : Type} {xs : List α} {lo hi : Option Int} {x : α} (h : x ∈ cut xs lo hi) : x ∈ xs := by
  unfold cut at h
  exact List.mem_of_mem_drop (List.mem_of_mem_take h)
theorem len_cut {α : Type} (xs : List α) (lo hi : Option Int) : (cut xs lo hi).length ≤ xs.length := by
  unfold cut
  rw [List.length_take, List.length_drop]
  omega
theorem at_if (a b : Int) (c : Prop) [Decidable c] : atI [D.int a, D.int b] (if c then 1 else 0) = some (.int (if c then b else a)) := by
  by_cases h : c
  · rw [if_pos h, if_pos h]
    exact at_1 _ _ _
  · rw [if_neg h, if_neg h]
    exact at_0 _ _
theorem b_addS {x y : Str} (h : x.length + y.length ≤ 1000000) : binD .add (.str x) (.str y) = some (.fz, .str (x ++ y)) := by
  simp only [binD]
  rw [if_pos (le_lineR h)]
theorem x_str {x : Str} {i : Int} (h0 : 0 ≤ i) (h1 : i < x.cps.toList.length) : ∃ c, ixD (.str x) (.int i) = some (.str ⟨#[c]⟩) := by
  have h : i.toNat < x.cps.toList.length := by omega
  refine ⟨x.cps.toList[i.toNat], ?_⟩
  simp only [ixD]
  rw [atI_in h0 h1, List.getElem?_eq_getElem h]
  rfl
theorem get_enum {cs : List Int} {i : Nat} {x : D} (h : ((cs.map D.int).zipIdx.map fun p => D.tup [.int (p.2 : Nat), p.1])[i]? = some x) : ∃ c, cs[i]? = some c ∧ x = .tup [.int i, .int c] := by
  obtain ⟨p, hp, rfl⟩ := get_map h
  rw [List.getElem?_zipIdx, List.getElem?_map] at hp
  cases e : cs[i]? with
  | none => rw [e] at hp; cases hp
  | some c =>
    rw [e] at hp
    cases hp
    refine ⟨c, rfl, ?_⟩
    simp
/-! ### minutes -/
def mins (n : Int) : Int := at0 [0, n / 5 % 7, n / 5 % 31, n / 5 % 400, n * n % 1000000000] (n % 5)
theorem mins_pos (n : Int) : 0 ≤ mins n := by
  have h : ∀ x ∈ [0, n / 5 % 7, n / 5 % 31, n / 5 % 400, n * n % 1000000000], (0 : Int) ≤ x := by
    intro x hx
    simp only [List.mem_cons, List.not_mem_nil, or_false] at hx
    rcases hx with rfl | rfl | rfl | rfl | rfl <;> omega
  exact h _ (at0_mem (by omega) (by simp only [List.length_cons, List.length_nil]; omega))
theorem r_minutes (cl) (n : Int) (h0 : -4294967296 ≤ n) (h1 : n ≤ 4294967296) : R.run cl fn36 [.int n] = fi (mins n) := by
  refine run_to rfl ?_
  show finD (evSs cl b36 [fi n]) = _
  have e : binD .mul (.int n) (.int n) = fi (n * n) := b_mul1 (by omega) (by omega)
  have p : binD .pow (.int 10) (.int 9) = fi 1000000000 := rfl
  have q : atI [D.int 0, .int (n / 5 % 7), .int (n / 5 % 31), .int (n / 5 % 400), .int (n * n % 1000000000)] (n % 5) = some (.int (mins n)) :=
    ix_il (gs := [0, n / 5 % 7, n / 5 % 31, n / 5 % 400, n * n % 1000000000]) (by omega) (by simp only [List.length_cons, List.length_nil]; omega)
  simp -implicitDefEqProofs only [b36, q_var, q_int, q_bl, q_non, q_str, q_glb, q_bin, q_cmp, q_chain, q_and, q_or, q_not, q_neg, q_ifx, q_tup, q_lst, q_ix, q_slc, q_call, q_bi, q_mt, q_lc, q_dnew, q_F0, q_F, q_B0, q_B, q_I0, q_I, q_O0, q_O, s_set, s_setix, s_ms, s_frz, s_ite, s_for, s_whl, s_ret, s_retn, s_brk, s_cnt, s_pass, s_expr, ss_nil, ss_cons, seqO_nx, seqO_rt, seqO_bk, seqO_ct, finD_nx, finD_fz, finD_ow, finD_bo', rtD_fz, rtD_ow, rtD_bo, esc_fz, esc_ow, lkE_fz, lkE_ow, owE_ow, frzE_some, frzE_none, onT_kd, Option.bind_some, List.getElem?_cons_zero, List.getElem?_cons_succ, List.set_cons_zero, List.set_cons_succ, truD, setR_fz, setR_ow, setR_tp, setTg, setMany, tgS, wipeR, srcV, List.length_cons, List.length_nil, Nat.reduceAdd, Nat.reduceLT, ↓reduceIte, reduceCtorEq, intO, Bool.false_eq_true, decide_eq_true_eq, Bool.not_eq_true', decide_eq_false_iff_not, b_add, b_sub, b_mul1, b_mul2, b_mod, b_fdiv, m_rev, c_eqI, c_neI, c_eqB, c_lt, c_le, c_gt, c_ge, f_max, f_min, f_lenL, f_lenT, f_lenS, f_lenX, f_tupL, f_tupT, f_lstL, f_lstT, f_lstS, f_intB, f_intI, f_isB, k_seqL, k_seqT, k_seqS, at_0, at_1, at_2, at_3, x_lst, x_tup, Int.reduceLT, Int.reduceNeg, Int.reduceLE, List.length_map, Bool.or_self, Bool.not_true, Bool.not_false, f_isI, f_isIB, f_isBI, f_isL, f_isT, f_isS, c_is, c_isnt, isNon_non, isNon_tup, isNon_int, isNon_bl, isNon_lst, ne_eq, not_true_eq_false, not_false_eq_true, beq_self_eq_true, if_true, if_false, loopO_nx, loopO_ct, loopO_bk, loopO_rt, c_inT, c_ninT, c_inL, c_ninL, s_forq, lstO_lst, e, p, q]
/-! ### parts -/
structure Part where
  nm : Str
  vc : Str
  off : Int
  on : Int
def partD (p : Part) : D := .tup [.str p.nm, .str p.vc, .int p.off, .int p.on]
theorem nod_partD (p : Part) : (partD p).nod = true := by simp only [partD, D.nod, D.nods, Bool.and_self]
theorem dep_partD (p : Part) : (partD p).dep = 1 := by simp [partD, D.dep, D.deps]
theorem nods_parts (ps : List Part) : D.nods (ps.map partD) = true := nods_of fun d m => by
  obtain ⟨n, _, rfl⟩ := List.mem_map.mp m
  exact nod_partD n
theorem deps_parts (ps : List Part) : D.deps (ps.map partD) ≤ 1 := deps_le fun d m => by
  obtain ⟨n, _, rfl⟩ := List.mem_map.mp m
  rw [dep_partD]
  exact Nat.le_refl _
structure Scn where
  nm : Str
  mins : Int
  aft : Int
  ns : List Int
def scnD (s : Scn) : D := .tup [.str s.nm, .int s.mins, .int s.aft, .tup (s.ns.map .int)]
theorem nod_scnD (p : Scn) : (scnD p).nod = true := by simp only [scnD, D.nod, D.nods, nods_il, Bool.and_self]
theorem dep_scnD (p : Scn) : (scnD p).dep ≤ 2 := by
  have := dep_il p.ns
  simp only [scnD, D.dep, D.deps]
  omega
theorem nods_scns (ps : List Scn) : D.nods (ps.map scnD) = true := nods_of fun d m => by
  obtain ⟨n, _, rfl⟩ := List.mem_map.mp m
  exact nod_scnD n
theorem deps_scns (ps : List Scn) : D.deps (ps.map scnD) ≤ 2 := deps_le fun d m => by
  obtain ⟨n, _, rfl⟩ := List.mem_map.mp m
  exact dep_scnD n
theorem r_parts (cl) (n many : Int) (h0 : 0 ≤ many) (h1 : many ≤ 8) (c35 : ∀ c k, -100000 ≤ k → k ≤ 100000 → cl 35 [.int c, .int k] = fi (mix c k)) (c36 : ∀ n, -4294967296 ≤ n → n ≤ 4294967296 → cl 36 [.int n] = fi (mins n)) :
    ∃ ps : List Part, R.run cl fn37 [.int n, .int many] = fd (.tup (ps.map partD)) ∧ (ps.length : Int) = many := by
  have L := forRun_J (F := forF cl (.nm 3) [.set (.nm 4) (.call 35 [.var 0, .bin .add (.bin .mul (.int 3) (.var 3)) (.int 1)]),
    .frz 4,
    .set (.nm 5) (.call 36 [.bin .fdiv (.var 4) (.int 7)]),
    .frz 5,
    .set (.nm 6) (.call 36 [.bin .fdiv (.var 4) (.int 11)]),
    .frz 6,
    .ms .append 2 [.tup [.bin .add (.str "p") (.ix (.str "abcdefgh") (.var 3)), .ix (.str "stb") (.bin .mod (.var 4) (.int 3)), .ix (.lst [.int 0, .var 5]) (.bi .int [.cmp .gt (.bin .mod (.var 4) (.int 4)) (.int 0)]), .ix (.lst [.int 0, .var 6]) (.bi .int [.cmp .gt (.bin .mod (.bin .fdiv (.var 4) (.int 3)) (.int 4)) (.int 0)])]]])
    ((rangeL 0 many).map .int) (fun i ρ => ∃ (ps : List Part) (j3 j4 j5 j6 : Option (Kd × D)), ρ = [fi n, fi many, ow (.lst (ps.map partD)), j3, j4, j5, j6] ∧ ps.length = i) [fi n, fi many, ow (.lst []), none, none, none, none] ⟨[], none, none, none, none, rfl, rfl⟩ (by
    rintro i x ρ hx ⟨ps, j3, j4, j5, j6, rfl, hl⟩
    obtain ⟨k, hk, rfl⟩ := get_map_int hx
    obtain ⟨ek, k0, k1⟩ := get_range hk
    have m0 := mix_lo n (3 * k + 1)
    have m1 := mix_hi n (3 * k + 1)
    obtain ⟨a, ha⟩ := x_str (x := "abcdefgh") (i := k) k0 (by show k < 8; omega)
    obtain ⟨b, hb⟩ := x_str (x := "stb") (i := mix n (3 * k + 1) % 3) (by omega) (by show _ < (3 : Int); omega)
    have hs : binD .add (.str "p") (.str ⟨#[a]⟩) = fd (.str ("p" ++ ⟨#[a]⟩)) := b_addS (by show 1 + 1 ≤ 1000000; decide)
    simp -implicitDefEqProofs only [forF, q_var, q_int, q_bl, q_non, q_str, q_glb, q_bin, q_cmp, q_chain, q_and, q_or, q_not, q_neg, q_ifx, q_tup, q_lst, q_ix, q_slc, q_call, q_bi, q_mt, q_lc, q_dnew, q_F0, q_F, q_B0, q_B, q_I0, q_I, q_O0, q_O, s_set, s_setix, s_ms, s_frz, s_ite, s_for, s_whl, s_ret, s_retn, s_brk, s_cnt, s_pass, s_expr, ss_nil, ss_cons, seqO_nx, seqO_rt, seqO_bk, seqO_ct, finD_nx, finD_fz, finD_ow, finD_bo', rtD_fz, rtD_ow, rtD_bo, esc_fz, esc_ow, lkE_fz, lkE_ow, owE_ow, frzE_some, frzE_none, onT_kd, Option.bind_some, List.getElem?_cons_zero, List.getElem?_cons_succ, List.set_cons_zero, List.set_cons_succ, truD, setR_fz, setR_ow, setR_tp, setTg, setMany, tgS, wipeR, srcV, List.length_cons, List.length_nil, Nat.reduceAdd, Nat.reduceLT, ↓reduceIte, reduceCtorEq, intO, Bool.false_eq_true, decide_eq_true_eq, Bool.not_eq_true', decide_eq_false_iff_not, b_add, b_sub, b_mul1, b_mul2, b_mod, b_fdiv, m_rev, c_eqI, c_neI, c_eqB, c_lt, c_le, c_gt, c_ge, f_max, f_min, f_lenL, f_lenT, f_lenS, f_lenX, f_tupL, f_tupT, f_lstL, f_lstT, f_lstS, f_intB, f_intI, f_isB, k_seqL, k_seqT, k_seqS, at_0, at_1, at_2, at_3, x_lst, x_tup, Int.reduceLT, Int.reduceNeg, Int.reduceLE, List.length_map, Bool.or_self, Bool.not_true, Bool.not_false, f_isI, f_isIB, f_isBI, f_isL, f_isT, f_isS, c_is, c_isnt, isNon_non, isNon_tup, isNon_int, isNon_bl, isNon_lst, ne_eq, not_true_eq_false, not_false_eq_true, beq_self_eq_true, if_true, if_false, loopO_nx, loopO_ct, loopO_bk, loopO_rt, c_inT, c_ninT, c_inL, c_ninL, s_forq, lstO_lst, c35 n (3 * k + 1) (by omega) (by omega), c36 (mix n (3 * k + 1) / 7) (by omega) (by omega), c36 (mix n (3 * k + 1) / 11) (by omega) (by omega), ha, hb, hs, at_if, m_app (show (ps.map partD).length ≤ 1000000 by rw [List.length_map]; omega)]
    refine ⟨_, .inl rfl, ps ++ [⟨_, _, _, _⟩], _, _, _, _, by rw [List.map_append]; rfl, ?_⟩
    rw [List.length_append, hl]
    rfl)
  obtain ⟨ρ, e, ps, j3, j4, j5, j6, rfl, hl⟩ := L
  refine ⟨ps, run_to rfl ?_, ?_⟩
  · show finD (evSs cl b37 [fi n, fi many, none, none, none, none, none]) = _
    simp -implicitDefEqProofs only [b37, q_var, q_int, q_bl, q_non, q_str, q_glb, q_bin, q_cmp, q_chain, q_and, q_or, q_not, q_neg, q_ifx, q_tup, q_lst, q_ix, q_slc, q_call, q_bi, q_mt, q_lc, q_dnew, q_F0, q_F, q_B0, q_B, q_I0, q_I, q_O0, q_O, s_set, s_setix, s_ms, s_frz, s_ite, s_for, s_whl, s_ret, s_retn, s_brk, s_cnt, s_pass, s_expr, ss_nil, ss_cons, seqO_nx, seqO_rt, seqO_bk, seqO_ct, finD_nx, finD_fz, finD_ow, finD_bo', rtD_fz, rtD_ow, rtD_bo, esc_fz, esc_ow, lkE_fz, lkE_ow, owE_ow, frzE_some, frzE_none, onT_kd, Option.bind_some, List.getElem?_cons_zero, List.getElem?_cons_succ, List.set_cons_zero, List.set_cons_succ, truD, setR_fz, setR_ow, setR_tp, setTg, setMany, tgS, wipeR, srcV, List.length_cons, List.length_nil, Nat.reduceAdd, Nat.reduceLT, ↓reduceIte, reduceCtorEq, intO, Bool.false_eq_true, decide_eq_true_eq, Bool.not_eq_true', decide_eq_false_iff_not, b_add, b_sub, b_mul1, b_mul2, b_mod, b_fdiv, m_rev, c_eqI, c_neI, c_eqB, c_lt, c_le, c_gt, c_ge, f_max, f_min, f_lenL, f_lenT, f_lenS, f_lenX, f_tupL, f_tupT, f_lstL, f_lstT, f_lstS, f_intB, f_intI, f_isB, k_seqL, k_seqT, k_seqS, at_0, at_1, at_2, at_3, x_lst, x_tup, Int.reduceLT, Int.reduceNeg, Int.reduceLE, List.length_map, Bool.or_self, Bool.not_true, Bool.not_false, f_isI, f_isIB, f_isBI, f_isL, f_isT, f_isS, c_is, c_isnt, isNon_non, isNon_tup, isNon_int, isNon_bl, isNon_lst, ne_eq, not_true_eq_false, not_false_eq_true, beq_self_eq_true, if_true, if_false, loopO_nx, loopO_ct, loopO_bk, loopO_rt, c_inT, c_ninT, c_inL, c_ninL, s_forq, lstO_lst, k_rng1 (show -100000 ≤ many by omega) (by omega), e]
  · rw [List.length_map, len_rangeL] at hl
    omega
/-! ### scenes -/
abbrev pows : List Int := [8, 16, 32, 64, 128, 256, 512, 1024]
theorem pow_pos {k : Int} (h0 : 0 ≤ k) (h1 : k < 8) : 0 < at0 pows k ∧ at0 pows k < 1073741824 := by
  have h : ∀ x ∈ pows, (0 : Int) < x ∧ x < 1073741824 := by decide
  exact h _ (at0_mem h0 (by show k < 8; omega))
def SOk (many : Int) (s : Scn) : Prop := (∀ x ∈ s.ns, 0 ≤ x ∧ x < many) ∧ 0 ≤ s.mins ∧ 0 ≤ s.aft
theorem r_scenes (cl) (cs : List Int) (many : Int) (hc : cs.length ≤ 24) (h0 : 0 ≤ many) (h1 : many ≤ 8) (c35 : ∀ c k, -100000 ≤ k → k ≤ 100000 → cl 35 [.int c, .int k] = fi (mix c k)) (c36 : ∀ n, -4294967296 ≤ n → n ≤ 4294967296 → cl 36 [.int n] = fi (mins n)) :
    ∃ ss : List Scn, R.run cl fn38 [.lst (cs.map .int), .int many] = fd (.tup (ss.map scnD)) ∧ ss.length = cs.length ∧ ∀ s ∈ ss, SOk many s := by
  have L := forRun_J (F := forF cl (.tp [3, 4]) [.set (.nm 5) (.call 35 [.var 4, .var 3]),
    .frz 5,
    .set (.nm 6) (.lc (.var 8) (.nm 8) .rng [.var 1] [.cmp .eq (.bin .mod (.bin .fdiv (.var 5) (.ix (.lst [.int 8, .int 16, .int 32, .int 64, .int 128, .int 256, .int 512, .int 1024]) (.var 8))) (.int 2)) (.int 1)]),
    .ite (.cmp .gt (.bin .mod (.var 5) (.int 3)) (.int 0)) [.set (.nm 6) (.slc (.var 6) none (some (.bin .add (.int 1) (.bin .mod (.bin .fdiv (.var 5) (.int 2048)) (.int 2)))))] [],
    .ite (.cmp .eq (.bin .mod (.bin .fdiv (.var 5) (.int 4096)) (.int 2)) (.int 1)) [.ms .reverse 6 []] [],
    .set (.nm 7) (.bin .add (.str "s") (.ix (.str "abcdefghijklmnopqrstuvwx") (.var 3))),
    .frz 7,
    .ms .append 2 [.tup [.var 7, .call 36 [.bin .fdiv (.var 5) (.int 8192)], .call 36 [.bin .fdiv (.var 5) (.int 64)], .bi .tuple [.var 6]]]])
    ((cs.map D.int).zipIdx.map fun p => D.tup [.int (p.2 : Nat), p.1]) (fun i ρ => ∃ (ss : List Scn) (j3 j4 j5 j6 j7 j8 : Option (Kd × D)), ρ = [fd (.lst (cs.map .int)), fi many, ow (.lst (ss.map scnD)), j3, j4, j5, j6, j7, j8] ∧ ss.length = i ∧ ∀ s ∈ ss, SOk many s)
    [fd (.lst (cs.map .int)), fi many, ow (.lst []), none, none, none, none, none, none] ⟨[], _, _, _, _, _, _, rfl, rfl, fun s m => nomatch m⟩ (by
    rintro i x ρ hx ⟨ss, j3, j4, j5, j6, j7, j8, rfl, hl, hg⟩
    obtain ⟨c, hc', rfl⟩ := get_enum hx
    have hi : i < cs.length := (List.getElem?_eq_some_iff.mp hc').1
    have m0 := mix_lo c i
    have m1 := mix_hi c i
    have M := lcRun_filter D.int (F := lcF cl [fd (.lst (cs.map .int)), fi many, ow (.lst (ss.map scnD)), fi i, fi c, fi (mix c i), j6, j7, j8] (.var 8) (.nm 8) [.cmp .eq (.bin .mod (.bin .fdiv (.var 5) (.ix (.lst [.int 8, .int 16, .int 32, .int 64, .int 128, .int 256, .int 512, .int 1024]) (.var 8))) (.int 2)) (.int 1)]) D.int (fun k => decide (mix c i / at0 pows k % 2 = 1)) (rangeL 0 many) (by
      intro k hk
      rw [mem_rangeL] at hk
      have hp := pow_pos hk.1 (by omega)
      have q : atI [D.int 8, .int 16, .int 32, .int 64, .int 128, .int 256, .int 512, .int 1024] k = some (.int (at0 pows k)) := ix_il (gs := pows) hk.1 (by show k < 8; omega)
      simp -implicitDefEqProofs only [lcF, q_var, q_int, q_bl, q_non, q_str, q_glb, q_bin, q_cmp, q_chain, q_and, q_or, q_not, q_neg, q_ifx, q_tup, q_lst, q_ix, q_slc, q_call, q_bi, q_mt, q_lc, q_dnew, q_F0, q_F, q_B0, q_B, q_I0, q_I, q_O0, q_O, s_set, s_setix, s_ms, s_frz, s_ite, s_for, s_whl, s_ret, s_retn, s_brk, s_cnt, s_pass, s_expr, ss_nil, ss_cons, seqO_nx, seqO_rt, seqO_bk, seqO_ct, finD_nx, finD_fz, finD_ow, finD_bo', rtD_fz, rtD_ow, rtD_bo, esc_fz, esc_ow, lkE_fz, lkE_ow, owE_ow, frzE_some, frzE_none, onT_kd, Option.bind_some, List.getElem?_cons_zero, List.getElem?_cons_succ, List.set_cons_zero, List.set_cons_succ, truD, setR_fz, setR_ow, setR_tp, setTg, setMany, tgS, wipeR, srcV, List.length_cons, List.length_nil, Nat.reduceAdd, Nat.reduceLT, ↓reduceIte, reduceCtorEq, intO, Bool.false_eq_true, decide_eq_true_eq, Bool.not_eq_true', decide_eq_false_iff_not, b_add, b_sub, b_mul1, b_mul2, b_mod, b_fdiv, m_rev, c_eqI, c_neI, c_eqB, c_lt, c_le, c_gt, c_ge, f_max, f_min, f_lenL, f_lenT, f_lenS, f_lenX, f_tupL, f_tupT, f_lstL, f_lstT, f_lstS, f_intB, f_intI, f_isB, k_seqL, k_seqT, k_seqS, at_0, at_1, at_2, at_3, x_lst, x_tup, Int.reduceLT, Int.reduceNeg, Int.reduceLE, List.length_map, Bool.or_self, Bool.not_true, Bool.not_false, f_isI, f_isIB, f_isBI, f_isL, f_isT, f_isS, c_is, c_isnt, isNon_non, isNon_tup, isNon_int, isNon_bl, isNon_lst, ne_eq, not_true_eq_false, not_false_eq_true, beq_self_eq_true, if_true, if_false, loopO_nx, loopO_ct, loopO_bk, loopO_rt, c_inT, c_ninT, c_inL, c_ninL, s_forq, lstO_lst, q, b_fdiv hp.1 hp.2]
      split <;> rfl)
    have sub : ∀ x ∈ (rangeL 0 many).filter (fun k => decide (mix c i / at0 pows k % 2 = 1)), 0 ≤ x ∧ x < many := fun x hx => mem_rangeL.mp (List.mem_filter.mp hx).1
    obtain ⟨a, ha⟩ := x_str (x := "abcdefghijklmnopqrstuvwx") (i := (i : Int)) (by omega) (by show (i : Int) < 24; omega)
    have hb : binD .add (.str "s") (.str ⟨#[a]⟩) = fd (.str ("s" ++ ⟨#[a]⟩)) := b_addS (by show 1 + 1 ≤ 1000000; decide)
    have c1 := c36 (mix c i / 8192) (by omega) (by omega)
    have c2 := c36 (mix c i / 64) (by omega) (by omega)
    have hm : ∀ d, msD .append (.lst (ss.map scnD)) [d] = some (.lst (ss.map scnD ++ [d])) := fun d => m_app (by rw [List.length_map]; omega)
    have c0 := c35 c i (by omega) (by omega)
    have fin : ∀ ms : List Int, (∀ x ∈ ms, 0 ≤ x ∧ x < many) → ∃ ρ', (some (Out.nx [fd (.lst (cs.map .int)), fi many, ow (.lst (ss.map scnD ++ [.tup [.str ("s" ++ ⟨#[a]⟩), .int (mins (mix c i / 8192)), .int (mins (mix c i / 64)), .tup (ms.map .int)]])), fi i, fi c, fi (mix c i), ow (.lst (ms.map .int)), fd (.str ("s" ++ ⟨#[a]⟩)), j8]) = some (Out.nx ρ') ∨ some (Out.nx [fd (.lst (cs.map .int)), fi many, ow (.lst (ss.map scnD ++ [.tup [.str ("s" ++ ⟨#[a]⟩), .int (mins (mix c i / 8192)), .int (mins (mix c i / 64)), .tup (ms.map .int)]])), fi i, fi c, fi (mix c i), ow (.lst (ms.map .int)), fd (.str ("s" ++ ⟨#[a]⟩)), j8]) = some (Out.ct ρ')) ∧ ∃ (ss : List Scn) (j3 j4 j5 j6 j7 j8 : Option (Kd × D)), ρ' = [fd (.lst (cs.map .int)), fi many, ow (.lst (ss.map scnD)), j3, j4, j5, j6, j7, j8] ∧ ss.length = i + 1 ∧ ∀ s ∈ ss, SOk many s := by
      intro ms hms
      refine ⟨_, .inl rfl, ss ++ [⟨"s" ++ ⟨#[a]⟩, mins (mix c i / 8192), mins (mix c i / 64), ms⟩], _, _, _, _, _, _, by rw [List.map_append]; rfl, ?_, fun t ht => ?_⟩
      · rw [List.length_append, hl]
        rfl
      · rw [List.mem_append, List.mem_singleton] at ht
        rcases ht with ht | rfl
        · exact hg t ht
        · exact ⟨hms, mins_pos _, mins_pos _⟩
    by_cases a : 0 < mix c i % 3
    · by_cases b : mix c i / 4096 % 2 = 1
      · simp -implicitDefEqProofs only [forF, q_var, q_int, q_bl, q_non, q_str, q_glb, q_bin, q_cmp, q_chain, q_and, q_or, q_not, q_neg, q_ifx, q_tup, q_lst, q_ix, q_slc, q_call, q_bi, q_mt, q_lc, q_dnew, q_F0, q_F, q_B0, q_B, q_I0, q_I, q_O0, q_O, s_set, s_setix, s_ms, s_frz, s_ite, s_for, s_whl, s_ret, s_retn, s_brk, s_cnt, s_pass, s_expr, ss_nil, ss_cons, seqO_nx, seqO_rt, seqO_bk, seqO_ct, finD_nx, finD_fz, finD_ow, finD_bo', rtD_fz, rtD_ow, rtD_bo, esc_fz, esc_ow, lkE_fz, lkE_ow, owE_ow, frzE_some, frzE_none, onT_kd, Option.bind_some, List.getElem?_cons_zero, List.getElem?_cons_succ, List.set_cons_zero, List.set_cons_succ, truD, setR_fz, setR_ow, setR_tp, setTg, setMany, tgS, wipeR, srcV, List.length_cons, List.length_nil, Nat.reduceAdd, Nat.reduceLT, ↓reduceIte, reduceCtorEq, intO, Bool.false_eq_true, decide_eq_true_eq, Bool.not_eq_true', decide_eq_false_iff_not, b_add, b_sub, b_mul1, b_mul2, b_mod, b_fdiv, m_rev, c_eqI, c_neI, c_eqB, c_lt, c_le, c_gt, c_ge, f_max, f_min, f_lenL, f_lenT, f_lenS, f_lenX, f_tupL, f_tupT, f_lstL, f_lstT, f_lstS, f_intB, f_intI, f_isB, k_seqL, k_seqT, k_seqS, at_0, at_1, at_2, at_3, x_lst, x_tup, Int.reduceLT, Int.reduceNeg, Int.reduceLE, List.length_map, Bool.or_self, Bool.not_true, Bool.not_false, f_isI, f_isIB, f_isBI, f_isL, f_isT, f_isS, c_is, c_isnt, isNon_non, isNon_tup, isNon_int, isNon_bl, isNon_lst, ne_eq, not_true_eq_false, not_false_eq_true, beq_self_eq_true, if_true, if_false, loopO_nx, loopO_ct, loopO_bk, loopO_rt, c_inT, c_ninT, c_inL, c_ninL, s_forq, lstO_lst, c0, k_rng1 (show -100000 ≤ many by omega) (by omega), M, if_pos a, if_pos b, slcD, cut_map, ← List.map_reverse, ha, hb, c1, c2, hm]
        exact fin _ (fun x hx => sub x (mem_cut (List.mem_reverse.mp hx)))
      · simp -implicitDefEqProofs only [forF, q_var, q_int, q_bl, q_non, q_str, q_glb, q_bin, q_cmp, q_chain, q_and, q_or, q_not, q_neg, q_ifx, q_tup, q_lst, q_ix, q_slc, q_call, q_bi, q_mt, q_lc, q_dnew, q_F0, q_F, q_B0, q_B, q_I0, q_I, q_O0, q_O, s_set, s_setix, s_ms, s_frz, s_ite, s_for, s_whl, s_ret, s_retn, s_brk, s_cnt, s_pass, s_expr, ss_nil, ss_cons, seqO_nx, seqO_rt, seqO_bk, seqO_ct, finD_nx, finD_fz, finD_ow, finD_bo', rtD_fz, rtD_ow, rtD_bo, esc_fz, esc_ow, lkE_fz, lkE_ow, owE_ow, frzE_some, frzE_none, onT_kd, Option.bind_some, List.getElem?_cons_zero, List.getElem?_cons_succ, List.set_cons_zero, List.set_cons_succ, truD, setR_fz, setR_ow, setR_tp, setTg, setMany, tgS, wipeR, srcV, List.length_cons, List.length_nil, Nat.reduceAdd, Nat.reduceLT, ↓reduceIte, reduceCtorEq, intO, Bool.false_eq_true, decide_eq_true_eq, Bool.not_eq_true', decide_eq_false_iff_not, b_add, b_sub, b_mul1, b_mul2, b_mod, b_fdiv, m_rev, c_eqI, c_neI, c_eqB, c_lt, c_le, c_gt, c_ge, f_max, f_min, f_lenL, f_lenT, f_lenS, f_lenX, f_tupL, f_tupT, f_lstL, f_lstT, f_lstS, f_intB, f_intI, f_isB, k_seqL, k_seqT, k_seqS, at_0, at_1, at_2, at_3, x_lst, x_tup, Int.reduceLT, Int.reduceNeg, Int.reduceLE, List.length_map, Bool.or_self, Bool.not_true, Bool.not_false, f_isI, f_isIB, f_isBI, f_isL, f_isT, f_isS, c_is, c_isnt, isNon_non, isNon_tup, isNon_int, isNon_bl, isNon_lst, ne_eq, not_true_eq_false, not_false_eq_true, beq_self_eq_true, if_true, if_false, loopO_nx, loopO_ct, loopO_bk, loopO_rt, c_inT, c_ninT, c_inL, c_ninL, s_forq, lstO_lst, c0, k_rng1 (show -100000 ≤ many by omega) (by omega), M, if_pos a, if_neg b, slcD, cut_map, ha, hb, c1, c2, hm]
        exact fin _ (fun x hx => sub x (mem_cut hx))
    · by_cases b : mix c i / 4096 % 2 = 1
      · simp -implicitDefEqProofs only [forF, q_var, q_int, q_bl, q_non, q_str, q_glb, q_bin, q_cmp, q_chain, q_and, q_or, q_not, q_neg, q_ifx, q_tup, q_lst, q_ix, q_slc, q_call, q_bi, q_mt, q_lc, q_dnew, q_F0, q_F, q_B0, q_B, q_I0, q_I, q_O0, q_O, s_set, s_setix, s_ms, s_frz, s_ite, s_for, s_whl, s_ret, s_retn, s_brk, s_cnt, s_pass, s_expr, ss_nil, ss_cons, seqO_nx, seqO_rt, seqO_bk, seqO_ct, finD_nx, finD_fz, finD_ow, finD_bo', rtD_fz, rtD_ow, rtD_bo, esc_fz, esc_ow, lkE_fz, lkE_ow, owE_ow, frzE_some, frzE_none, onT_kd, Option.bind_some, List.getElem?_cons_zero, List.getElem?_cons_succ, List.set_cons_zero, List.set_cons_succ, truD, setR_fz, setR_ow, setR_tp, setTg, setMany, tgS, wipeR, srcV, List.length_cons, List.length_nil, Nat.reduceAdd, Nat.reduceLT, ↓reduceIte, reduceCtorEq, intO, Bool.false_eq_true, decide_eq_true_eq, Bool.not_eq_true', decide_eq_false_iff_not, b_add, b_sub, b_mul1, b_mul2, b_mod, b_fdiv, m_rev, c_eqI, c_neI, c_eqB, c_lt, c_le, c_gt, c_ge, f_max, f_min, f_lenL, f_lenT, f_lenS, f_lenX, f_tupL, f_tupT, f_lstL, f_lstT, f_lstS, f_intB, f_intI, f_isB, k_seqL, k_seqT, k_seqS, at_0, at_1, at_2, at_3, x_lst, x_tup, Int.reduceLT, Int.reduceNeg, Int.reduceLE, List.length_map, Bool.or_self, Bool.not_true, Bool.not_false, f_isI, f_isIB, f_isBI, f_isL, f_isT, f_isS, c_is, c_isnt, isNon_non, isNon_tup, isNon_int, isNon_bl, isNon_lst, ne_eq, not_true_eq_false, not_false_eq_true, beq_self_eq_true, if_true, if_false, loopO_nx, loopO_ct, loopO_bk, loopO_rt, c_inT, c_ninT, c_inL, c_ninL, s_forq, lstO_lst, c0, k_rng1 (show -100000 ≤ many by omega) (by omega), M, if_neg a, if_pos b, ← List.map_reverse, ha, hb, c1, c2, hm]
        exact fin _ (fun x hx => sub x (List.mem_reverse.mp hx))
      · simp -implicitDefEqProofs only [forF, q_var, q_int, q_bl, q_non, q_str, q_glb, q_bin, q_cmp, q_chain, q_and, q_or, q_not, q_neg, q_ifx, q_tup, q_lst, q_ix, q_slc, q_call, q_bi, q_mt, q_lc, q_dnew, q_F0, q_F, q_B0, q_B, q_I0, q_I, q_O0, q_O, s_set, s_setix, s_ms, s_frz, s_ite, s_for, s_whl, s_ret, s_retn, s_brk, s_cnt, s_pass, s_expr, ss_nil, ss_cons, seqO_nx, seqO_rt, seqO_bk, seqO_ct, finD_nx, finD_fz, finD_ow, finD_bo', rtD_fz, rtD_ow, rtD_bo, esc_fz, esc_ow, lkE_fz, lkE_ow, owE_ow, frzE_some, frzE_none, onT_kd, Option.bind_some, List.getElem?_cons_zero, List.getElem?_cons_succ, List.set_cons_zero, List.set_cons_succ, truD, setR_fz, setR_ow, setR_tp, setTg, setMany, tgS, wipeR, srcV, List.length_cons, List.length_nil, Nat.reduceAdd, Nat.reduceLT, ↓reduceIte, reduceCtorEq, intO, Bool.false_eq_true, decide_eq_true_eq, Bool.not_eq_true', decide_eq_false_iff_not, b_add, b_sub, b_mul1, b_mul2, b_mod, b_fdiv, m_rev, c_eqI, c_neI, c_eqB, c_lt, c_le, c_gt, c_ge, f_max, f_min, f_lenL, f_lenT, f_lenS, f_lenX, f_tupL, f_tupT, f_lstL, f_lstT, f_lstS, f_intB, f_intI, f_isB, k_seqL, k_seqT, k_seqS, at_0, at_1, at_2, at_3, x_lst, x_tup, Int.reduceLT, Int.reduceNeg, Int.reduceLE, List.length_map, Bool.or_self, Bool.not_true, Bool.not_false, f_isI, f_isIB, f_isBI, f_isL, f_isT, f_isS, c_is, c_isnt, isNon_non, isNon_tup, isNon_int, isNon_bl, isNon_lst, ne_eq, not_true_eq_false, not_false_eq_true, beq_self_eq_true, if_true, if_false, loopO_nx, loopO_ct, loopO_bk, loopO_rt, c_inT, c_ninT, c_inL, c_ninL, s_forq, lstO_lst, c0, k_rng1 (show -100000 ≤ many by omega) (by omega), M, if_neg a, if_neg b, ha, hb, c1, c2, hm]
        exact fin _ sub)
  obtain ⟨ρ, e, ss, j3, j4, j5, j6, j7, j8, rfl, hl, hg⟩ := L
  refine ⟨ss, run_to rfl ?_, ?_, hg⟩
  · show finD (evSs cl b38 [fd (.lst (cs.map .int)), fi many, none, none, none, none, none, none, none]) = _
    simp -implicitDefEqProofs only [b38, q_var, q_int, q_bl, q_non, q_str, q_glb, q_bin, q_cmp, q_chain, q_and, q_or, q_not, q_neg, q_ifx, q_tup, q_lst, q_ix, q_slc, q_call, q_bi, q_mt, q_lc, q_dnew, q_F0, q_F, q_B0, q_B, q_I0, q_I, q_O0, q_O, s_set, s_setix, s_ms, s_frz, s_ite, s_for, s_whl, s_ret, s_retn, s_brk, s_cnt, s_pass, s_expr, ss_nil, ss_cons, seqO_nx, seqO_rt, seqO_bk, seqO_ct, finD_nx, finD_fz, finD_ow, finD_bo', rtD_fz, rtD_ow, rtD_bo, esc_fz, esc_ow, lkE_fz, lkE_ow, owE_ow, frzE_some, frzE_none, onT_kd, Option.bind_some, List.getElem?_cons_zero, List.getElem?_cons_succ, List.set_cons_zero, List.set_cons_succ, truD, setR_fz, setR_ow, setR_tp, setTg, setMany, tgS, wipeR, srcV, List.length_cons, List.length_nil, Nat.reduceAdd, Nat.reduceLT, ↓reduceIte, reduceCtorEq, intO, Bool.false_eq_true, decide_eq_true_eq, Bool.not_eq_true', decide_eq_false_iff_not, b_add, b_sub, b_mul1, b_mul2, b_mod, b_fdiv, m_rev, c_eqI, c_neI, c_eqB, c_lt, c_le, c_gt, c_ge, f_max, f_min, f_lenL, f_lenT, f_lenS, f_lenX, f_tupL, f_tupT, f_lstL, f_lstT, f_lstS, f_intB, f_intI, f_isB, k_seqL, k_seqT, k_seqS, at_0, at_1, at_2, at_3, x_lst, x_tup, Int.reduceLT, Int.reduceNeg, Int.reduceLE, List.length_map, Bool.or_self, Bool.not_true, Bool.not_false, f_isI, f_isIB, f_isBI, f_isL, f_isT, f_isS, c_is, c_isnt, isNon_non, isNon_tup, isNon_int, isNon_bl, isNon_lst, ne_eq, not_true_eq_false, not_false_eq_true, beq_self_eq_true, if_true, if_false, loopO_nx, loopO_ct, loopO_bk, loopO_rt, c_inT, c_ninT, c_inL, c_ninL, s_forq, lstO_lst, srcD, e]
  · rw [hl, List.length_map, List.length_zipIdx, List.length_map]
end RL

set_option linter.all false
set_option maxHeartbeats 4000000
namespace RL
open PySem R L2
/-! ### the time between two scenes -/
def bookG (rx : D × D × D) (ps : List Part) (ss : List Scn) : D := .tup [.tup (ps.map partD), rx.1, .tup (ss.map scnD), rx.2.1, rx.2.2]
variable {rx : D × D × D}
def S0 : Scn := ⟨"", 0, 0, []⟩
def sc (ss : List Scn) (i : Nat) : Scn := ss.getD i S0
theorem sc_at {ss : List Scn} {i : Nat} (h : i < ss.length) : ss[i]? = some (sc ss i) := by
  unfold sc
  rw [List.getD_eq_getElem?_getD, List.getElem?_eq_getElem h]
  rfl
theorem at_scn {ss : List Scn} {i : Nat} (h : i < ss.length) : atI (ss.map scnD) (i : Int) = some (scnD (sc ss i)) := by
  rw [atI_map, atI_nat (sc_at h)]
  rfl
theorem at_scnI {ss : List Scn} {i : Int} (h0 : 0 ≤ i) (h : i < ss.length) : atI (ss.map scnD) i = some (scnD (sc ss i.toNat)) := by
  have e : i = (i.toNat : Int) := by omega
  rw [e]
  exact at_scn (by omega)
def tbN (ss : List Scn) (s : Nat) : Nat → Int
  | 0 => (sc ss s).aft
  | n + 1 => tbN ss s n + (sc ss (s + n + 1)).mins + (sc ss (s + n + 1)).aft
theorem get_cut {α : Type} {xs : List α} {a b i : Nat} {x : α} (h : (cut xs (some (a : Int)) (some (b : Int)))[i]? = some x) : a + i < b ∧ xs[a + i]? = some x := by
  rw [cut_nat, List.getElem?_take] at h
  split at h
  · rename_i hi
    rw [List.getElem?_drop] at h
    have hl := (List.getElem?_eq_some_iff.mp h).1
    have e : min a xs.length = a := by omega
    rw [e] at h hi
    exact ⟨by omega, h⟩
  · cases h
theorem r_time (cl) (ps : List Part) (ss : List Scn) (s t : Nat) (h0 : s < t) (h1 : t ≤ ss.length) : R.run cl fn34 [bookG rx ps ss, .int s, .int t] = fi (tbN ss s (t - s - 1)) := by
  refine run_to rfl ?_
  have L := forRun_J (F := forF cl (.nm 5) [.set (.nm 4) (.bin .add (.bin .add (.var 4) (.ix (.var 5) (.int 1))) (.ix (.var 5) (.int 2))),
    .frz 4]) ((cut ss (some ((s + 1 : Nat) : Int)) (some (t : Int))).map scnD) (fun i ρ => ∃ j, ρ = [fd (bookG rx ps ss), fi s, fi t, fd (.tup (ss.map scnD)), fi (tbN ss s i), j]) [fd (bookG rx ps ss), fi s, fi t, fd (.tup (ss.map scnD)), fi (tbN ss s 0), none] ⟨_, rfl⟩ (by
    rintro i x ρ hx ⟨j, rfl⟩
    obtain ⟨y, hy, rfl⟩ := get_map hx
    obtain ⟨hi, hy⟩ := get_cut hy
    have e : s + 1 + i = s + i + 1 := by omega
    rw [e, sc_at (by omega)] at hy
    cases hy
    simp -implicitDefEqProofs only [forF, scnD, q_var, q_int, q_bl, q_non, q_str, q_glb, q_bin, q_cmp, q_chain, q_and, q_or, q_not, q_neg, q_ifx, q_tup, q_lst, q_ix, q_slc, q_call, q_bi, q_mt, q_lc, q_dnew, q_F0, q_F, q_B0, q_B, q_I0, q_I, q_O0, q_O, s_set, s_setix, s_ms, s_frz, s_ite, s_for, s_whl, s_ret, s_retn, s_brk, s_cnt, s_pass, s_expr, ss_nil, ss_cons, seqO_nx, seqO_rt, seqO_bk, seqO_ct, finD_nx, finD_fz, finD_ow, finD_bo', rtD_fz, rtD_ow, rtD_bo, esc_fz, esc_ow, lkE_fz, lkE_ow, owE_ow, frzE_some, frzE_none, onT_kd, Option.bind_some, List.getElem?_cons_zero, List.getElem?_cons_succ, List.set_cons_zero, List.set_cons_succ, truD, setR_fz, setR_ow, setR_tp, setTg, setMany, tgS, wipeR, srcV, List.length_cons, List.length_nil, Nat.reduceAdd, Nat.reduceLT, ↓reduceIte, reduceCtorEq, intO, Bool.false_eq_true, decide_eq_true_eq, Bool.not_eq_true', decide_eq_false_iff_not, b_add, b_sub, b_mul1, b_mul2, b_mod, b_fdiv, m_rev, c_eqI, c_neI, c_eqB, c_lt, c_le, c_gt, c_ge, f_max, f_min, f_lenL, f_lenT, f_lenS, f_lenX, f_tupL, f_tupT, f_lstL, f_lstT, f_lstS, f_intB, f_intI, f_isB, k_seqL, k_seqT, k_seqS, at_0, at_1, at_2, at_3, x_lst, x_tup, Int.reduceLT, Int.reduceNeg, Int.reduceLE, List.length_map, Bool.or_self, Bool.not_true, Bool.not_false, f_isI, f_isIB, f_isBI, f_isL, f_isT, f_isS, c_is, c_isnt, isNon_non, isNon_tup, isNon_int, isNon_bl, isNon_lst, ne_eq, not_true_eq_false, not_false_eq_true, beq_self_eq_true, if_true, if_false, loopO_nx, loopO_ct, loopO_bk, loopO_rt, c_inT, c_ninT, c_inL, c_ninL, s_forq, lstO_lst]
    exact ⟨_, .inl rfl, _, rfl⟩)
  obtain ⟨ρ, e, j, rfl⟩ := L
  have hl : (cut ss (some ((s + 1 : Nat) : Int)) (some (t : Int))).length = t - s - 1 := by
    rw [cut_nat, List.length_take, List.length_drop]
    omega
  rw [List.length_map, hl] at e
  show finD (evSs cl b34 [fd (bookG rx ps ss), fi s, fi t, none, none, none]) = _
  have e1 : ((s : Int) + 1) = ((s + 1 : Nat) : Int) := by omega
  have e2 : atI (ss.map scnD) (s : Int) = some (.tup [.str (sc ss s).nm, .int (sc ss s).mins, .int (tbN ss s 0), .tup ((sc ss s).ns.map .int)]) := at_scn (by omega)
  unfold bookG at e ⊢
  simp -implicitDefEqProofs only [b34, q_var, q_int, q_bl, q_non, q_str, q_glb, q_bin, q_cmp, q_chain, q_and, q_or, q_not, q_neg, q_ifx, q_tup, q_lst, q_ix, q_slc, q_call, q_bi, q_mt, q_lc, q_dnew, q_F0, q_F, q_B0, q_B, q_I0, q_I, q_O0, q_O, s_set, s_setix, s_ms, s_frz, s_ite, s_for, s_whl, s_ret, s_retn, s_brk, s_cnt, s_pass, s_expr, ss_nil, ss_cons, seqO_nx, seqO_rt, seqO_bk, seqO_ct, finD_nx, finD_fz, finD_ow, finD_bo', rtD_fz, rtD_ow, rtD_bo, esc_fz, esc_ow, lkE_fz, lkE_ow, owE_ow, frzE_some, frzE_none, onT_kd, Option.bind_some, List.getElem?_cons_zero, List.getElem?_cons_succ, List.set_cons_zero, List.set_cons_succ, truD, setR_fz, setR_ow, setR_tp, setTg, setMany, tgS, wipeR, srcV, List.length_cons, List.length_nil, Nat.reduceAdd, Nat.reduceLT, ↓reduceIte, reduceCtorEq, intO, Bool.false_eq_true, decide_eq_true_eq, Bool.not_eq_true', decide_eq_false_iff_not, b_add, b_sub, b_mul1, b_mul2, b_mod, b_fdiv, m_rev, c_eqI, c_neI, c_eqB, c_lt, c_le, c_gt, c_ge, f_max, f_min, f_lenL, f_lenT, f_lenS, f_lenX, f_tupL, f_tupT, f_lstL, f_lstT, f_lstS, f_intB, f_intI, f_isB, k_seqL, k_seqT, k_seqS, at_0, at_1, at_2, at_3, x_lst, x_tup, Int.reduceLT, Int.reduceNeg, Int.reduceLE, List.length_map, Bool.or_self, Bool.not_true, Bool.not_false, f_isI, f_isIB, f_isBI, f_isL, f_isT, f_isS, c_is, c_isnt, isNon_non, isNon_tup, isNon_int, isNon_bl, isNon_lst, ne_eq, not_true_eq_false, not_false_eq_true, beq_self_eq_true, if_true, if_false, loopO_nx, loopO_ct, loopO_bk, loopO_rt, c_inT, c_ninT, c_inL, c_ninL, s_forq, lstO_lst, e2, e1, slcD, cut_map, e]
end RL

set_option linter.all false
set_option maxHeartbeats 4000000
namespace RL
open PySem R L2
variable {rx : D × D × D}
/-! ### why two parts clash -/
def P0 : Part := ⟨"", "", 0, 0⟩
def pt (ps : List Part) (i : Int) : Part := ps.getD i.toNat P0
theorem at_part {ps : List Part} {i : Int} (h0 : 0 ≤ i) (h : i < ps.length) : atI (ps.map partD) i = some (partD (pt ps i)) := by
  rw [atI_map, atI_getD P0 h0 h]
  rfl
def scI (ss : List Scn) (i : Int) : Scn := sc ss i.toNat
theorem at_scI {ss : List Scn} {i : Int} (h0 : 0 ≤ i) (h : i < ss.length) : atI (ss.map scnD) i = some (scnD (scI ss i)) := at_scnI h0 h
def tb (ss : List Scn) (s t : Int) : Int := tbN ss s.toNat (t.toNat - s.toNat - 1)
def need (ps : List Part) (i j : Int) : Int := (pt ps i).off + (pt ps j).on
def chgD (ps : List Part) (ss : List Scn) (s t i j : Int) : D := .tup [.str "change", .int s, .int t, .int (tb ss s t), .int (need ps i j)]
def shorter (ps : List Part) (ss : List Scn) (s t i j : Int) : Prop := i ∈ (scI ss s).ns ∧ j ∈ (scI ss t).ns ∧ tb ss s t < need ps i j
instance (ps ss s t i j) : Decidable (shorter ps ss s t i j) := by unfold shorter; infer_instance
theorem r_timeI (cl) (ps : List Part) (ss : List Scn) (s t : Int) (h : 0 ≤ s) (h0 : s < t) (h1 : t ≤ ss.length) : R.run cl fn34 [bookG rx ps ss, .int s, .int t] = fi (tb ss s t) := by
  have e1 : s = (s.toNat : Int) := by omega
  have e2 : t = (t.toNat : Int) := by omega
  have := r_time (rx := rx) cl ps ss s.toNat t.toNat (by omega) (by omega)
  rw [← e1, ← e2] at this
  exact this
theorem r_need (cl) (ps : List Part) (ss : List Scn) (i j : Int) (i0 : 0 ≤ i) (i1 : i < ps.length) (j0 : 0 ≤ j) (j1 : j < ps.length) : R.run cl fn40 [bookG rx ps ss, .int i, .int j] = fi (need ps i j) := by
  refine run_to rfl ?_
  show finD (evSs cl b40 [fd (bookG rx ps ss), fi i, fi j]) = _
  unfold bookG
  simp -implicitDefEqProofs only [b40, q_var, q_int, q_bl, q_non, q_str, q_glb, q_bin, q_cmp, q_chain, q_and, q_or, q_not, q_neg, q_ifx, q_tup, q_lst, q_ix, q_slc, q_call, q_bi, q_mt, q_lc, q_dnew, q_F0, q_F, q_B0, q_B, q_I0, q_I, q_O0, q_O, s_set, s_setix, s_ms, s_frz, s_ite, s_for, s_whl, s_ret, s_retn, s_brk, s_cnt, s_pass, s_expr, ss_nil, ss_cons, seqO_nx, seqO_rt, seqO_bk, seqO_ct, finD_nx, finD_fz, finD_ow, finD_bo', rtD_fz, rtD_ow, rtD_bo, esc_fz, esc_ow, lkE_fz, lkE_ow, owE_ow, frzE_some, frzE_none, onT_kd, Option.bind_some, List.getElem?_cons_zero, List.getElem?_cons_succ, List.set_cons_zero, List.set_cons_succ, truD, setR_fz, setR_ow, setR_tp, setTg, setMany, tgS, wipeR, srcV, List.length_cons, List.length_nil, Nat.reduceAdd, Nat.reduceLT, ↓reduceIte, reduceCtorEq, intO, Bool.false_eq_true, decide_eq_true_eq, Bool.not_eq_true', decide_eq_false_iff_not, b_add, b_sub, b_mul1, b_mul2, b_mod, b_fdiv, m_rev, c_eqI, c_neI, c_eqB, c_lt, c_le, c_gt, c_ge, f_max, f_min, f_lenL, f_lenT, f_lenS, f_lenX, f_tupL, f_tupT, f_lstL, f_lstT, f_lstS, f_intB, f_intI, f_isB, k_seqL, k_seqT, k_seqS, at_0, at_1, at_2, at_3, x_lst, x_tup, Int.reduceLT, Int.reduceNeg, Int.reduceLE, List.length_map, Bool.or_self, Bool.not_true, Bool.not_false, f_isI, f_isIB, f_isBI, f_isL, f_isT, f_isS, c_is, c_isnt, isNon_non, isNon_tup, isNon_int, isNon_bl, isNon_lst, ne_eq, not_true_eq_false, not_false_eq_true, beq_self_eq_true, if_true, if_false, loopO_nx, loopO_ct, loopO_bk, loopO_rt, c_inT, c_ninT, c_inL, c_ninL, s_forq, lstO_lst, at_part i0 i1, at_part j0 j1, partD]
  rfl
theorem r_short (cl) (ps : List Part) (ss : List Scn) (s t i j : Int) (i0 : 0 ≤ i) (i1 : i < ps.length) (j0 : 0 ≤ j) (j1 : j < ps.length) (h : 0 ≤ s) (h0 : s < t) (h1 : t < ss.length)
    (c34 : cl 34 [bookG rx ps ss, .int s, .int t] = fi (tb ss s t)) (c40 : cl 40 [bookG rx ps ss, .int i, .int j] = fi (need ps i j)) :
    R.run cl fn41 [bookG rx ps ss, .int s, .int t, .int i, .int j] = fd (if shorter ps ss s t i j then chgD ps ss s t i j else .non) := by
  refine run_to rfl ?_
  show finD (evSs cl b41 [fd (bookG rx ps ss), fi s, fi t, fi i, fi j, none, none]) = _
  have a1 := at_scI (ss := ss) h (show s < ss.length by omega)
  have a2 := at_scI (ss := ss) (show 0 ≤ t by omega) h1
  unfold bookG at c34 c40 ⊢
  by_cases x1 : i ∈ (scI ss s).ns
  · by_cases x2 : j ∈ (scI ss t).ns
    · by_cases x3 : tb ss s t < need ps i j
      · rw [if_pos ⟨x1, x2, x3⟩]
        simp -implicitDefEqProofs only [b41, q_var, q_int, q_bl, q_non, q_str, q_glb, q_bin, q_cmp, q_chain, q_and, q_or, q_not, q_neg, q_ifx, q_tup, q_lst, q_ix, q_slc, q_call, q_bi, q_mt, q_lc, q_dnew, q_F0, q_F, q_B0, q_B, q_I0, q_I, q_O0, q_O, s_set, s_setix, s_ms, s_frz, s_ite, s_for, s_whl, s_ret, s_retn, s_brk, s_cnt, s_pass, s_expr, ss_nil, ss_cons, seqO_nx, seqO_rt, seqO_bk, seqO_ct, finD_nx, finD_fz, finD_ow, finD_bo', rtD_fz, rtD_ow, rtD_bo, esc_fz, esc_ow, lkE_fz, lkE_ow, owE_ow, frzE_some, frzE_none, onT_kd, Option.bind_some, List.getElem?_cons_zero, List.getElem?_cons_succ, List.set_cons_zero, List.set_cons_succ, truD, setR_fz, setR_ow, setR_tp, setTg, setMany, tgS, wipeR, srcV, List.length_cons, List.length_nil, Nat.reduceAdd, Nat.reduceLT, ↓reduceIte, reduceCtorEq, intO, Bool.false_eq_true, decide_eq_true_eq, Bool.not_eq_true', decide_eq_false_iff_not, b_add, b_sub, b_mul1, b_mul2, b_mod, b_fdiv, m_rev, c_eqI, c_neI, c_eqB, c_lt, c_le, c_gt, c_ge, f_max, f_min, f_lenL, f_lenT, f_lenS, f_lenX, f_tupL, f_tupT, f_lstL, f_lstT, f_lstS, f_intB, f_intI, f_isB, k_seqL, k_seqT, k_seqS, at_0, at_1, at_2, at_3, x_lst, x_tup, Int.reduceLT, Int.reduceNeg, Int.reduceLE, List.length_map, Bool.or_self, Bool.not_true, Bool.not_false, f_isI, f_isIB, f_isBI, f_isL, f_isT, f_isS, c_is, c_isnt, isNon_non, isNon_tup, isNon_int, isNon_bl, isNon_lst, ne_eq, not_true_eq_false, not_false_eq_true, beq_self_eq_true, if_true, if_false, loopO_nx, loopO_ct, loopO_bk, loopO_rt, c_inT, c_ninT, c_inL, c_ninL, s_forq, lstO_lst, a1, a2, scnD, x1, x2, x3, c34, c40, decide_true]
        rfl
      · rw [if_neg fun z => x3 z.2.2]
        simp -implicitDefEqProofs only [b41, q_var, q_int, q_bl, q_non, q_str, q_glb, q_bin, q_cmp, q_chain, q_and, q_or, q_not, q_neg, q_ifx, q_tup, q_lst, q_ix, q_slc, q_call, q_bi, q_mt, q_lc, q_dnew, q_F0, q_F, q_B0, q_B, q_I0, q_I, q_O0, q_O, s_set, s_setix, s_ms, s_frz, s_ite, s_for, s_whl, s_ret, s_retn, s_brk, s_cnt, s_pass, s_expr, ss_nil, ss_cons, seqO_nx, seqO_rt, seqO_bk, seqO_ct, finD_nx, finD_fz, finD_ow, finD_bo', rtD_fz, rtD_ow, rtD_bo, esc_fz, esc_ow, lkE_fz, lkE_ow, owE_ow, frzE_some, frzE_none, onT_kd, Option.bind_some, List.getElem?_cons_zero, List.getElem?_cons_succ, List.set_cons_zero, List.set_cons_succ, truD, setR_fz, setR_ow, setR_tp, setTg, setMany, tgS, wipeR, srcV, List.length_cons, List.length_nil, Nat.reduceAdd, Nat.reduceLT, ↓reduceIte, reduceCtorEq, intO, Bool.false_eq_true, decide_eq_true_eq, Bool.not_eq_true', decide_eq_false_iff_not, b_add, b_sub, b_mul1, b_mul2, b_mod, b_fdiv, m_rev, c_eqI, c_neI, c_eqB, c_lt, c_le, c_gt, c_ge, f_max, f_min, f_lenL, f_lenT, f_lenS, f_lenX, f_tupL, f_tupT, f_lstL, f_lstT, f_lstS, f_intB, f_intI, f_isB, k_seqL, k_seqT, k_seqS, at_0, at_1, at_2, at_3, x_lst, x_tup, Int.reduceLT, Int.reduceNeg, Int.reduceLE, List.length_map, Bool.or_self, Bool.not_true, Bool.not_false, f_isI, f_isIB, f_isBI, f_isL, f_isT, f_isS, c_is, c_isnt, isNon_non, isNon_tup, isNon_int, isNon_bl, isNon_lst, ne_eq, not_true_eq_false, not_false_eq_true, beq_self_eq_true, if_true, if_false, loopO_nx, loopO_ct, loopO_bk, loopO_rt, c_inT, c_ninT, c_inL, c_ninL, s_forq, lstO_lst, a1, a2, scnD, x1, x2, x3, c34, c40, decide_true, decide_false]
    · rw [if_neg fun z => x2 z.2.1]
      simp -implicitDefEqProofs only [b41, q_var, q_int, q_bl, q_non, q_str, q_glb, q_bin, q_cmp, q_chain, q_and, q_or, q_not, q_neg, q_ifx, q_tup, q_lst, q_ix, q_slc, q_call, q_bi, q_mt, q_lc, q_dnew, q_F0, q_F, q_B0, q_B, q_I0, q_I, q_O0, q_O, s_set, s_setix, s_ms, s_frz, s_ite, s_for, s_whl, s_ret, s_retn, s_brk, s_cnt, s_pass, s_expr, ss_nil, ss_cons, seqO_nx, seqO_rt, seqO_bk, seqO_ct, finD_nx, finD_fz, finD_ow, finD_bo', rtD_fz, rtD_ow, rtD_bo, esc_fz, esc_ow, lkE_fz, lkE_ow, owE_ow, frzE_some, frzE_none, onT_kd, Option.bind_some, List.getElem?_cons_zero, List.getElem?_cons_succ, List.set_cons_zero, List.set_cons_succ, truD, setR_fz, setR_ow, setR_tp, setTg, setMany, tgS, wipeR, srcV, List.length_cons, List.length_nil, Nat.reduceAdd, Nat.reduceLT, ↓reduceIte, reduceCtorEq, intO, Bool.false_eq_true, decide_eq_true_eq, Bool.not_eq_true', decide_eq_false_iff_not, b_add, b_sub, b_mul1, b_mul2, b_mod, b_fdiv, m_rev, c_eqI, c_neI, c_eqB, c_lt, c_le, c_gt, c_ge, f_max, f_min, f_lenL, f_lenT, f_lenS, f_lenX, f_tupL, f_tupT, f_lstL, f_lstT, f_lstS, f_intB, f_intI, f_isB, k_seqL, k_seqT, k_seqS, at_0, at_1, at_2, at_3, x_lst, x_tup, Int.reduceLT, Int.reduceNeg, Int.reduceLE, List.length_map, Bool.or_self, Bool.not_true, Bool.not_false, f_isI, f_isIB, f_isBI, f_isL, f_isT, f_isS, c_is, c_isnt, isNon_non, isNon_tup, isNon_int, isNon_bl, isNon_lst, ne_eq, not_true_eq_false, not_false_eq_true, beq_self_eq_true, if_true, if_false, loopO_nx, loopO_ct, loopO_bk, loopO_rt, c_inT, c_ninT, c_inL, c_ninL, s_forq, lstO_lst, a1, a2, scnD, x1, x2, decide_true, decide_false]
  · rw [if_neg fun z => x1 z.1]
    simp -implicitDefEqProofs only [b41, q_var, q_int, q_bl, q_non, q_str, q_glb, q_bin, q_cmp, q_chain, q_and, q_or, q_not, q_neg, q_ifx, q_tup, q_lst, q_ix, q_slc, q_call, q_bi, q_mt, q_lc, q_dnew, q_F0, q_F, q_B0, q_B, q_I0, q_I, q_O0, q_O, s_set, s_setix, s_ms, s_frz, s_ite, s_for, s_whl, s_ret, s_retn, s_brk, s_cnt, s_pass, s_expr, ss_nil, ss_cons, seqO_nx, seqO_rt, seqO_bk, seqO_ct, finD_nx, finD_fz, finD_ow, finD_bo', rtD_fz, rtD_ow, rtD_bo, esc_fz, esc_ow, lkE_fz, lkE_ow, owE_ow, frzE_some, frzE_none, onT_kd, Option.bind_some, List.getElem?_cons_zero, List.getElem?_cons_succ, List.set_cons_zero, List.set_cons_succ, truD, setR_fz, setR_ow, setR_tp, setTg, setMany, tgS, wipeR, srcV, List.length_cons, List.length_nil, Nat.reduceAdd, Nat.reduceLT, ↓reduceIte, reduceCtorEq, intO, Bool.false_eq_true, decide_eq_true_eq, Bool.not_eq_true', decide_eq_false_iff_not, b_add, b_sub, b_mul1, b_mul2, b_mod, b_fdiv, m_rev, c_eqI, c_neI, c_eqB, c_lt, c_le, c_gt, c_ge, f_max, f_min, f_lenL, f_lenT, f_lenS, f_lenX, f_tupL, f_tupT, f_lstL, f_lstT, f_lstS, f_intB, f_intI, f_isB, k_seqL, k_seqT, k_seqS, at_0, at_1, at_2, at_3, x_lst, x_tup, Int.reduceLT, Int.reduceNeg, Int.reduceLE, List.length_map, Bool.or_self, Bool.not_true, Bool.not_false, f_isI, f_isIB, f_isBI, f_isL, f_isT, f_isS, c_is, c_isnt, isNon_non, isNon_tup, isNon_int, isNon_bl, isNon_lst, ne_eq, not_true_eq_false, not_false_eq_true, beq_self_eq_true, if_true, if_false, loopO_nx, loopO_ct, loopO_bk, loopO_rt, c_inT, c_ninT, c_inL, c_ninL, s_forq, lstO_lst, a1, a2, scnD, x1, decide_false]
def st3 (ps : List Part) (ss : List Scn) (i j s : Int) (_ : Unit) (t : Int) : Go Unit :=
  if shorter ps ss s t i j then .out .fz (chgD ps ss s t i j) else if shorter ps ss s t j i then .out .fz (chgD ps ss s t j i) else .go ()
def st4 (ps : List Part) (ss : List Scn) (i j : Int) (_ : Unit) (s : Int) : Go Unit :=
  if i ∈ (scI ss s).ns ∧ j ∈ (scI ss s).ns then .out .fz (.tup [.str "scene", .int s]) else match goRun (st3 ps ss i j s) (rangeL (s + 1) ss.length) () with
    | .out k d => .out k d
    | _ => .go ()
def whyG (ps : List Part) (ss : List Scn) (i j : Int) : Go Unit := goRun (st4 ps ss i j) (rangeL 0 ss.length) ()
def whyD (ps : List Part) (ss : List Scn) (i j : Int) : D := match whyG ps ss i j with
  | .out _ d => d
  | _ => .non
def GoP {σ : Type} (P : Kd → D → Prop) : Go σ → Prop
  | .go _ => True
  | .stop _ => False
  | .out k d => P k d
/-- what goRun may give -/
theorem goRun_of {α σ : Type} {step : σ → α → Go σ} (P : Kd → D → Prop) (h : ∀ s a, GoP P (step s a)) : ∀ (xs : List α) (s : σ), GoP P (goRun step xs s)
  | [], s => trivial
  | x :: xs, s => by
    have := h s x
    rw [goRun]
    revert this
    cases step s x with
    | go s' => exact fun _ => goRun_of P h xs s'
    | stop s' => exact fun z => z.elim
    | out k d => exact fun z => z
def ChgLike (k : Kd) (d : D) : Prop := k = .fz ∧ ∃ (x : Str) (ns : List Int), d = .tup (.str x :: ns.map .int) ∧ 1 ≤ ns.length ∧ ns.length ≤ 4
theorem st3_of (ps ss i j s) : ∀ u t, GoP ChgLike (st3 ps ss i j s u t) := by
  intro u t
  unfold st3
  by_cases h1 : shorter ps ss s t i j
  · rw [if_pos h1]
    exact ⟨rfl, "change", [s, t, tb ss s t, need ps i j], rfl, (by show 1 ≤ _; simp), (by simp)⟩
  · rw [if_neg h1]
    by_cases h2 : shorter ps ss s t j i
    · rw [if_pos h2]
      exact ⟨rfl, "change", [s, t, tb ss s t, need ps j i], rfl, (by show 1 ≤ _; simp), (by simp)⟩
    · rw [if_neg h2]
      trivial
theorem st4_of (ps ss i j) : ∀ u s, GoP ChgLike (st4 ps ss i j u s) := by
  intro u s
  unfold st4
  by_cases h1 : i ∈ (scI ss s).ns ∧ j ∈ (scI ss s).ns
  · rw [if_pos h1]
    exact ⟨rfl, "scene", [s], rfl, (by show 1 ≤ _; simp), (by simp)⟩
  · rw [if_neg h1]
    have := goRun_of ChgLike (st3_of ps ss i j s) (rangeL (s + 1) ss.length) ()
    revert this
    cases goRun (st3 ps ss i j s) (rangeL (s + 1) ss.length) () with
    | go _ => exact fun _ => trivial
    | stop _ => exact fun z => False.elim z
    | out k d => exact fun z => z
theorem why_of (ps ss i j) : GoP ChgLike (whyG ps ss i j) := goRun_of ChgLike (st4_of ps ss i j) _ _
theorem whyD_of (ps ss i j) : whyD ps ss i j = .non ∨ ∃ (x : Str) (ns : List Int), whyD ps ss i j = .tup (.str x :: ns.map .int) ∧ 1 ≤ ns.length ∧ ns.length ≤ 4 := by
  have := why_of ps ss i j
  revert this
  unfold whyD
  cases whyG ps ss i j with
  | go _ => exact fun _ => .inl rfl
  | stop _ => exact fun _ => .inl rfl
  | out k d => exact fun z => .inr z.2
/-! ### both ways round it is the same -/
theorem st3_comm (ps ss i j s) (h : ¬ (i ∈ (scI ss s).ns ∧ j ∈ (scI ss s).ns)) : st3 ps ss i j s = st3 ps ss j i s := by
  funext u t
  unfold st3
  by_cases h1 : shorter ps ss s t i j
  · have h2 : ¬ shorter ps ss s t j i := fun z => h ⟨h1.1, z.1⟩
    rw [if_pos h1, if_neg h2, if_pos h1]
  · by_cases h2 : shorter ps ss s t j i
    · rw [if_neg h1, if_pos h2, if_pos h2]
    · rw [if_neg h1, if_neg h2, if_neg h2, if_neg h1]
theorem st4_comm (ps ss i j) : st4 ps ss i j = st4 ps ss j i := by
  funext u s
  unfold st4
  by_cases h : i ∈ (scI ss s).ns ∧ j ∈ (scI ss s).ns
  · rw [if_pos h, if_pos h.symm]
  · rw [if_neg h, if_neg fun z => h z.symm, st3_comm ps ss i j s h]
theorem why_comm (ps ss i j) : whyD ps ss i j = whyD ps ss j i := by
  unfold whyD whyG
  rw [st4_comm]
/-! ### reason_of -/
theorem r_reason (cl) (ps : List Part) (ss : List Scn) (i j : Int) (i0 : 0 ≤ i) (i1 : i < ps.length) (j0 : 0 ≤ j) (j1 : j < ps.length) (hz : ss.length ≤ 1000)
    (c41 : ∀ s t i j : Int, 0 ≤ i → i < ps.length → 0 ≤ j → j < ps.length → 0 ≤ s → s < t → t < ss.length → cl 41 [bookG rx ps ss, .int s, .int t, .int i, .int j] = fd (if shorter ps ss s t i j then chgD ps ss s t i j else .non)) :
    R.run cl fn42 [bookG rx ps ss, .int i, .int j] = fd (whyD ps ss i j) := by
  refine run_to rfl ?_
  have inner : ∀ (s : Int) (j5 j6 j7 j8 : Option (Kd × D)), 0 ≤ s → s < ss.length → GoEnd (fun _ ρ => ∃ j5 j6 j7 j8, ρ = [fd (bookG rx ps ss), fi i, fi j, fi ss.length, fi s, j5, j6, j7, j8]) (goRun (st3 ps ss i j s) (rangeL (s + 1) ss.length) ()) (forRun (forF cl (.nm 5) [.for_ (.tp [6, 7]) .seq [.tup [.tup [.var 1, .var 2], .tup [.var 2, .var 1]]] [.set (.nm 8) (.call 41 [.var 0, .var 4, .var 5, .var 6, .var 7]),
        .frz 8,
        .ite (.cmp .isnt (.var 8) (.non)) [.ret (.var 8)] []]]) ((rangeL (s + 1) ss.length).map .int) [fd (bookG rx ps ss), fi i, fi j, fi ss.length, fi s, j5, j6, j7, j8]) := by
    intro s j5 j6 j7 j8 s0 s1
    refine forRun_go D.int _ (st3 ps ss i j s) _ _ _ ?_ ⟨_, _, _, _, rfl⟩
    rintro _ t ρ ht ⟨j5, j6, j7, j8, rfl⟩
    rw [mem_rangeL] at ht
    have d1 := c41 s t i j i0 i1 j0 j1 s0 (by omega) ht.2
    have d2 := c41 s t j i j0 j1 i0 i1 s0 (by omega) ht.2
    unfold st3
    by_cases h1 : shorter ps ss s t i j
    · rw [if_pos h1] at d1 ⊢
      simp -implicitDefEqProofs only [forF, q_var, q_int, q_bl, q_non, q_str, q_glb, q_bin, q_cmp, q_chain, q_and, q_or, q_not, q_neg, q_ifx, q_tup, q_lst, q_ix, q_slc, q_call, q_bi, q_mt, q_lc, q_dnew, q_F0, q_F, q_B0, q_B, q_I0, q_I, q_O0, q_O, s_set, s_setix, s_ms, s_frz, s_ite, s_for, s_whl, s_ret, s_retn, s_brk, s_cnt, s_pass, s_expr, ss_nil, ss_cons, seqO_nx, seqO_rt, seqO_bk, seqO_ct, finD_nx, finD_fz, finD_ow, finD_bo', rtD_fz, rtD_ow, rtD_bo, esc_fz, esc_ow, lkE_fz, lkE_ow, owE_ow, frzE_some, frzE_none, onT_kd, Option.bind_some, List.getElem?_cons_zero, List.getElem?_cons_succ, List.set_cons_zero, List.set_cons_succ, truD, setR_fz, setR_ow, setR_tp, setTg, setMany, tgS, wipeR, srcV, List.length_cons, List.length_nil, Nat.reduceAdd, Nat.reduceLT, ↓reduceIte, reduceCtorEq, intO, Bool.false_eq_true, decide_eq_true_eq, Bool.not_eq_true', decide_eq_false_iff_not, b_add, b_sub, b_mul1, b_mul2, b_mod, b_fdiv, m_rev, c_eqI, c_neI, c_eqB, c_lt, c_le, c_gt, c_ge, f_max, f_min, f_lenL, f_lenT, f_lenS, f_lenX, f_tupL, f_tupT, f_lstL, f_lstT, f_lstS, f_intB, f_intI, f_isB, k_seqL, k_seqT, k_seqS, at_0, at_1, at_2, at_3, x_lst, x_tup, Int.reduceLT, Int.reduceNeg, Int.reduceLE, List.length_map, Bool.or_self, Bool.not_true, Bool.not_false, f_isI, f_isIB, f_isBI, f_isL, f_isT, f_isS, c_is, c_isnt, isNon_non, isNon_tup, isNon_int, isNon_bl, isNon_lst, ne_eq, not_true_eq_false, not_false_eq_true, beq_self_eq_true, if_true, if_false, loopO_nx, loopO_ct, loopO_bk, loopO_rt, c_inT, c_ninT, c_inL, c_ninL, s_forq, lstO_lst, forRun_cons, forRun_nil, d1, chgD]
      rfl
    · rw [if_neg h1] at d1 ⊢
      by_cases h2 : shorter ps ss s t j i
      · rw [if_pos h2] at d2 ⊢
        simp -implicitDefEqProofs only [forF, q_var, q_int, q_bl, q_non, q_str, q_glb, q_bin, q_cmp, q_chain, q_and, q_or, q_not, q_neg, q_ifx, q_tup, q_lst, q_ix, q_slc, q_call, q_bi, q_mt, q_lc, q_dnew, q_F0, q_F, q_B0, q_B, q_I0, q_I, q_O0, q_O, s_set, s_setix, s_ms, s_frz, s_ite, s_for, s_whl, s_ret, s_retn, s_brk, s_cnt, s_pass, s_expr, ss_nil, ss_cons, seqO_nx, seqO_rt, seqO_bk, seqO_ct, finD_nx, finD_fz, finD_ow, finD_bo', rtD_fz, rtD_ow, rtD_bo, esc_fz, esc_ow, lkE_fz, lkE_ow, owE_ow, frzE_some, frzE_none, onT_kd, Option.bind_some, List.getElem?_cons_zero, List.getElem?_cons_succ, List.set_cons_zero, List.set_cons_succ, truD, setR_fz, setR_ow, setR_tp, setTg, setMany, tgS, wipeR, srcV, List.length_cons, List.length_nil, Nat.reduceAdd, Nat.reduceLT, ↓reduceIte, reduceCtorEq, intO, Bool.false_eq_true, decide_eq_true_eq, Bool.not_eq_true', decide_eq_false_iff_not, b_add, b_sub, b_mul1, b_mul2, b_mod, b_fdiv, m_rev, c_eqI, c_neI, c_eqB, c_lt, c_le, c_gt, c_ge, f_max, f_min, f_lenL, f_lenT, f_lenS, f_lenX, f_tupL, f_tupT, f_lstL, f_lstT, f_lstS, f_intB, f_intI, f_isB, k_seqL, k_seqT, k_seqS, at_0, at_1, at_2, at_3, x_lst, x_tup, Int.reduceLT, Int.reduceNeg, Int.reduceLE, List.length_map, Bool.or_self, Bool.not_true, Bool.not_false, f_isI, f_isIB, f_isBI, f_isL, f_isT, f_isS, c_is, c_isnt, isNon_non, isNon_tup, isNon_int, isNon_bl, isNon_lst, ne_eq, not_true_eq_false, not_false_eq_true, beq_self_eq_true, if_true, if_false, loopO_nx, loopO_ct, loopO_bk, loopO_rt, c_inT, c_ninT, c_inL, c_ninL, s_forq, lstO_lst, forRun_cons, forRun_nil, d1, d2, chgD]
        rfl
      · rw [if_neg h2] at d2 ⊢
        simp -implicitDefEqProofs only [forF, q_var, q_int, q_bl, q_non, q_str, q_glb, q_bin, q_cmp, q_chain, q_and, q_or, q_not, q_neg, q_ifx, q_tup, q_lst, q_ix, q_slc, q_call, q_bi, q_mt, q_lc, q_dnew, q_F0, q_F, q_B0, q_B, q_I0, q_I, q_O0, q_O, s_set, s_setix, s_ms, s_frz, s_ite, s_for, s_whl, s_ret, s_retn, s_brk, s_cnt, s_pass, s_expr, ss_nil, ss_cons, seqO_nx, seqO_rt, seqO_bk, seqO_ct, finD_nx, finD_fz, finD_ow, finD_bo', rtD_fz, rtD_ow, rtD_bo, esc_fz, esc_ow, lkE_fz, lkE_ow, owE_ow, frzE_some, frzE_none, onT_kd, Option.bind_some, List.getElem?_cons_zero, List.getElem?_cons_succ, List.set_cons_zero, List.set_cons_succ, truD, setR_fz, setR_ow, setR_tp, setTg, setMany, tgS, wipeR, srcV, List.length_cons, List.length_nil, Nat.reduceAdd, Nat.reduceLT, ↓reduceIte, reduceCtorEq, intO, Bool.false_eq_true, decide_eq_true_eq, Bool.not_eq_true', decide_eq_false_iff_not, b_add, b_sub, b_mul1, b_mul2, b_mod, b_fdiv, m_rev, c_eqI, c_neI, c_eqB, c_lt, c_le, c_gt, c_ge, f_max, f_min, f_lenL, f_lenT, f_lenS, f_lenX, f_tupL, f_tupT, f_lstL, f_lstT, f_lstS, f_intB, f_intI, f_isB, k_seqL, k_seqT, k_seqS, at_0, at_1, at_2, at_3, x_lst, x_tup, Int.reduceLT, Int.reduceNeg, Int.reduceLE, List.length_map, Bool.or_self, Bool.not_true, Bool.not_false, f_isI, f_isIB, f_isBI, f_isL, f_isT, f_isS, c_is, c_isnt, isNon_non, isNon_tup, isNon_int, isNon_bl, isNon_lst, ne_eq, not_true_eq_false, not_false_eq_true, beq_self_eq_true, if_true, if_false, loopO_nx, loopO_ct, loopO_bk, loopO_rt, c_inT, c_ninT, c_inL, c_ninL, s_forq, lstO_lst, forRun_cons, forRun_nil, d1, d2]
        exact ⟨_, .inl rfl, _, _, _, _, rfl⟩
  have outer := forRun_go D.int (F := forF cl (.nm 4) [.ite (.and (.cmp .isin (.var 1) (.ix (.ix (.ix (.var 0) (.int 2)) (.var 4)) (.int 3))) (.cmp .isin (.var 2) (.ix (.ix (.ix (.var 0) (.int 2)) (.var 4)) (.int 3)))) [.ret (.tup [.str "scene", .var 4])] [],
    .for_ (.nm 5) .rng [.bin .add (.var 4) (.int 1), .var 3] [.for_ (.tp [6, 7]) .seq [.tup [.tup [.var 1, .var 2], .tup [.var 2, .var 1]]] [.set (.nm 8) (.call 41 [.var 0, .var 4, .var 5, .var 6, .var 7]),
        .frz 8,
        .ite (.cmp .isnt (.var 8) (.non)) [.ret (.var 8)] []]]]) (fun _ ρ => ∃ j4 j5 j6 j7 j8, ρ = [fd (bookG rx ps ss), fi i, fi j, fi ss.length, j4, j5, j6, j7, j8]) (st4 ps ss i j) (rangeL 0 ss.length) () [fd (bookG rx ps ss), fi i, fi j, fi ss.length, none, none, none, none, none] (by
    rintro _ s ρ hs ⟨j4, j5, j6, j7, j8, rfl⟩
    rw [mem_rangeL] at hs
    have a1 := at_scI hs.1 hs.2
    have rg := k_rng2 (a := s + 1) (n := ss.length) (by omega) (by omega) (by omega) (by omega)
    have inn := inner s j5 j6 j7 j8 hs.1 hs.2
    have sto := goRun_of ChgLike (st3_of ps ss i j s) (rangeL (s + 1) ss.length) ()
    unfold bookG at inn ⊢
    unfold st4
    by_cases x1 : i ∈ (scI ss s).ns
    · by_cases x2 : j ∈ (scI ss s).ns
      · rw [if_pos ⟨x1, x2⟩]
        simp -implicitDefEqProofs only [forF, q_var, q_int, q_bl, q_non, q_str, q_glb, q_bin, q_cmp, q_chain, q_and, q_or, q_not, q_neg, q_ifx, q_tup, q_lst, q_ix, q_slc, q_call, q_bi, q_mt, q_lc, q_dnew, q_F0, q_F, q_B0, q_B, q_I0, q_I, q_O0, q_O, s_set, s_setix, s_ms, s_frz, s_ite, s_for, s_whl, s_ret, s_retn, s_brk, s_cnt, s_pass, s_expr, ss_nil, ss_cons, seqO_nx, seqO_rt, seqO_bk, seqO_ct, finD_nx, finD_fz, finD_ow, finD_bo', rtD_fz, rtD_ow, rtD_bo, esc_fz, esc_ow, lkE_fz, lkE_ow, owE_ow, frzE_some, frzE_none, onT_kd, Option.bind_some, List.getElem?_cons_zero, List.getElem?_cons_succ, List.set_cons_zero, List.set_cons_succ, truD, setR_fz, setR_ow, setR_tp, setTg, setMany, tgS, wipeR, srcV, List.length_cons, List.length_nil, Nat.reduceAdd, Nat.reduceLT, ↓reduceIte, reduceCtorEq, intO, Bool.false_eq_true, decide_eq_true_eq, Bool.not_eq_true', decide_eq_false_iff_not, b_add, b_sub, b_mul1, b_mul2, b_mod, b_fdiv, m_rev, c_eqI, c_neI, c_eqB, c_lt, c_le, c_gt, c_ge, f_max, f_min, f_lenL, f_lenT, f_lenS, f_lenX, f_tupL, f_tupT, f_lstL, f_lstT, f_lstS, f_intB, f_intI, f_isB, k_seqL, k_seqT, k_seqS, at_0, at_1, at_2, at_3, x_lst, x_tup, Int.reduceLT, Int.reduceNeg, Int.reduceLE, List.length_map, Bool.or_self, Bool.not_true, Bool.not_false, f_isI, f_isIB, f_isBI, f_isL, f_isT, f_isS, c_is, c_isnt, isNon_non, isNon_tup, isNon_int, isNon_bl, isNon_lst, ne_eq, not_true_eq_false, not_false_eq_true, beq_self_eq_true, if_true, if_false, loopO_nx, loopO_ct, loopO_bk, loopO_rt, c_inT, c_ninT, c_inL, c_ninL, s_forq, lstO_lst, a1, scnD, x1, x2, decide_true]
        rfl
      · rw [if_neg fun z => x2 z.2]
        simp -implicitDefEqProofs only [forF, q_var, q_int, q_bl, q_non, q_str, q_glb, q_bin, q_cmp, q_chain, q_and, q_or, q_not, q_neg, q_ifx, q_tup, q_lst, q_ix, q_slc, q_call, q_bi, q_mt, q_lc, q_dnew, q_F0, q_F, q_B0, q_B, q_I0, q_I, q_O0, q_O, s_set, s_setix, s_ms, s_frz, s_ite, s_for, s_whl, s_ret, s_retn, s_brk, s_cnt, s_pass, s_expr, ss_nil, ss_cons, seqO_nx, seqO_rt, seqO_bk, seqO_ct, finD_nx, finD_fz, finD_ow, finD_bo', rtD_fz, rtD_ow, rtD_bo, esc_fz, esc_ow, lkE_fz, lkE_ow, owE_ow, frzE_some, frzE_none, onT_kd, Option.bind_some, List.getElem?_cons_zero, List.getElem?_cons_succ, List.set_cons_zero, List.set_cons_succ, truD, setR_fz, setR_ow, setR_tp, setTg, setMany, tgS, wipeR, srcV, List.length_cons, List.length_nil, Nat.reduceAdd, Nat.reduceLT, ↓reduceIte, reduceCtorEq, intO, Bool.false_eq_true, decide_eq_true_eq, Bool.not_eq_true', decide_eq_false_iff_not, b_add, b_sub, b_mul1, b_mul2, b_mod, b_fdiv, m_rev, c_eqI, c_neI, c_eqB, c_lt, c_le, c_gt, c_ge, f_max, f_min, f_lenL, f_lenT, f_lenS, f_lenX, f_tupL, f_tupT, f_lstL, f_lstT, f_lstS, f_intB, f_intI, f_isB, k_seqL, k_seqT, k_seqS, at_0, at_1, at_2, at_3, x_lst, x_tup, Int.reduceLT, Int.reduceNeg, Int.reduceLE, List.length_map, Bool.or_self, Bool.not_true, Bool.not_false, f_isI, f_isIB, f_isBI, f_isL, f_isT, f_isS, c_is, c_isnt, isNon_non, isNon_tup, isNon_int, isNon_bl, isNon_lst, ne_eq, not_true_eq_false, not_false_eq_true, beq_self_eq_true, if_true, if_false, loopO_nx, loopO_ct, loopO_bk, loopO_rt, c_inT, c_ninT, c_inL, c_ninL, s_forq, lstO_lst, a1, scnD, x1, x2, decide_true, decide_false, rg]
        revert inn sto
        cases goRun (st3 ps ss i j s) (rangeL (s + 1) ss.length) () with
        | go u =>
          rintro ⟨ρ, e, k5, k6, k7, k8, rfl⟩ _
          rw [e]
          exact ⟨_, .inl rfl, _, _, _, _, _, rfl⟩
        | stop u => exact fun _ z => z.elim
        | out k d =>
          intro e _
          have e : forRun _ _ _ = some (.rt k d) := e
          rw [e]
          rfl
    · rw [if_neg fun z => x1 z.1]
      simp -implicitDefEqProofs only [forF, q_var, q_int, q_bl, q_non, q_str, q_glb, q_bin, q_cmp, q_chain, q_and, q_or, q_not, q_neg, q_ifx, q_tup, q_lst, q_ix, q_slc, q_call, q_bi, q_mt, q_lc, q_dnew, q_F0, q_F, q_B0, q_B, q_I0, q_I, q_O0, q_O, s_set, s_setix, s_ms, s_frz, s_ite, s_for, s_whl, s_ret, s_retn, s_brk, s_cnt, s_pass, s_expr, ss_nil, ss_cons, seqO_nx, seqO_rt, seqO_bk, seqO_ct, finD_nx, finD_fz, finD_ow, finD_bo', rtD_fz, rtD_ow, rtD_bo, esc_fz, esc_ow, lkE_fz, lkE_ow, owE_ow, frzE_some, frzE_none, onT_kd, Option.bind_some, List.getElem?_cons_zero, List.getElem?_cons_succ, List.set_cons_zero, List.set_cons_succ, truD, setR_fz, setR_ow, setR_tp, setTg, setMany, tgS, wipeR, srcV, List.length_cons, List.length_nil, Nat.reduceAdd, Nat.reduceLT, ↓reduceIte, reduceCtorEq, intO, Bool.false_eq_true, decide_eq_true_eq, Bool.not_eq_true', decide_eq_false_iff_not, b_add, b_sub, b_mul1, b_mul2, b_mod, b_fdiv, m_rev, c_eqI, c_neI, c_eqB, c_lt, c_le, c_gt, c_ge, f_max, f_min, f_lenL, f_lenT, f_lenS, f_lenX, f_tupL, f_tupT, f_lstL, f_lstT, f_lstS, f_intB, f_intI, f_isB, k_seqL, k_seqT, k_seqS, at_0, at_1, at_2, at_3, x_lst, x_tup, Int.reduceLT, Int.reduceNeg, Int.reduceLE, List.length_map, Bool.or_self, Bool.not_true, Bool.not_false, f_isI, f_isIB, f_isBI, f_isL, f_isT, f_isS, c_is, c_isnt, isNon_non, isNon_tup, isNon_int, isNon_bl, isNon_lst, ne_eq, not_true_eq_false, not_false_eq_true, beq_self_eq_true, if_true, if_false, loopO_nx, loopO_ct, loopO_bk, loopO_rt, c_inT, c_ninT, c_inL, c_ninL, s_forq, lstO_lst, a1, scnD, x1, decide_false, rg]
      revert inn sto
      cases goRun (st3 ps ss i j s) (rangeL (s + 1) ss.length) () with
      | go u =>
        rintro ⟨ρ, e, k5, k6, k7, k8, rfl⟩ _
        rw [e]
        exact ⟨_, .inl rfl, _, _, _, _, _, rfl⟩
      | stop u => exact fun _ z => z.elim
      | out k d =>
        intro e _
        have e : forRun _ _ _ = some (.rt k d) := e
        rw [e]
        rfl) ⟨_, _, _, _, _, rfl⟩
  show finD (evSs cl b42 [fd (bookG rx ps ss), fi i, fi j, none, none, none, none, none, none]) = _
  have sto := why_of ps ss i j
  have rg := k_rng1 (n := ss.length) (by omega) (by omega)
  unfold bookG at outer ⊢
  simp -implicitDefEqProofs only [b42, q_var, q_int, q_bl, q_non, q_str, q_glb, q_bin, q_cmp, q_chain, q_and, q_or, q_not, q_neg, q_ifx, q_tup, q_lst, q_ix, q_slc, q_call, q_bi, q_mt, q_lc, q_dnew, q_F0, q_F, q_B0, q_B, q_I0, q_I, q_O0, q_O, s_set, s_setix, s_ms, s_frz, s_ite, s_for, s_whl, s_ret, s_retn, s_brk, s_cnt, s_pass, s_expr, ss_nil, ss_cons, seqO_nx, seqO_rt, seqO_bk, seqO_ct, finD_nx, finD_fz, finD_ow, finD_bo', rtD_fz, rtD_ow, rtD_bo, esc_fz, esc_ow, lkE_fz, lkE_ow, owE_ow, frzE_some, frzE_none, onT_kd, Option.bind_some, List.getElem?_cons_zero, List.getElem?_cons_succ, List.set_cons_zero, List.set_cons_succ, truD, setR_fz, setR_ow, setR_tp, setTg, setMany, tgS, wipeR, srcV, List.length_cons, List.length_nil, Nat.reduceAdd, Nat.reduceLT, ↓reduceIte, reduceCtorEq, intO, Bool.false_eq_true, decide_eq_true_eq, Bool.not_eq_true', decide_eq_false_iff_not, b_add, b_sub, b_mul1, b_mul2, b_mod, b_fdiv, m_rev, c_eqI, c_neI, c_eqB, c_lt, c_le, c_gt, c_ge, f_max, f_min, f_lenL, f_lenT, f_lenS, f_lenX, f_tupL, f_tupT, f_lstL, f_lstT, f_lstS, f_intB, f_intI, f_isB, k_seqL, k_seqT, k_seqS, at_0, at_1, at_2, at_3, x_lst, x_tup, Int.reduceLT, Int.reduceNeg, Int.reduceLE, List.length_map, Bool.or_self, Bool.not_true, Bool.not_false, f_isI, f_isIB, f_isBI, f_isL, f_isT, f_isS, c_is, c_isnt, isNon_non, isNon_tup, isNon_int, isNon_bl, isNon_lst, ne_eq, not_true_eq_false, not_false_eq_true, beq_self_eq_true, if_true, if_false, loopO_nx, loopO_ct, loopO_bk, loopO_rt, c_inT, c_ninT, c_inL, c_ninL, s_forq, lstO_lst, rg]
  unfold whyD
  revert outer sto
  unfold whyG
  cases goRun (st4 ps ss i j) (rangeL 0 ss.length) () with
  | go u =>
    rintro ⟨ρ, e, k5, k6, k7, k8, k9, rfl⟩ _
    rw [e]
    simp -implicitDefEqProofs only [q_var, q_int, q_bl, q_non, q_str, q_glb, q_bin, q_cmp, q_chain, q_and, q_or, q_not, q_neg, q_ifx, q_tup, q_lst, q_ix, q_slc, q_call, q_bi, q_mt, q_lc, q_dnew, q_F0, q_F, q_B0, q_B, q_I0, q_I, q_O0, q_O, s_set, s_setix, s_ms, s_frz, s_ite, s_for, s_whl, s_ret, s_retn, s_brk, s_cnt, s_pass, s_expr, ss_nil, ss_cons, seqO_nx, seqO_rt, seqO_bk, seqO_ct, finD_nx, finD_fz, finD_ow, finD_bo', rtD_fz, rtD_ow, rtD_bo, esc_fz, esc_ow, lkE_fz, lkE_ow, owE_ow, frzE_some, frzE_none, onT_kd, Option.bind_some, List.getElem?_cons_zero, List.getElem?_cons_succ, List.set_cons_zero, List.set_cons_succ, truD, setR_fz, setR_ow, setR_tp, setTg, setMany, tgS, wipeR, srcV, List.length_cons, List.length_nil, Nat.reduceAdd, Nat.reduceLT, ↓reduceIte, reduceCtorEq, intO, Bool.false_eq_true, decide_eq_true_eq, Bool.not_eq_true', decide_eq_false_iff_not, b_add, b_sub, b_mul1, b_mul2, b_mod, b_fdiv, m_rev, c_eqI, c_neI, c_eqB, c_lt, c_le, c_gt, c_ge, f_max, f_min, f_lenL, f_lenT, f_lenS, f_lenX, f_tupL, f_tupT, f_lstL, f_lstT, f_lstS, f_intB, f_intI, f_isB, k_seqL, k_seqT, k_seqS, at_0, at_1, at_2, at_3, x_lst, x_tup, Int.reduceLT, Int.reduceNeg, Int.reduceLE, List.length_map, Bool.or_self, Bool.not_true, Bool.not_false, f_isI, f_isIB, f_isBI, f_isL, f_isT, f_isS, c_is, c_isnt, isNon_non, isNon_tup, isNon_int, isNon_bl, isNon_lst, ne_eq, not_true_eq_false, not_false_eq_true, beq_self_eq_true, if_true, if_false, loopO_nx, loopO_ct, loopO_bk, loopO_rt, c_inT, c_ninT, c_inL, c_ninL, s_forq, lstO_lst]
  | stop u => exact fun _ z => z.elim
  | out k d =>
    intro e z
    have e : forRun _ _ _ = some (.rt k d) := e
    rw [e, z.1]
    rfl
end RL

set_option linter.all false
set_option maxHeartbeats 4000000
namespace RL
open PySem R L2
variable {rx : D × D × D}
/-! ### all clashes, rising -/
theorem rangeL_lt (a b : Int) : (rangeL a b).Pairwise (· < ·) := by
  unfold rangeL
  rw [List.pairwise_map]
  exact List.pairwise_lt_range.imp fun h => by omega
def pairsL (n : Int) : List (Int × Int) := (rangeL 0 n).flatMap fun i => (rangeL (i + 1) n).map fun j => (i, j)
theorem mem_pairsL {n : Int} {p : Int × Int} : p ∈ pairsL n ↔ 0 ≤ p.1 ∧ p.1 < p.2 ∧ p.2 < n := by
  unfold pairsL
  rw [List.mem_flatMap]
  constructor
  · rintro ⟨i, hi, hp⟩
    obtain ⟨j, hj, rfl⟩ := List.mem_map.mp hp
    rw [mem_rangeL] at hi hj
    exact ⟨hi.1, by show i < j; omega, hj.2⟩
  · rintro ⟨h1, h2, h3⟩
    exact ⟨p.1, mem_rangeL.mpr ⟨h1, by omega⟩, List.mem_map.mpr ⟨p.2, mem_rangeL.mpr ⟨by omega, h3⟩, rfl⟩⟩
def ltPr (a b : Int × Int) : Prop := a.1 < b.1 ∨ (a.1 = b.1 ∧ a.2 < b.2)
theorem pairsL_lt (n : Int) : (pairsL n).Pairwise ltPr := by
  unfold pairsL
  rw [List.pairwise_flatMap]
  refine ⟨fun i _ => ?_, (rangeL_lt 0 n).imp fun {i k} h x hx y hy => ?_⟩
  · rw [List.pairwise_map]
    exact (rangeL_lt _ _).imp fun h => .inr ⟨rfl, h⟩
  · obtain ⟨_, _, rfl⟩ := List.mem_map.mp hx
    obtain ⟨_, _, rfl⟩ := List.mem_map.mp hy
    exact .inl h
def clashB (ps : List Part) (ss : List Scn) (p : Int × Int) : Bool := !isNon (whyD ps ss p.1 p.2)
def foundL (ps : List Part) (ss : List Scn) : List (Int × Int) := (rangeL 0 ps.length).flatMap fun j => ((rangeL 0 j).filter fun i => clashB ps ss (i, j)).map fun i => (i, j)
theorem mem_foundL {ps ss} {p : Int × Int} : p ∈ foundL ps ss ↔ (0 ≤ p.1 ∧ p.1 < p.2 ∧ p.2 < ps.length) ∧ clashB ps ss p = true := by
  unfold foundL
  rw [List.mem_flatMap]
  constructor
  · rintro ⟨j, hj, hp⟩
    obtain ⟨i, hi, rfl⟩ := List.mem_map.mp hp
    rw [List.mem_filter, mem_rangeL] at hi
    rw [mem_rangeL] at hj
    exact ⟨⟨hi.1.1, hi.1.2, hj.2⟩, hi.2⟩
  · rintro ⟨⟨h1, h2, h3⟩, h4⟩
    exact ⟨p.2, mem_rangeL.mpr ⟨by omega, h3⟩, List.mem_map.mpr ⟨p.1, List.mem_filter.mpr ⟨mem_rangeL.mpr ⟨h1, h2⟩, h4⟩, rfl⟩⟩
theorem foundL_nodup (ps ss) : (foundL ps ss).Nodup := by
  unfold foundL
  refine List.pairwise_flatMap.mpr ⟨fun j _ => ?_, (rangeL_lt 0 _).imp fun {i k} h x hx y hy e => ?_⟩
  · rw [List.pairwise_map]
    exact ((rangeL_lt _ _).filter _).imp fun h e => by
      have := (Prod.mk.inj e).1
      omega
  · obtain ⟨_, _, rfl⟩ := List.mem_map.mp hx
    obtain ⟨_, _, rfl⟩ := List.mem_map.mp hy
    have := (Prod.mk.inj e).2
    omega
def clashL (ps : List Part) (ss : List Scn) : List (Int × Int) := (pairsL ps.length).filter (clashB ps ss)
theorem sort_found (ps ss) : sortP (foundL ps ss) = clashL ps ss := by
  symm
  have nd : (clashL ps ss).Pairwise ltPr := (pairsL_lt _).filter _
  refine sortP_uniq ?_ (nd.imp fun {a b} h => leP_iff.mpr (by unfold ltPr at h; omega))
  refine (List.perm_ext_iff_of_nodup (nd.imp fun {a b} h e => by subst e; unfold ltPr at h; omega) (foundL_nodup ps ss)).mpr fun p => ?_
  unfold clashL
  rw [List.mem_filter, mem_pairsL, mem_foundL]
theorem len_foundL (ps ss) : (foundL ps ss).length ≤ ps.length * ps.length := by
  unfold foundL
  rw [List.length_flatMap]
  have h : ∀ x ∈ (rangeL 0 ps.length).map (fun j => (((rangeL 0 j).filter fun i => clashB ps ss (i, j)).map fun i => (i, j)).length), x ≤ ps.length := fun x hx => by
    obtain ⟨j, hj, rfl⟩ := List.mem_map.mp hx
    rw [mem_rangeL] at hj
    rw [List.length_map]
    have := List.length_filter_le (fun i => clashB ps ss (i, j)) (rangeL 0 j)
    rw [len_rangeL] at this
    omega
  have : ∀ (l : List Nat) (m : Nat), (∀ x ∈ l, x ≤ m) → l.sum ≤ l.length * m := fun l m hl => by
    induction l with
    | nil => simp
    | cons x l ih =>
      have h1 := ih fun y hy => hl y (List.mem_cons_of_mem _ hy)
      have h2 := hl x List.mem_cons_self
      rw [List.sum_cons, List.length_cons, Nat.add_mul]
      omega
  have := this _ _ h
  rw [List.length_map, len_rangeL] at this
  have e : ((ps.length : Int) - 0).toNat = ps.length := by omega
  rw [e] at this
  exact this
theorem r_clashes_of (cl) (ps : List Part) (ss : List Scn) (hp : ps.length ≤ 100) (c42 : ∀ i j : Int, 0 ≤ i → i < ps.length → 0 ≤ j → j < ps.length → cl 42 [bookG rx ps ss, .int i, .int j] = fd (whyD ps ss i j)) : R.run cl fn47 [bookG rx ps ss] = some (.ow, .lst ((clashL ps ss).map pD)) := by
  refine run_to rfl ?_
  have inner : ∀ (acc : List (Int × Int)) (j : Int) (j3 : Option (Kd × D)), 0 ≤ j → j < ps.length → acc.length ≤ 20000 → ∃ ρ, forRun (forF cl (.nm 3) [.ite (.cmp .isnt (.call 42 [.var 0, .var 3, .var 2]) (.non)) [.ms .append 1 [.tup [.var 3, .var 2]]] []]) ((rangeL 0 j).map .int) [fd (bookG rx ps ss), ow (.lst (acc.map pD)), fi j, j3] = some (.nx ρ) ∧
      ∃ j3, ρ = [fd (bookG rx ps ss), ow (.lst ((acc ++ ((rangeL 0 j).filter fun i => clashB ps ss (i, j)).map fun i => (i, j)).map pD)), fi j, j3] := by
    intro acc j j3 h0 h1 ha
    have L := forRun_J (F := forF cl (.nm 3) [.ite (.cmp .isnt (.call 42 [.var 0, .var 3, .var 2]) (.non)) [.ms .append 1 [.tup [.var 3, .var 2]]] []]) ((rangeL 0 j).map .int) (fun n ρ => ∃ j3, ρ = [fd (bookG rx ps ss), ow (.lst ((acc ++ (((rangeL 0 j).take n).filter fun i => clashB ps ss (i, j)).map fun i => (i, j)).map pD)), fi j, j3]) [fd (bookG rx ps ss), ow (.lst (acc.map pD)), fi j, j3] ⟨j3, by simp⟩ (by
      rintro n x ρ hx ⟨j3, rfl⟩
      obtain ⟨i, hi, rfl⟩ := get_map_int hx
      obtain ⟨_, i0, i1⟩ := get_range hi
      have hn := (List.getElem?_eq_some_iff.mp hi).1
      rw [len_rangeL] at hn
      have c := c42 i j i0 (by omega) h0 h1
      have tk : (rangeL 0 j).take (n + 1) = (rangeL 0 j).take n ++ [i] := by
        rw [List.take_add_one, hi]
        rfl
      have hl : (acc ++ (((rangeL 0 j).take n).filter fun i => clashB ps ss (i, j)).map fun i => (i, j)).length ≤ 1000000 := by
        rw [List.length_append, List.length_map]
        have := List.length_filter_le (fun i => clashB ps ss (i, j)) ((rangeL 0 j).take n)
        rw [List.length_take] at this
        omega
      by_cases hb : isNon (whyD ps ss i j) = true
      · have f : ((rangeL 0 j).take (n + 1)).filter (fun i => clashB ps ss (i, j)) = ((rangeL 0 j).take n).filter (fun i => clashB ps ss (i, j)) := by
          rw [tk, List.filter_append, List.filter_cons_of_neg (by simp [clashB, hb]), List.filter_nil, List.append_nil]
        simp -implicitDefEqProofs only [forF, q_var, q_int, q_bl, q_non, q_str, q_glb, q_bin, q_cmp, q_chain, q_and, q_or, q_not, q_neg, q_ifx, q_tup, q_lst, q_ix, q_slc, q_call, q_bi, q_mt, q_lc, q_dnew, q_F0, q_F, q_B0, q_B, q_I0, q_I, q_O0, q_O, s_set, s_setix, s_ms, s_frz, s_ite, s_for, s_whl, s_ret, s_retn, s_brk, s_cnt, s_pass, s_expr, ss_nil, ss_cons, seqO_nx, seqO_rt, seqO_bk, seqO_ct, finD_nx, finD_fz, finD_ow, finD_bo', rtD_fz, rtD_ow, rtD_bo, esc_fz, esc_ow, lkE_fz, lkE_ow, owE_ow, frzE_some, frzE_none, onT_kd, Option.bind_some, List.getElem?_cons_zero, List.getElem?_cons_succ, List.set_cons_zero, List.set_cons_succ, truD, setR_fz, setR_ow, setR_tp, setTg, setMany, tgS, wipeR, srcV, List.length_cons, List.length_nil, Nat.reduceAdd, Nat.reduceLT, ↓reduceIte, reduceCtorEq, intO, Bool.false_eq_true, decide_eq_true_eq, Bool.not_eq_true', decide_eq_false_iff_not, b_add, b_sub, b_mul1, b_mul2, b_mod, b_fdiv, m_rev, c_eqI, c_neI, c_eqB, c_lt, c_le, c_gt, c_ge, f_max, f_min, f_lenL, f_lenT, f_lenS, f_lenX, f_tupL, f_tupT, f_lstL, f_lstT, f_lstS, f_intB, f_intI, f_isB, k_seqL, k_seqT, k_seqS, at_0, at_1, at_2, at_3, x_lst, x_tup, Int.reduceLT, Int.reduceNeg, Int.reduceLE, List.length_map, Bool.or_self, Bool.not_true, Bool.not_false, f_isI, f_isIB, f_isBI, f_isL, f_isT, f_isS, c_is, c_isnt, isNon_non, isNon_tup, isNon_int, isNon_bl, isNon_lst, ne_eq, not_true_eq_false, not_false_eq_true, beq_self_eq_true, if_true, if_false, loopO_nx, loopO_ct, loopO_bk, loopO_rt, c_inT, c_ninT, c_inL, c_ninL, s_forq, lstO_lst, c, hb, f]
        exact ⟨_, .inl rfl, _, rfl⟩
      · have hb : isNon (whyD ps ss i j) = false := by simpa using hb
        have f : ((rangeL 0 j).take (n + 1)).filter (fun i => clashB ps ss (i, j)) = ((rangeL 0 j).take n).filter (fun i => clashB ps ss (i, j)) ++ [i] := by
          rw [tk, List.filter_append, List.filter_cons_of_pos (by simp [clashB, hb]), List.filter_nil]
        have m := m_app (xs := (acc ++ (((rangeL 0 j).take n).filter fun i => clashB ps ss (i, j)).map fun i => (i, j)).map pD) (d := pD (i, j)) (by rw [List.length_map]; exact hl)
        have m : msD .append (.lst ((acc ++ (((rangeL 0 j).take n).filter fun i => clashB ps ss (i, j)).map fun i => (i, j)).map pD)) [.tup [.int i, .int j]] = _ := m
        simp -implicitDefEqProofs only [forF, q_var, q_int, q_bl, q_non, q_str, q_glb, q_bin, q_cmp, q_chain, q_and, q_or, q_not, q_neg, q_ifx, q_tup, q_lst, q_ix, q_slc, q_call, q_bi, q_mt, q_lc, q_dnew, q_F0, q_F, q_B0, q_B, q_I0, q_I, q_O0, q_O, s_set, s_setix, s_ms, s_frz, s_ite, s_for, s_whl, s_ret, s_retn, s_brk, s_cnt, s_pass, s_expr, ss_nil, ss_cons, seqO_nx, seqO_rt, seqO_bk, seqO_ct, finD_nx, finD_fz, finD_ow, finD_bo', rtD_fz, rtD_ow, rtD_bo, esc_fz, esc_ow, lkE_fz, lkE_ow, owE_ow, frzE_some, frzE_none, onT_kd, Option.bind_some, List.getElem?_cons_zero, List.getElem?_cons_succ, List.set_cons_zero, List.set_cons_succ, truD, setR_fz, setR_ow, setR_tp, setTg, setMany, tgS, wipeR, srcV, List.length_cons, List.length_nil, Nat.reduceAdd, Nat.reduceLT, ↓reduceIte, reduceCtorEq, intO, Bool.false_eq_true, decide_eq_true_eq, Bool.not_eq_true', decide_eq_false_iff_not, b_add, b_sub, b_mul1, b_mul2, b_mod, b_fdiv, m_rev, c_eqI, c_neI, c_eqB, c_lt, c_le, c_gt, c_ge, f_max, f_min, f_lenL, f_lenT, f_lenS, f_lenX, f_tupL, f_tupT, f_lstL, f_lstT, f_lstS, f_intB, f_intI, f_isB, k_seqL, k_seqT, k_seqS, at_0, at_1, at_2, at_3, x_lst, x_tup, Int.reduceLT, Int.reduceNeg, Int.reduceLE, List.length_map, Bool.or_self, Bool.not_true, Bool.not_false, f_isI, f_isIB, f_isBI, f_isL, f_isT, f_isS, c_is, c_isnt, isNon_non, isNon_tup, isNon_int, isNon_bl, isNon_lst, ne_eq, not_true_eq_false, not_false_eq_true, beq_self_eq_true, if_true, if_false, loopO_nx, loopO_ct, loopO_bk, loopO_rt, c_inT, c_ninT, c_inL, c_ninL, s_forq, lstO_lst, c, hb, m]
        refine ⟨_, .inl rfl, fi i, ?_⟩
        rw [f]
        simp [List.map_append])
    obtain ⟨ρ, e, j3, rfl⟩ := L
    refine ⟨_, e, j3, ?_⟩
    rw [List.take_of_length_le (by rw [List.length_map]; exact Nat.le_refl _)]
  have outer := forRun_J (F := forF cl (.nm 2) [.for_ (.nm 3) .rng [.var 2] [.ite (.cmp .isnt (.call 42 [.var 0, .var 3, .var 2]) (.non)) [.ms .append 1 [.tup [.var 3, .var 2]]] []]]) ((rangeL 0 ps.length).map .int) (fun n ρ => ∃ j2 j3, ρ = [fd (bookG rx ps ss), ow (.lst ((((rangeL 0 ps.length).take n).flatMap fun j => ((rangeL 0 j).filter fun i => clashB ps ss (i, j)).map fun i => (i, j)).map pD)), j2, j3] ∧
      (((rangeL 0 ps.length).take n).flatMap fun j => ((rangeL 0 j).filter fun i => clashB ps ss (i, j)).map fun i => (i, j)).length ≤ 100 * n) [fd (bookG rx ps ss), ow (.lst []), none, none] ⟨_, _, rfl, Nat.zero_le _⟩ (by
    rintro n x ρ hx ⟨j2, j3, rfl, hl⟩
    obtain ⟨j, hj, rfl⟩ := get_map_int hx
    obtain ⟨_, j0, j1⟩ := get_range hj
    have hn := (List.getElem?_eq_some_iff.mp hj).1
    rw [len_rangeL] at hn
    have tk : (rangeL 0 ps.length).take (n + 1) = (rangeL 0 ps.length).take n ++ [j] := by
      rw [List.take_add_one, hj]
      rfl
    obtain ⟨ρ, e, k3, rfl⟩ := inner (((rangeL 0 ps.length).take n).flatMap fun j => ((rangeL 0 j).filter fun i => clashB ps ss (i, j)).map fun i => (i, j)) j j3 j0 j1 (by omega)
    simp -implicitDefEqProofs only [forF, q_var, q_int, q_bl, q_non, q_str, q_glb, q_bin, q_cmp, q_chain, q_and, q_or, q_not, q_neg, q_ifx, q_tup, q_lst, q_ix, q_slc, q_call, q_bi, q_mt, q_lc, q_dnew, q_F0, q_F, q_B0, q_B, q_I0, q_I, q_O0, q_O, s_set, s_setix, s_ms, s_frz, s_ite, s_for, s_whl, s_ret, s_retn, s_brk, s_cnt, s_pass, s_expr, ss_nil, ss_cons, seqO_nx, seqO_rt, seqO_bk, seqO_ct, finD_nx, finD_fz, finD_ow, finD_bo', rtD_fz, rtD_ow, rtD_bo, esc_fz, esc_ow, lkE_fz, lkE_ow, owE_ow, frzE_some, frzE_none, onT_kd, Option.bind_some, List.getElem?_cons_zero, List.getElem?_cons_succ, List.set_cons_zero, List.set_cons_succ, truD, setR_fz, setR_ow, setR_tp, setTg, setMany, tgS, wipeR, srcV, List.length_cons, List.length_nil, Nat.reduceAdd, Nat.reduceLT, ↓reduceIte, reduceCtorEq, intO, Bool.false_eq_true, decide_eq_true_eq, Bool.not_eq_true', decide_eq_false_iff_not, b_add, b_sub, b_mul1, b_mul2, b_mod, b_fdiv, m_rev, c_eqI, c_neI, c_eqB, c_lt, c_le, c_gt, c_ge, f_max, f_min, f_lenL, f_lenT, f_lenS, f_lenX, f_tupL, f_tupT, f_lstL, f_lstT, f_lstS, f_intB, f_intI, f_isB, k_seqL, k_seqT, k_seqS, at_0, at_1, at_2, at_3, x_lst, x_tup, Int.reduceLT, Int.reduceNeg, Int.reduceLE, List.length_map, Bool.or_self, Bool.not_true, Bool.not_false, f_isI, f_isIB, f_isBI, f_isL, f_isT, f_isS, c_is, c_isnt, isNon_non, isNon_tup, isNon_int, isNon_bl, isNon_lst, ne_eq, not_true_eq_false, not_false_eq_true, beq_self_eq_true, if_true, if_false, loopO_nx, loopO_ct, loopO_bk, loopO_rt, c_inT, c_ninT, c_inL, c_ninL, s_forq, lstO_lst, k_rng1 (show -100000 ≤ j by omega) (by omega), e]
    refine ⟨_, .inl rfl, _, _, by rw [tk, List.flatMap_append, List.flatMap_cons, List.flatMap_nil, List.append_nil], ?_⟩
    rw [tk, List.flatMap_append, List.flatMap_cons, List.flatMap_nil, List.append_nil, List.length_append, List.length_map]
    have := List.length_filter_le (fun i => clashB ps ss (i, j)) (rangeL 0 j)
    rw [len_rangeL] at this
    omega)
  obtain ⟨ρ, e, j2, j3, rfl, _⟩ := outer
  rw [List.take_of_length_le (by rw [List.length_map]; exact Nat.le_refl _)] at e
  have e2 : (rangeL 0 ps.length).flatMap (fun j => ((rangeL 0 j).filter fun i => clashB ps ss (i, j)).map fun i => (i, j)) = foundL ps ss := rfl
  rw [e2] at e
  have so : biD .sorted [.lst ((foundL ps ss).map pD)] = some (.ow, .lst ((clashL ps ss).map pD)) := by
    rw [← sort_found]
    cases h : foundL ps ss with
    | nil => rfl
    | cons p r =>
      have e3 : intsD ((p :: r).map pD) = none := rfl
      have e4 : ∀ l : List (Int × Int), pairsD (l.map pD) = some l := fun l => by
        induction l with
        | nil => rfl
        | cons q l ih =>
          rw [List.map_cons, pD, pairsD, ih]
          rfl
      simp only [biD, e3, e4]
      rfl
  show finD (evSs cl b47 [fd (bookG rx ps ss), none, none, none]) = _
  unfold bookG at e ⊢
  simp -implicitDefEqProofs only [b47, q_var, q_int, q_bl, q_non, q_str, q_glb, q_bin, q_cmp, q_chain, q_and, q_or, q_not, q_neg, q_ifx, q_tup, q_lst, q_ix, q_slc, q_call, q_bi, q_mt, q_lc, q_dnew, q_F0, q_F, q_B0, q_B, q_I0, q_I, q_O0, q_O, s_set, s_setix, s_ms, s_frz, s_ite, s_for, s_whl, s_ret, s_retn, s_brk, s_cnt, s_pass, s_expr, ss_nil, ss_cons, seqO_nx, seqO_rt, seqO_bk, seqO_ct, finD_nx, finD_fz, finD_ow, finD_bo', rtD_fz, rtD_ow, rtD_bo, esc_fz, esc_ow, lkE_fz, lkE_ow, owE_ow, frzE_some, frzE_none, onT_kd, Option.bind_some, List.getElem?_cons_zero, List.getElem?_cons_succ, List.set_cons_zero, List.set_cons_succ, truD, setR_fz, setR_ow, setR_tp, setTg, setMany, tgS, wipeR, srcV, List.length_cons, List.length_nil, Nat.reduceAdd, Nat.reduceLT, ↓reduceIte, reduceCtorEq, intO, Bool.false_eq_true, decide_eq_true_eq, Bool.not_eq_true', decide_eq_false_iff_not, b_add, b_sub, b_mul1, b_mul2, b_mod, b_fdiv, m_rev, c_eqI, c_neI, c_eqB, c_lt, c_le, c_gt, c_ge, f_max, f_min, f_lenL, f_lenT, f_lenS, f_lenX, f_tupL, f_tupT, f_lstL, f_lstT, f_lstS, f_intB, f_intI, f_isB, k_seqL, k_seqT, k_seqS, at_0, at_1, at_2, at_3, x_lst, x_tup, Int.reduceLT, Int.reduceNeg, Int.reduceLE, List.length_map, Bool.or_self, Bool.not_true, Bool.not_false, f_isI, f_isIB, f_isBI, f_isL, f_isT, f_isS, c_is, c_isnt, isNon_non, isNon_tup, isNon_int, isNon_bl, isNon_lst, ne_eq, not_true_eq_false, not_false_eq_true, beq_self_eq_true, if_true, if_false, loopO_nx, loopO_ct, loopO_bk, loopO_rt, c_inT, c_ninT, c_inL, c_ninL, s_forq, lstO_lst, k_rng1 (show -100000 ≤ (ps.length : Int) by omega) (by omega), e, so]
end RL

set_option linter.all false
set_option maxHeartbeats 4000000
namespace RL
open PySem R L2
/-! ### drawn clashes -/
theorem r_allPairs (cl) (many : Int) (h0 : 0 ≤ many) (h1 : many ≤ 8) : R.run cl fn49 [.int many] = fd (.lst ((pairsL many).map pD)) := by
  have L := forRun_J (F := forF cl (.nm 2) [.set (.nm 1) (.bin .add (.var 1) (.lc (.tup [.var 2, .var 3]) (.nm 3) .rng [.bin .add (.var 2) (.int 1), .var 0] [])),
    .frz 1]) ((rangeL 0 many).map .int) (fun n ρ => ∃ j k, ρ = [fi many, fd (.lst ((((rangeL 0 many).take n).flatMap fun i => (rangeL (i + 1) many).map fun j => (i, j)).map pD)), j, k] ∧ (((rangeL 0 many).take n).flatMap fun i => (rangeL (i + 1) many).map fun j => (i, j)).length ≤ 8 * n) [fi many, fd (.lst []), none, none] ⟨_, _, rfl, Nat.zero_le _⟩ (by
    rintro i x ρ hx ⟨j, k, rfl, hl⟩
    obtain ⟨n, hn, rfl⟩ := get_map_int hx
    obtain ⟨en, n0, n1⟩ := get_range hn
    have hi := (List.getElem?_eq_some_iff.mp hn).1
    rw [len_rangeL] at hi
    have tk : (rangeL 0 many).take (i + 1) = (rangeL 0 many).take i ++ [n] := by
      rw [List.take_add_one, hn]
      rfl
    generalize hA : ((rangeL 0 many).take i).flatMap (fun i => (rangeL (i + 1) many).map fun j => (i, j)) = A at hl
    have M := lcRun_map D.int (F := lcF cl [fi many, fd (.lst (A.map pD)), fi n, k] (.tup [.var 2, .var 3]) (.nm 3) []) (fun m => pD (n, m)) (rangeL (n + 1) many) (by
      intro m _
      simp -implicitDefEqProofs only [lcF, q_var, q_int, q_bl, q_non, q_str, q_glb, q_bin, q_cmp, q_chain, q_and, q_or, q_not, q_neg, q_ifx, q_tup, q_lst, q_ix, q_slc, q_call, q_bi, q_mt, q_lc, q_dnew, q_F0, q_F, q_B0, q_B, q_I0, q_I, q_O0, q_O, s_set, s_setix, s_ms, s_frz, s_ite, s_for, s_whl, s_ret, s_retn, s_brk, s_cnt, s_pass, s_expr, ss_nil, ss_cons, seqO_nx, seqO_rt, seqO_bk, seqO_ct, finD_nx, finD_fz, finD_ow, finD_bo', rtD_fz, rtD_ow, rtD_bo, esc_fz, esc_ow, lkE_fz, lkE_ow, owE_ow, frzE_some, frzE_none, onT_kd, Option.bind_some, List.getElem?_cons_zero, List.getElem?_cons_succ, List.set_cons_zero, List.set_cons_succ, truD, setR_fz, setR_ow, setR_tp, setTg, setMany, tgS, wipeR, srcV, List.length_cons, List.length_nil, Nat.reduceAdd, Nat.reduceLT, ↓reduceIte, reduceCtorEq, intO, Bool.false_eq_true, decide_eq_true_eq, Bool.not_eq_true', decide_eq_false_iff_not, b_add, b_sub, b_mul1, b_mul2, b_mod, b_fdiv, m_rev, c_eqI, c_neI, c_eqB, c_lt, c_le, c_gt, c_ge, f_max, f_min, f_lenL, f_lenT, f_lenS, f_lenX, f_tupL, f_tupT, f_lstL, f_lstT, f_lstS, f_intB, f_intI, f_isB, k_seqL, k_seqT, k_seqS, at_0, at_1, at_2, at_3, x_lst, x_tup, Int.reduceLT, Int.reduceNeg, Int.reduceLE, List.length_map, Bool.or_self, Bool.not_true, Bool.not_false, f_isI, f_isIB, f_isBI, f_isL, f_isT, f_isS, c_is, c_isnt, isNon_non, isNon_tup, isNon_int, isNon_bl, isNon_lst, ne_eq, not_true_eq_false, not_false_eq_true, beq_self_eq_true, if_true, if_false, loopO_nx, loopO_ct, loopO_bk, loopO_rt, c_inT, c_ninT, c_inL, c_ninL, s_forq, lstO_lst]
      rfl)
    have hlen : (rangeL (n + 1) many).length ≤ 8 := by rw [len_rangeL]; omega
    have e : (rangeL (n + 1) many).map (fun m => pD (n, m)) = ((rangeL (n + 1) many).map (fun m => (n, m))).map pD := by rw [List.map_map]; rfl
    have hc : binD .add (.lst (A.map pD)) (.lst ((rangeL (n + 1) many).map (fun m => pD (n, m)))) = some (.ow, .lst ((A ++ (rangeL (n + 1) many).map (fun m => (n, m))).map pD)) := by
      rw [b_cat (by rw [List.length_map, List.length_map]; omega), List.map_append, e]
    simp -implicitDefEqProofs only [forF, q_var, q_int, q_bl, q_non, q_str, q_glb, q_bin, q_cmp, q_chain, q_and, q_or, q_not, q_neg, q_ifx, q_tup, q_lst, q_ix, q_slc, q_call, q_bi, q_mt, q_lc, q_dnew, q_F0, q_F, q_B0, q_B, q_I0, q_I, q_O0, q_O, s_set, s_setix, s_ms, s_frz, s_ite, s_for, s_whl, s_ret, s_retn, s_brk, s_cnt, s_pass, s_expr, ss_nil, ss_cons, seqO_nx, seqO_rt, seqO_bk, seqO_ct, finD_nx, finD_fz, finD_ow, finD_bo', rtD_fz, rtD_ow, rtD_bo, esc_fz, esc_ow, lkE_fz, lkE_ow, owE_ow, frzE_some, frzE_none, onT_kd, Option.bind_some, List.getElem?_cons_zero, List.getElem?_cons_succ, List.set_cons_zero, List.set_cons_succ, truD, setR_fz, setR_ow, setR_tp, setTg, setMany, tgS, wipeR, srcV, List.length_cons, List.length_nil, Nat.reduceAdd, Nat.reduceLT, ↓reduceIte, reduceCtorEq, intO, Bool.false_eq_true, decide_eq_true_eq, Bool.not_eq_true', decide_eq_false_iff_not, b_add, b_sub, b_mul1, b_mul2, b_mod, b_fdiv, m_rev, c_eqI, c_neI, c_eqB, c_lt, c_le, c_gt, c_ge, f_max, f_min, f_lenL, f_lenT, f_lenS, f_lenX, f_tupL, f_tupT, f_lstL, f_lstT, f_lstS, f_intB, f_intI, f_isB, k_seqL, k_seqT, k_seqS, at_0, at_1, at_2, at_3, x_lst, x_tup, Int.reduceLT, Int.reduceNeg, Int.reduceLE, List.length_map, Bool.or_self, Bool.not_true, Bool.not_false, f_isI, f_isIB, f_isBI, f_isL, f_isT, f_isS, c_is, c_isnt, isNon_non, isNon_tup, isNon_int, isNon_bl, isNon_lst, ne_eq, not_true_eq_false, not_false_eq_true, beq_self_eq_true, if_true, if_false, loopO_nx, loopO_ct, loopO_bk, loopO_rt, c_inT, c_ninT, c_inL, c_ninL, s_forq, lstO_lst, k_rng2 (show -100000 ≤ n + 1 by omega) (by omega) (show -100000 ≤ many by omega) (by omega), M, hc]
    refine ⟨_, .inl rfl, _, _, by rw [tk, List.flatMap_append, List.flatMap_cons, List.flatMap_nil, List.append_nil, hA], ?_⟩
    rw [tk, List.flatMap_append, List.flatMap_cons, List.flatMap_nil, List.append_nil, hA, List.length_append, List.length_map]
    omega)
  obtain ⟨ρ, e, j, k, rfl, _⟩ := L
  rw [List.take_of_length_le (by rw [List.length_map]; exact Nat.le_refl _)] at e
  refine run_to rfl ?_
  show finD (evSs cl b49 [fi many, none, none, none]) = _
  simp -implicitDefEqProofs only [b49, q_var, q_int, q_bl, q_non, q_str, q_glb, q_bin, q_cmp, q_chain, q_and, q_or, q_not, q_neg, q_ifx, q_tup, q_lst, q_ix, q_slc, q_call, q_bi, q_mt, q_lc, q_dnew, q_F0, q_F, q_B0, q_B, q_I0, q_I, q_O0, q_O, s_set, s_setix, s_ms, s_frz, s_ite, s_for, s_whl, s_ret, s_retn, s_brk, s_cnt, s_pass, s_expr, ss_nil, ss_cons, seqO_nx, seqO_rt, seqO_bk, seqO_ct, finD_nx, finD_fz, finD_ow, finD_bo', rtD_fz, rtD_ow, rtD_bo, esc_fz, esc_ow, lkE_fz, lkE_ow, owE_ow, frzE_some, frzE_none, onT_kd, Option.bind_some, List.getElem?_cons_zero, List.getElem?_cons_succ, List.set_cons_zero, List.set_cons_succ, truD, setR_fz, setR_ow, setR_tp, setTg, setMany, tgS, wipeR, srcV, List.length_cons, List.length_nil, Nat.reduceAdd, Nat.reduceLT, ↓reduceIte, reduceCtorEq, intO, Bool.false_eq_true, decide_eq_true_eq, Bool.not_eq_true', decide_eq_false_iff_not, b_add, b_sub, b_mul1, b_mul2, b_mod, b_fdiv, m_rev, c_eqI, c_neI, c_eqB, c_lt, c_le, c_gt, c_ge, f_max, f_min, f_lenL, f_lenT, f_lenS, f_lenX, f_tupL, f_tupT, f_lstL, f_lstT, f_lstS, f_intB, f_intI, f_isB, k_seqL, k_seqT, k_seqS, at_0, at_1, at_2, at_3, x_lst, x_tup, Int.reduceLT, Int.reduceNeg, Int.reduceLE, List.length_map, Bool.or_self, Bool.not_true, Bool.not_false, f_isI, f_isIB, f_isBI, f_isL, f_isT, f_isS, c_is, c_isnt, isNon_non, isNon_tup, isNon_int, isNon_bl, isNon_lst, ne_eq, not_true_eq_false, not_false_eq_true, beq_self_eq_true, if_true, if_false, loopO_nx, loopO_ct, loopO_bk, loopO_rt, c_inT, c_ninT, c_inL, c_ninL, s_forq, lstO_lst, k_rng1 (show -100000 ≤ many by omega) (by omega), e]
  rfl
theorem len_flat {α β : Type} {f : α → List β} {k : Nat} : ∀ {l : List α}, (∀ a ∈ l, (f a).length ≤ k) → (l.flatMap f).length ≤ k * l.length
  | [], _ => Nat.zero_le _
  | a :: l, h => by
    have ih := len_flat (l := l) fun b m => h b (List.mem_cons_of_mem _ m)
    have h1 := h a List.mem_cons_self
    rw [List.flatMap_cons, List.length_append, List.length_cons, Nat.mul_succ]
    omega
theorem len_pairsL {many : Int} (h1 : many ≤ 8) : (pairsL many).length ≤ 64 := by
  unfold pairsL
  refine Nat.le_trans (len_flat (k := 8) fun a m => ?_) ?_
  · rw [List.length_map, len_rangeL]
    rw [mem_rangeL] at m
    omega
  · rw [len_rangeL]
    omega
/-- pairs of unlike parts -/
def CGood (many : Int) (C : List (Int × Int)) : Prop := ∀ q ∈ C, 0 ≤ q.1 ∧ q.1 < q.2 ∧ q.2 < many
theorem r_lclash (cl) (many share : Int) (cs : List Int) (hc : cs.length ≤ 63) (h0 : 0 ≤ many) (h1 : many ≤ 8) (c49 : cl 49 [.int many] = fd (.lst ((pairsL many).map pD))) (c35 : ∀ c k, -100000 ≤ k → k ≤ 100000 → cl 35 [.int c, .int k] = fi (mix c k)) :
    ∃ C, R.run cl fn67 [.lst (cs.map .int), .int many, .int share] = some (.ow, .lst (C.map pD)) ∧ CGood many C ∧ C.length ≤ 64 := by
  have hl := len_pairsL h1
  have hp : ∀ q ∈ pairsL many, 0 ≤ q.1 ∧ q.1 < q.2 ∧ q.2 < many := fun q m => mem_pairsL.mp m
  generalize pairsL many = ps at hl hp c49
  have L := forRun_J (F := forF cl (.nm 5) [.set (.nm 6) (.call 35 [.ix (.bin .add (.var 0) (.lst [.bin .mul (.int 3) (.var 5)])) (.bi .min [.var 5, .bi .len [.var 0]]), .var 5]),
    .frz 6,
    .ite (.cmp .lt (.bin .mod (.var 6) (.int 12)) (.var 2)) [.ms .append 4 [.ix (.var 3) (.var 5)]] []]) ((rangeL 0 ps.length).map .int) (fun i ρ => ∃ C j k, ρ = [fd (.lst (cs.map .int)), fi many, fi share, fd (.lst (ps.map pD)), ow (.lst (C.map pD)), j, k] ∧ CGood many C ∧ C.length ≤ i) [fd (.lst (cs.map .int)), fi many, fi share, fd (.lst (ps.map pD)), ow (.lst []), none, none] ⟨[], none, none, rfl, (fun p m => nomatch m), Nat.zero_le _⟩ (by
    rintro i x ρ hx ⟨C, j, k, rfl, hg, hq⟩
    obtain ⟨n, hn, rfl⟩ := get_map_int hx
    obtain ⟨en, n0, n1⟩ := get_range hn
    have e1 : binD .add (.lst (cs.map D.int)) (.lst [D.int (3 * n)]) = some (.ow, .lst ((cs ++ [3 * n]).map D.int)) := by
      rw [b_cat (by rw [List.length_map]; simp only [List.length_cons, List.length_nil]; omega), List.map_append]
      rfl
    have hm : ∃ z, atI ((cs ++ [3 * n]).map D.int) (mn n (cs.length : Int)) = some (.int z) := by
      unfold mn
      refine ⟨_, ix_il ?_ ?_⟩
      · split <;> omega
      · rw [List.length_append]
        simp only [List.length_cons, List.length_nil]
        split <;> omega
    obtain ⟨z, hz⟩ := hm
    have hn2 : n.toNat < ps.length := by omega
    have hpx : atI (ps.map pD) n = some (pD ps[n.toNat]) := by
      rw [atI_map, atI_in n0 n1, List.getElem?_eq_getElem hn2]
      rfl
    simp -implicitDefEqProofs only [forF, q_var, q_int, q_bl, q_non, q_str, q_glb, q_bin, q_cmp, q_chain, q_and, q_or, q_not, q_neg, q_ifx, q_tup, q_lst, q_ix, q_slc, q_call, q_bi, q_mt, q_lc, q_dnew, q_F0, q_F, q_B0, q_B, q_I0, q_I, q_O0, q_O, s_set, s_setix, s_ms, s_frz, s_ite, s_for, s_whl, s_ret, s_retn, s_brk, s_cnt, s_pass, s_expr, ss_nil, ss_cons, seqO_nx, seqO_rt, seqO_bk, seqO_ct, finD_nx, finD_fz, finD_ow, finD_bo', rtD_fz, rtD_ow, rtD_bo, esc_fz, esc_ow, lkE_fz, lkE_ow, owE_ow, frzE_some, frzE_none, onT_kd, Option.bind_some, List.getElem?_cons_zero, List.getElem?_cons_succ, List.set_cons_zero, List.set_cons_succ, truD, setR_fz, setR_ow, setR_tp, setTg, setMany, tgS, wipeR, srcV, List.length_cons, List.length_nil, Nat.reduceAdd, Nat.reduceLT, ↓reduceIte, reduceCtorEq, intO, Bool.false_eq_true, decide_eq_true_eq, Bool.not_eq_true', decide_eq_false_iff_not, b_add, b_sub, b_mul1, b_mul2, b_mod, b_fdiv, m_rev, c_eqI, c_neI, c_eqB, c_lt, c_le, c_gt, c_ge, f_max, f_min, f_lenL, f_lenT, f_lenS, f_lenX, f_tupL, f_tupT, f_lstL, f_lstT, f_lstS, f_intB, f_intI, f_isB, k_seqL, k_seqT, k_seqS, at_0, at_1, at_2, at_3, x_lst, x_tup, Int.reduceLT, Int.reduceNeg, Int.reduceLE, List.length_map, Bool.or_self, Bool.not_true, Bool.not_false, f_isI, f_isIB, f_isBI, f_isL, f_isT, f_isS, c_is, c_isnt, isNon_non, isNon_tup, isNon_int, isNon_bl, isNon_lst, ne_eq, not_true_eq_false, not_false_eq_true, beq_self_eq_true, if_true, if_false, loopO_nx, loopO_ct, loopO_bk, loopO_rt, c_inT, c_ninT, c_inL, c_ninL, s_forq, lstO_lst, e1, hz, c35 z n (by omega) (by omega)]
    by_cases hb : mix z n % 12 < share
    · have hs2 : (C.map pD).length ≤ 1000000 := by
        rw [List.length_map]
        omega
      simp -implicitDefEqProofs only [if_pos hb, q_var, q_int, q_bl, q_non, q_str, q_glb, q_bin, q_cmp, q_chain, q_and, q_or, q_not, q_neg, q_ifx, q_tup, q_lst, q_ix, q_slc, q_call, q_bi, q_mt, q_lc, q_dnew, q_F0, q_F, q_B0, q_B, q_I0, q_I, q_O0, q_O, s_set, s_setix, s_ms, s_frz, s_ite, s_for, s_whl, s_ret, s_retn, s_brk, s_cnt, s_pass, s_expr, ss_nil, ss_cons, seqO_nx, seqO_rt, seqO_bk, seqO_ct, finD_nx, finD_fz, finD_ow, finD_bo', rtD_fz, rtD_ow, rtD_bo, esc_fz, esc_ow, lkE_fz, lkE_ow, owE_ow, frzE_some, frzE_none, onT_kd, Option.bind_some, List.getElem?_cons_zero, List.getElem?_cons_succ, List.set_cons_zero, List.set_cons_succ, truD, setR_fz, setR_ow, setR_tp, setTg, setMany, tgS, wipeR, srcV, List.length_cons, List.length_nil, Nat.reduceAdd, Nat.reduceLT, ↓reduceIte, reduceCtorEq, intO, Bool.false_eq_true, decide_eq_true_eq, Bool.not_eq_true', decide_eq_false_iff_not, b_add, b_sub, b_mul1, b_mul2, b_mod, b_fdiv, m_rev, c_eqI, c_neI, c_eqB, c_lt, c_le, c_gt, c_ge, f_max, f_min, f_lenL, f_lenT, f_lenS, f_lenX, f_tupL, f_tupT, f_lstL, f_lstT, f_lstS, f_intB, f_intI, f_isB, k_seqL, k_seqT, k_seqS, at_0, at_1, at_2, at_3, x_lst, x_tup, Int.reduceLT, Int.reduceNeg, Int.reduceLE, List.length_map, Bool.or_self, Bool.not_true, Bool.not_false, f_isI, f_isIB, f_isBI, f_isL, f_isT, f_isS, c_is, c_isnt, isNon_non, isNon_tup, isNon_int, isNon_bl, isNon_lst, ne_eq, not_true_eq_false, not_false_eq_true, beq_self_eq_true, if_true, if_false, loopO_nx, loopO_ct, loopO_bk, loopO_rt, c_inT, c_ninT, c_inL, c_ninL, s_forq, lstO_lst, hpx, m_app hs2]
      refine ⟨_, .inl rfl, C ++ [ps[n.toNat]], _, _, by rw [List.map_append]; rfl, ?_, ?_⟩
      · intro p m
        rw [List.mem_append] at m
        rcases m with m | m
        · exact hg p m
        · rw [List.mem_singleton] at m
          subst m
          exact hp _ (List.getElem_mem hn2)
      · rw [List.length_append]
        simp only [List.length_cons, List.length_nil]
        omega
    · simp -implicitDefEqProofs only [if_neg hb, q_var, q_int, q_bl, q_non, q_str, q_glb, q_bin, q_cmp, q_chain, q_and, q_or, q_not, q_neg, q_ifx, q_tup, q_lst, q_ix, q_slc, q_call, q_bi, q_mt, q_lc, q_dnew, q_F0, q_F, q_B0, q_B, q_I0, q_I, q_O0, q_O, s_set, s_setix, s_ms, s_frz, s_ite, s_for, s_whl, s_ret, s_retn, s_brk, s_cnt, s_pass, s_expr, ss_nil, ss_cons, seqO_nx, seqO_rt, seqO_bk, seqO_ct, finD_nx, finD_fz, finD_ow, finD_bo', rtD_fz, rtD_ow, rtD_bo, esc_fz, esc_ow, lkE_fz, lkE_ow, owE_ow, frzE_some, frzE_none, onT_kd, Option.bind_some, List.getElem?_cons_zero, List.getElem?_cons_succ, List.set_cons_zero, List.set_cons_succ, truD, setR_fz, setR_ow, setR_tp, setTg, setMany, tgS, wipeR, srcV, List.length_cons, List.length_nil, Nat.reduceAdd, Nat.reduceLT, ↓reduceIte, reduceCtorEq, intO, Bool.false_eq_true, decide_eq_true_eq, Bool.not_eq_true', decide_eq_false_iff_not, b_add, b_sub, b_mul1, b_mul2, b_mod, b_fdiv, m_rev, c_eqI, c_neI, c_eqB, c_lt, c_le, c_gt, c_ge, f_max, f_min, f_lenL, f_lenT, f_lenS, f_lenX, f_tupL, f_tupT, f_lstL, f_lstT, f_lstS, f_intB, f_intI, f_isB, k_seqL, k_seqT, k_seqS, at_0, at_1, at_2, at_3, x_lst, x_tup, Int.reduceLT, Int.reduceNeg, Int.reduceLE, List.length_map, Bool.or_self, Bool.not_true, Bool.not_false, f_isI, f_isIB, f_isBI, f_isL, f_isT, f_isS, c_is, c_isnt, isNon_non, isNon_tup, isNon_int, isNon_bl, isNon_lst, ne_eq, not_true_eq_false, not_false_eq_true, beq_self_eq_true, if_true, if_false, loopO_nx, loopO_ct, loopO_bk, loopO_rt, c_inT, c_ninT, c_inL, c_ninL, s_forq, lstO_lst]
      exact ⟨_, .inl rfl, C, _, _, rfl, hg, by omega⟩)
  obtain ⟨ρ, e, C, j, k, rfl, hg, hq⟩ := L
  rw [List.length_map, len_rangeL] at hq
  have go : ∃ C, finD (evSs cl b67 [fd (.lst (cs.map .int)), fi many, fi share, none, none, none, none]) = some (.ow, .lst (C.map pD)) ∧ CGood many C ∧ C.length ≤ 64 := by
    simp -implicitDefEqProofs only [b67, q_var, q_int, q_bl, q_non, q_str, q_glb, q_bin, q_cmp, q_chain, q_and, q_or, q_not, q_neg, q_ifx, q_tup, q_lst, q_ix, q_slc, q_call, q_bi, q_mt, q_lc, q_dnew, q_F0, q_F, q_B0, q_B, q_I0, q_I, q_O0, q_O, s_set, s_setix, s_ms, s_frz, s_ite, s_for, s_whl, s_ret, s_retn, s_brk, s_cnt, s_pass, s_expr, ss_nil, ss_cons, seqO_nx, seqO_rt, seqO_bk, seqO_ct, finD_nx, finD_fz, finD_ow, finD_bo', rtD_fz, rtD_ow, rtD_bo, esc_fz, esc_ow, lkE_fz, lkE_ow, owE_ow, frzE_some, frzE_none, onT_kd, Option.bind_some, List.getElem?_cons_zero, List.getElem?_cons_succ, List.set_cons_zero, List.set_cons_succ, truD, setR_fz, setR_ow, setR_tp, setTg, setMany, tgS, wipeR, srcV, List.length_cons, List.length_nil, Nat.reduceAdd, Nat.reduceLT, ↓reduceIte, reduceCtorEq, intO, Bool.false_eq_true, decide_eq_true_eq, Bool.not_eq_true', decide_eq_false_iff_not, b_add, b_sub, b_mul1, b_mul2, b_mod, b_fdiv, m_rev, c_eqI, c_neI, c_eqB, c_lt, c_le, c_gt, c_ge, f_max, f_min, f_lenL, f_lenT, f_lenS, f_lenX, f_tupL, f_tupT, f_lstL, f_lstT, f_lstS, f_intB, f_intI, f_isB, k_seqL, k_seqT, k_seqS, at_0, at_1, at_2, at_3, x_lst, x_tup, Int.reduceLT, Int.reduceNeg, Int.reduceLE, List.length_map, Bool.or_self, Bool.not_true, Bool.not_false, f_isI, f_isIB, f_isBI, f_isL, f_isT, f_isS, c_is, c_isnt, isNon_non, isNon_tup, isNon_int, isNon_bl, isNon_lst, ne_eq, not_true_eq_false, not_false_eq_true, beq_self_eq_true, if_true, if_false, loopO_nx, loopO_ct, loopO_bk, loopO_rt, c_inT, c_ninT, c_inL, c_ninL, s_forq, lstO_lst, c49, k_rng1 (show -100000 ≤ (ps.length : Int) by omega) (by omega), e]
    by_cases hb : share % 2 = 1
    · simp -implicitDefEqProofs only [if_pos hb, q_var, q_int, q_bl, q_non, q_str, q_glb, q_bin, q_cmp, q_chain, q_and, q_or, q_not, q_neg, q_ifx, q_tup, q_lst, q_ix, q_slc, q_call, q_bi, q_mt, q_lc, q_dnew, q_F0, q_F, q_B0, q_B, q_I0, q_I, q_O0, q_O, s_set, s_setix, s_ms, s_frz, s_ite, s_for, s_whl, s_ret, s_retn, s_brk, s_cnt, s_pass, s_expr, ss_nil, ss_cons, seqO_nx, seqO_rt, seqO_bk, seqO_ct, finD_nx, finD_fz, finD_ow, finD_bo', rtD_fz, rtD_ow, rtD_bo, esc_fz, esc_ow, lkE_fz, lkE_ow, owE_ow, frzE_some, frzE_none, onT_kd, Option.bind_some, List.getElem?_cons_zero, List.getElem?_cons_succ, List.set_cons_zero, List.set_cons_succ, truD, setR_fz, setR_ow, setR_tp, setTg, setMany, tgS, wipeR, srcV, List.length_cons, List.length_nil, Nat.reduceAdd, Nat.reduceLT, ↓reduceIte, reduceCtorEq, intO, Bool.false_eq_true, decide_eq_true_eq, Bool.not_eq_true', decide_eq_false_iff_not, b_add, b_sub, b_mul1, b_mul2, b_mod, b_fdiv, m_rev, c_eqI, c_neI, c_eqB, c_lt, c_le, c_gt, c_ge, f_max, f_min, f_lenL, f_lenT, f_lenS, f_lenX, f_tupL, f_tupT, f_lstL, f_lstT, f_lstS, f_intB, f_intI, f_isB, k_seqL, k_seqT, k_seqS, at_0, at_1, at_2, at_3, x_lst, x_tup, Int.reduceLT, Int.reduceNeg, Int.reduceLE, List.length_map, Bool.or_self, Bool.not_true, Bool.not_false, f_isI, f_isIB, f_isBI, f_isL, f_isT, f_isS, c_is, c_isnt, isNon_non, isNon_tup, isNon_int, isNon_bl, isNon_lst, ne_eq, not_true_eq_false, not_false_eq_true, beq_self_eq_true, if_true, if_false, loopO_nx, loopO_ct, loopO_bk, loopO_rt, c_inT, c_ninT, c_inL, c_ninL, s_forq, lstO_lst]
      refine ⟨C.reverse, by rw [List.map_reverse], fun p m => hg p (List.mem_reverse.mp m), by rw [List.length_reverse]; omega⟩
    · simp -implicitDefEqProofs only [if_neg hb, q_var, q_int, q_bl, q_non, q_str, q_glb, q_bin, q_cmp, q_chain, q_and, q_or, q_not, q_neg, q_ifx, q_tup, q_lst, q_ix, q_slc, q_call, q_bi, q_mt, q_lc, q_dnew, q_F0, q_F, q_B0, q_B, q_I0, q_I, q_O0, q_O, s_set, s_setix, s_ms, s_frz, s_ite, s_for, s_whl, s_ret, s_retn, s_brk, s_cnt, s_pass, s_expr, ss_nil, ss_cons, seqO_nx, seqO_rt, seqO_bk, seqO_ct, finD_nx, finD_fz, finD_ow, finD_bo', rtD_fz, rtD_ow, rtD_bo, esc_fz, esc_ow, lkE_fz, lkE_ow, owE_ow, frzE_some, frzE_none, onT_kd, Option.bind_some, List.getElem?_cons_zero, List.getElem?_cons_succ, List.set_cons_zero, List.set_cons_succ, truD, setR_fz, setR_ow, setR_tp, setTg, setMany, tgS, wipeR, srcV, List.length_cons, List.length_nil, Nat.reduceAdd, Nat.reduceLT, ↓reduceIte, reduceCtorEq, intO, Bool.false_eq_true, decide_eq_true_eq, Bool.not_eq_true', decide_eq_false_iff_not, b_add, b_sub, b_mul1, b_mul2, b_mod, b_fdiv, m_rev, c_eqI, c_neI, c_eqB, c_lt, c_le, c_gt, c_ge, f_max, f_min, f_lenL, f_lenT, f_lenS, f_lenX, f_tupL, f_tupT, f_lstL, f_lstT, f_lstS, f_intB, f_intI, f_isB, k_seqL, k_seqT, k_seqS, at_0, at_1, at_2, at_3, x_lst, x_tup, Int.reduceLT, Int.reduceNeg, Int.reduceLE, List.length_map, Bool.or_self, Bool.not_true, Bool.not_false, f_isI, f_isIB, f_isBI, f_isL, f_isT, f_isS, c_is, c_isnt, isNon_non, isNon_tup, isNon_int, isNon_bl, isNon_lst, ne_eq, not_true_eq_false, not_false_eq_true, beq_self_eq_true, if_true, if_false, loopO_nx, loopO_ct, loopO_bk, loopO_rt, c_inT, c_ninT, c_inL, c_ninL, s_forq, lstO_lst]
      exact ⟨C, rfl, hg, by omega⟩
  obtain ⟨C, g1, g2⟩ := go
  exact ⟨C, run_to rfl g1, g2⟩
end RL

set_option linter.all false
set_option maxHeartbeats 4000000
namespace RL
open PySem R L2
/-! ### fewest groups -/
def kpr (a b : Int) : List Key := [Sum.inl a, Sum.inl b]
def adjB (C : List (Int × Int)) (a b : Int) : Bool := decide ((a, b) ∈ C) || decide ((b, a) ∈ C)
theorem adjB_comm (C) (a b : Int) : adjB C a b = adjB C b a := by unfold adjB; rw [Bool.or_comm]
theorem hasK {κ : Type} [DecidableEq κ] (ks : List κ) (q r : κ) : has (putk ks q) r = (has ks r || decide (q = r)) := by
  unfold putk
  by_cases h : has ks q = true
  · rw [if_pos h]
    by_cases e : q = r
    · subst e
      rw [h]
      rfl
    · rw [decide_eq_false e, Bool.or_false]
  · rw [if_neg h]
    unfold has
    rw [List.any_append]
    simp
theorem lenK {κ : Type} [DecidableEq κ] (ks : List κ) (q : κ) : (putk ks q).length ≤ ks.length + 1 := by
  unfold putk
  split
  · omega
  · rw [List.length_append]
    exact Nat.le_refl _
theorem kpr_eq (a b c d : Int) : decide (kpr a b = kpr c d) = (decide (a = c) && decide (b = d)) := by
  unfold kpr
  by_cases h1 : a = c <;> by_cases h2 : b = d <;> simp [h1, h2]
/-- pairs, as a dict -/
def PrD (d : D) (A : Int → Int → Bool) : Prop := ∃ ks vs, d = .dt ks vs ∧ ∀ a b, has ks (kpr a b) = A a b
theorem r_pairsOf (cl) (C : List (Int × Int)) (hz : C.length ≤ 1000) : ∃ d, R.run cl fn70 [.lst (C.map pD)] = some (.ow, d) ∧ PrD d (adjB C) := by
  have L := forRun_J (F := forF cl (.tp [2, 3]) [.setix 1 (.tup [.var 2, .var 3]) (.bl true),
    .setix 1 (.tup [.var 3, .var 2]) (.bl true)]) (C.map pD)
    (fun n ρ => ∃ (ks : List (List Key)) (vs : List D) (j2 j3 : Option (Kd × D)), ρ = [fd (.lst (C.map pD)), ow (.dt ks vs), j2, j3] ∧ ks.length ≤ 2 * n ∧ ∀ a b, has ks (kpr a b) = adjB (C.take n) a b)
    [fd (.lst (C.map pD)), ow (.dt [] []), none, none] ⟨[], [], _, _, rfl, Nat.zero_le _, fun a b => rfl⟩ (by
    rintro n x ρ hx ⟨ks, vs, j2, j3, rfl, hl, hh⟩
    obtain ⟨⟨i, j⟩, hq, rfl⟩ := get_map hx
    have hn := (List.getElem?_eq_some_iff.mp hq).1
    have tk : C.take (n + 1) = C.take n ++ [(i, j)] := by
      rw [List.take_add_one, hq]
      rfl
    have l1 := lenK ks (kpr i j)
    have l2 := lenK (putk ks (kpr i j)) (kpr j i)
    have s1 : setD (.dt ks vs) (.tup [.int i, .int j]) (.bl true) = some (.dt (putk ks (kpr i j)) (put ks vs (kpr i j) (.bl true))) := by
      simp only [setD, keysOf, keyOf, if_pos (lt_lineR (show ks.length ≤ 1000000 by omega)), Option.map_some]
      rfl
    have s2 : setD (.dt (putk ks (kpr i j)) (put ks vs (kpr i j) (.bl true))) (.tup [.int j, .int i]) (.bl true) = some (.dt (putk (putk ks (kpr i j)) (kpr j i)) (put (putk ks (kpr i j)) (put ks vs (kpr i j) (.bl true)) (kpr j i) (.bl true))) := by
      simp only [setD, keysOf, keyOf, if_pos (lt_lineR (show (putk ks (kpr i j)).length ≤ 1000000 by omega)), Option.map_some]
      rfl
    simp -implicitDefEqProofs only [forF, pD, q_var, q_int, q_bl, q_non, q_str, q_glb, q_bin, q_cmp, q_chain, q_and, q_or, q_not, q_neg, q_ifx, q_tup, q_lst, q_ix, q_slc, q_call, q_bi, q_mt, q_lc, q_dnew, q_F0, q_F, q_B0, q_B, q_I0, q_I, q_O0, q_O, s_set, s_setix, s_ms, s_frz, s_ite, s_for, s_whl, s_ret, s_retn, s_brk, s_cnt, s_pass, s_expr, ss_nil, ss_cons, seqO_nx, seqO_rt, seqO_bk, seqO_ct, finD_nx, finD_fz, finD_ow, finD_bo', rtD_fz, rtD_ow, rtD_bo, esc_fz, esc_ow, lkE_fz, lkE_ow, owE_ow, frzE_some, frzE_none, onT_kd, Option.bind_some, List.getElem?_cons_zero, List.getElem?_cons_succ, List.set_cons_zero, List.set_cons_succ, truD, setR_fz, setR_ow, setR_tp, setTg, setMany, tgS, wipeR, srcV, List.length_cons, List.length_nil, Nat.reduceAdd, Nat.reduceLT, ↓reduceIte, reduceCtorEq, intO, Bool.false_eq_true, decide_eq_true_eq, Bool.not_eq_true', decide_eq_false_iff_not, b_add, b_sub, b_mul1, b_mul2, b_mod, b_fdiv, m_rev, c_eqI, c_neI, c_eqB, c_lt, c_le, c_gt, c_ge, f_max, f_min, f_lenL, f_lenT, f_lenS, f_lenX, f_tupL, f_tupT, f_lstL, f_lstT, f_lstS, f_intB, f_intI, f_isB, k_seqL, k_seqT, k_seqS, at_0, at_1, at_2, at_3, x_lst, x_tup, Int.reduceLT, Int.reduceNeg, Int.reduceLE, List.length_map, Bool.or_self, Bool.not_true, Bool.not_false, f_isI, f_isIB, f_isBI, f_isL, f_isT, f_isS, c_is, c_isnt, isNon_non, isNon_tup, isNon_int, isNon_bl, isNon_lst, ne_eq, not_true_eq_false, not_false_eq_true, beq_self_eq_true, if_true, if_false, loopO_nx, loopO_ct, loopO_bk, loopO_rt, c_inT, c_ninT, c_inL, c_ninL, s_forq, lstO_lst, s1, s2]
    refine ⟨_, .inl rfl, _, _, fi i, fi j, rfl, by omega, fun a b => ?_⟩
    rw [hasK, hasK, hh, kpr_eq, kpr_eq, tk]
    unfold adjB
    rw [Bool.eq_iff_iff]
    simp only [Bool.or_eq_true, Bool.and_eq_true, decide_eq_true_eq, List.mem_append, List.mem_singleton, Prod.mk.injEq]
    constructor
    · rintro ((h | ⟨rfl, rfl⟩) | ⟨rfl, rfl⟩)
      · rcases h with h | h
        · exact .inl (.inl h)
        · exact .inr (.inl h)
      · exact .inl (.inr ⟨rfl, rfl⟩)
      · exact .inr (.inr ⟨rfl, rfl⟩)
    · rintro ((h | ⟨rfl, rfl⟩) | (h | ⟨rfl, rfl⟩))
      · exact .inl (.inl (.inl h))
      · exact .inl (.inr ⟨rfl, rfl⟩)
      · exact .inl (.inl (.inr h))
      · exact .inr ⟨rfl, rfl⟩)
  obtain ⟨ρ, e, ks, vs, j2, j3, rfl, _, hh⟩ := L
  rw [List.length_map, List.take_length] at hh
  refine ⟨.dt ks vs, run_to rfl ?_, ks, vs, rfl, hh⟩
  show finD (evSs cl b70 [fd (.lst (C.map pD)), none, none, none]) = _
  simp -implicitDefEqProofs only [b70, q_var, q_int, q_bl, q_non, q_str, q_glb, q_bin, q_cmp, q_chain, q_and, q_or, q_not, q_neg, q_ifx, q_tup, q_lst, q_ix, q_slc, q_call, q_bi, q_mt, q_lc, q_dnew, q_F0, q_F, q_B0, q_B, q_I0, q_I, q_O0, q_O, s_set, s_setix, s_ms, s_frz, s_ite, s_for, s_whl, s_ret, s_retn, s_brk, s_cnt, s_pass, s_expr, ss_nil, ss_cons, seqO_nx, seqO_rt, seqO_bk, seqO_ct, finD_nx, finD_fz, finD_ow, finD_bo', rtD_fz, rtD_ow, rtD_bo, esc_fz, esc_ow, lkE_fz, lkE_ow, owE_ow, frzE_some, frzE_none, onT_kd, Option.bind_some, List.getElem?_cons_zero, List.getElem?_cons_succ, List.set_cons_zero, List.set_cons_succ, truD, setR_fz, setR_ow, setR_tp, setTg, setMany, tgS, wipeR, srcV, List.length_cons, List.length_nil, Nat.reduceAdd, Nat.reduceLT, ↓reduceIte, reduceCtorEq, intO, Bool.false_eq_true, decide_eq_true_eq, Bool.not_eq_true', decide_eq_false_iff_not, b_add, b_sub, b_mul1, b_mul2, b_mod, b_fdiv, m_rev, c_eqI, c_neI, c_eqB, c_lt, c_le, c_gt, c_ge, f_max, f_min, f_lenL, f_lenT, f_lenS, f_lenX, f_tupL, f_tupT, f_lstL, f_lstT, f_lstS, f_intB, f_intI, f_isB, k_seqL, k_seqT, k_seqS, at_0, at_1, at_2, at_3, x_lst, x_tup, Int.reduceLT, Int.reduceNeg, Int.reduceLE, List.length_map, Bool.or_self, Bool.not_true, Bool.not_false, f_isI, f_isIB, f_isBI, f_isL, f_isT, f_isS, c_is, c_isnt, isNon_non, isNon_tup, isNon_int, isNon_bl, isNon_lst, ne_eq, not_true_eq_false, not_false_eq_true, beq_self_eq_true, if_true, if_false, loopO_nx, loopO_ct, loopO_bk, loopO_rt, c_inT, c_ninT, c_inL, c_ninL, s_forq, lstO_lst, e, if_true]
theorem c_inDT {ks : List (List Key)} {vs : List D} (a b : Int) : cmpD .isin (.tup [.int a, .int b]) (.dt ks vs) = some (has ks (kpr a b)) := by
  simp only [cmpD, keysOf, keyOf, Option.map_some]
  rfl
theorem c_ninDK {ks : List Key} {vs : List D} (a : Int) : cmpD .notin (.int a) (.dk ks vs) = some (!has ks (Sum.inl a : Key)) := by
  simp only [cmpD, keyOf, Option.map_some]
/-! ### greatest -/
theorem fold_max : ∀ (ns : List Int) (a : Int), a ≤ ns.foldl max a ∧ ∀ x ∈ ns, x ≤ ns.foldl max a
  | [], a => ⟨Int.le_refl _, fun x m => nomatch m⟩
  | n :: ns, a => by
    obtain ⟨h1, h2⟩ := fold_max ns (max a n)
    refine ⟨by rw [List.foldl_cons]; omega, fun x m => ?_⟩
    rw [List.foldl_cons]
    rcases List.mem_cons.mp m with rfl | m
    · omega
    · exact h2 x m
theorem fold_lt {m : Int} : ∀ (ns : List Int) (a : Int), a < m → (∀ x ∈ ns, x < m) → ns.foldl max a < m
  | [], a, h, _ => h
  | n :: ns, a, h, k => by
    rw [List.foldl_cons]
    have := k n List.mem_cons_self
    exact fold_lt ns (max a n) (by omega) fun x mm => k x (List.mem_cons_of_mem _ mm)
theorem maxD_ge {d : Int} {gs : List Int} {x : Int} (h : x ∈ gs) : x ≤ maxDI d gs := by
  cases gs with
  | nil => cases h
  | cons n ns =>
    obtain ⟨h1, h2⟩ := fold_max ns n
    rcases List.mem_cons.mp h with rfl | h
    · exact h1
    · exact h2 x h
theorem maxD_lt {d m : Int} {gs : List Int} (hd : d < m) (h : ∀ x ∈ gs, x < m) : maxDI d gs < m := by
  cases gs with
  | nil => exact hd
  | cons n ns => exact fold_lt ns n (h n List.mem_cons_self) fun x mm => h x (List.mem_cons_of_mem _ mm)
theorem maxD_lo {gs : List Int} (h : ∀ x ∈ gs, 0 ≤ x) : -1 ≤ maxDI (-1) gs := by
  cases gs with
  | nil => exact Int.le_refl _
  | cons n ns =>
    have h1 := h n List.mem_cons_self
    have h2 := maxD_ge (d := -1) (List.mem_cons_self (a := n) (l := ns))
    omega
/-! ### groups that begin so -/
def openL (A : Int → Int → Bool) (gs : List Int) (part : Int) : List Int := (rangeL 0 (maxDI (-1) gs + 1)).filter fun g => !(gs.zipIdx.any fun q => decide (q.1 = g) && A part (q.2 : Nat))
theorem r_open (cl) (A : Int → Int → Bool) (pd : D) (hA : PrD pd A) (gs : List Int) (part : Int) (h0 : ∀ x ∈ gs, 0 ≤ x) (h1 : ∀ x ∈ gs, x < 1000) (hz : gs.length ≤ 1000) :
    R.run cl fn71 [.lst (gs.map .int), .int part, pd] = some (.ow, .lst ((openL A gs part).map .int)) := by
  obtain ⟨ks0, vs0, rfl, hh⟩ := hA
  have L := forRun_J (F := forF cl (.tp [4, 5]) [.ite (.cmp .isin (.tup [.var 1, .var 4]) (.var 2)) [.setix 3 (.var 5) (.bl true)] []]) ((gs.map D.int).zipIdx.map fun p => D.tup [.int (p.2 : Nat), p.1])
    (fun n ρ => ∃ (ks : List Key) (vs : List D) (j4 j5 : Option (Kd × D)), ρ = [fd (.lst (gs.map .int)), fi part, fd (.dt ks0 vs0), ow (.dk ks vs), j4, j5] ∧ ks.length ≤ n ∧ ∀ g : Int, has ks (Sum.inl g : Key) = (gs.zipIdx.take n).any fun q => decide (q.1 = g) && A part (q.2 : Nat))
    [fd (.lst (gs.map .int)), fi part, fd (.dt ks0 vs0), ow (.dk [] []), none, none] ⟨[], [], _, _, rfl, Nat.zero_le _, fun g => rfl⟩ (by
    rintro n x ρ hx ⟨ks, vs, j4, j5, rfl, hl, hk⟩
    obtain ⟨g, hg, rfl⟩ := get_enum hx
    have hn := (List.getElem?_eq_some_iff.mp hg).1
    have tk : gs.zipIdx.take (n + 1) = gs.zipIdx.take n ++ [(g, n)] := by
      rw [List.take_add_one, List.getElem?_zipIdx, hg]
      simp
    have ci := c_inDT (ks := ks0) (vs := vs0) part (n : Int)
    rw [hh] at ci
    rw [tk]
    cases ha : A part (n : Int) with
    | true =>
      rw [ha] at ci
      have s1 : setD (.dk ks vs) (.int g) (.bl true) = some (.dk (putk ks (Sum.inl g)) (put ks vs (Sum.inl g) (.bl true))) := by
        simp only [setD, keyOf, if_pos (lt_lineR (show ks.length ≤ 1000000 by omega)), Option.map_some]
      have l1 := lenK ks (Sum.inl g : Key)
      simp -implicitDefEqProofs only [forF, q_var, q_int, q_bl, q_non, q_str, q_glb, q_bin, q_cmp, q_chain, q_and, q_or, q_not, q_neg, q_ifx, q_tup, q_lst, q_ix, q_slc, q_call, q_bi, q_mt, q_lc, q_dnew, q_F0, q_F, q_B0, q_B, q_I0, q_I, q_O0, q_O, s_set, s_setix, s_ms, s_frz, s_ite, s_for, s_whl, s_ret, s_retn, s_brk, s_cnt, s_pass, s_expr, ss_nil, ss_cons, seqO_nx, seqO_rt, seqO_bk, seqO_ct, finD_nx, finD_fz, finD_ow, finD_bo', rtD_fz, rtD_ow, rtD_bo, esc_fz, esc_ow, lkE_fz, lkE_ow, owE_ow, frzE_some, frzE_none, onT_kd, Option.bind_some, List.getElem?_cons_zero, List.getElem?_cons_succ, List.set_cons_zero, List.set_cons_succ, truD, setR_fz, setR_ow, setR_tp, setTg, setMany, tgS, wipeR, srcV, List.length_cons, List.length_nil, Nat.reduceAdd, Nat.reduceLT, ↓reduceIte, reduceCtorEq, intO, Bool.false_eq_true, decide_eq_true_eq, Bool.not_eq_true', decide_eq_false_iff_not, b_add, b_sub, b_mul1, b_mul2, b_mod, b_fdiv, m_rev, c_eqI, c_neI, c_eqB, c_lt, c_le, c_gt, c_ge, f_max, f_min, f_lenL, f_lenT, f_lenS, f_lenX, f_tupL, f_tupT, f_lstL, f_lstT, f_lstS, f_intB, f_intI, f_isB, k_seqL, k_seqT, k_seqS, at_0, at_1, at_2, at_3, x_lst, x_tup, Int.reduceLT, Int.reduceNeg, Int.reduceLE, List.length_map, Bool.or_self, Bool.not_true, Bool.not_false, f_isI, f_isIB, f_isBI, f_isL, f_isT, f_isS, c_is, c_isnt, isNon_non, isNon_tup, isNon_int, isNon_bl, isNon_lst, ne_eq, not_true_eq_false, not_false_eq_true, beq_self_eq_true, if_true, if_false, loopO_nx, loopO_ct, loopO_bk, loopO_rt, c_inT, c_ninT, c_inL, c_ninL, s_forq, lstO_lst, ci, s1]
      refine ⟨_, .inl rfl, _, _, fi n, fi g, rfl, by omega, fun c => ?_⟩
      rw [hasK, hk, List.any_append]
      simp [ha]
    | false =>
      rw [ha] at ci
      simp -implicitDefEqProofs only [forF, q_var, q_int, q_bl, q_non, q_str, q_glb, q_bin, q_cmp, q_chain, q_and, q_or, q_not, q_neg, q_ifx, q_tup, q_lst, q_ix, q_slc, q_call, q_bi, q_mt, q_lc, q_dnew, q_F0, q_F, q_B0, q_B, q_I0, q_I, q_O0, q_O, s_set, s_setix, s_ms, s_frz, s_ite, s_for, s_whl, s_ret, s_retn, s_brk, s_cnt, s_pass, s_expr, ss_nil, ss_cons, seqO_nx, seqO_rt, seqO_bk, seqO_ct, finD_nx, finD_fz, finD_ow, finD_bo', rtD_fz, rtD_ow, rtD_bo, esc_fz, esc_ow, lkE_fz, lkE_ow, owE_ow, frzE_some, frzE_none, onT_kd, Option.bind_some, List.getElem?_cons_zero, List.getElem?_cons_succ, List.set_cons_zero, List.set_cons_succ, truD, setR_fz, setR_ow, setR_tp, setTg, setMany, tgS, wipeR, srcV, List.length_cons, List.length_nil, Nat.reduceAdd, Nat.reduceLT, ↓reduceIte, reduceCtorEq, intO, Bool.false_eq_true, decide_eq_true_eq, Bool.not_eq_true', decide_eq_false_iff_not, b_add, b_sub, b_mul1, b_mul2, b_mod, b_fdiv, m_rev, c_eqI, c_neI, c_eqB, c_lt, c_le, c_gt, c_ge, f_max, f_min, f_lenL, f_lenT, f_lenS, f_lenX, f_tupL, f_tupT, f_lstL, f_lstT, f_lstS, f_intB, f_intI, f_isB, k_seqL, k_seqT, k_seqS, at_0, at_1, at_2, at_3, x_lst, x_tup, Int.reduceLT, Int.reduceNeg, Int.reduceLE, List.length_map, Bool.or_self, Bool.not_true, Bool.not_false, f_isI, f_isIB, f_isBI, f_isL, f_isT, f_isS, c_is, c_isnt, isNon_non, isNon_tup, isNon_int, isNon_bl, isNon_lst, ne_eq, not_true_eq_false, not_false_eq_true, beq_self_eq_true, if_true, if_false, loopO_nx, loopO_ct, loopO_bk, loopO_rt, c_inT, c_ninT, c_inL, c_ninL, s_forq, lstO_lst, ci]
      refine ⟨_, .inl rfl, ks, vs, fi n, fi g, rfl, by omega, fun c => ?_⟩
      rw [hk, List.any_append]
      simp [ha])
  obtain ⟨ρ, e, ks, vs, j4, j5, rfl, _, hk⟩ := L
  rw [List.take_of_length_le (by rw [List.length_map, List.length_zipIdx, List.length_zipIdx, List.length_map]; exact Nat.le_refl _)] at hk
  have en : srcD .enum [.lst (gs.map .int)] = some ((gs.map D.int).zipIdx.map fun p => D.tup [.int (p.2 : Nat), p.1]) := by simp only [srcD]
  have lo := maxD_lo h0
  have hi := maxD_lt (d := -1) (m := 1000) (by omega) h1
  have M := lcRun_filter D.int (F := lcF cl [fd (.lst (gs.map .int)), fi part, fd (.dt ks0 vs0), ow (.dk ks vs), j4, j5] (.var 5) (.nm 5) [.cmp .notin (.var 5) (.var 3)]) D.int (fun g => !(gs.zipIdx.any fun q => decide (q.1 = g) && A part (q.2 : Nat))) (rangeL 0 (maxDI (-1) gs + 1)) (by
    intro g hg
    have ci := c_ninDK (ks := ks) (vs := vs) g
    rw [hk] at ci
    simp -implicitDefEqProofs only [lcF, q_var, q_int, q_bl, q_non, q_str, q_glb, q_bin, q_cmp, q_chain, q_and, q_or, q_not, q_neg, q_ifx, q_tup, q_lst, q_ix, q_slc, q_call, q_bi, q_mt, q_lc, q_dnew, q_F0, q_F, q_B0, q_B, q_I0, q_I, q_O0, q_O, s_set, s_setix, s_ms, s_frz, s_ite, s_for, s_whl, s_ret, s_retn, s_brk, s_cnt, s_pass, s_expr, ss_nil, ss_cons, seqO_nx, seqO_rt, seqO_bk, seqO_ct, finD_nx, finD_fz, finD_ow, finD_bo', rtD_fz, rtD_ow, rtD_bo, esc_fz, esc_ow, lkE_fz, lkE_ow, owE_ow, frzE_some, frzE_none, onT_kd, Option.bind_some, List.getElem?_cons_zero, List.getElem?_cons_succ, List.set_cons_zero, List.set_cons_succ, truD, setR_fz, setR_ow, setR_tp, setTg, setMany, tgS, wipeR, srcV, List.length_cons, List.length_nil, Nat.reduceAdd, Nat.reduceLT, ↓reduceIte, reduceCtorEq, intO, Bool.false_eq_true, decide_eq_true_eq, Bool.not_eq_true', decide_eq_false_iff_not, b_add, b_sub, b_mul1, b_mul2, b_mod, b_fdiv, m_rev, c_eqI, c_neI, c_eqB, c_lt, c_le, c_gt, c_ge, f_max, f_min, f_lenL, f_lenT, f_lenS, f_lenX, f_tupL, f_tupT, f_lstL, f_lstT, f_lstS, f_intB, f_intI, f_isB, k_seqL, k_seqT, k_seqS, at_0, at_1, at_2, at_3, x_lst, x_tup, Int.reduceLT, Int.reduceNeg, Int.reduceLE, List.length_map, Bool.or_self, Bool.not_true, Bool.not_false, f_isI, f_isIB, f_isBI, f_isL, f_isT, f_isS, c_is, c_isnt, isNon_non, isNon_tup, isNon_int, isNon_bl, isNon_lst, ne_eq, not_true_eq_false, not_false_eq_true, beq_self_eq_true, if_true, if_false, loopO_nx, loopO_ct, loopO_bk, loopO_rt, c_inT, c_ninT, c_inL, c_ninL, s_forq, lstO_lst, ci]
    split <;> rfl)
  refine run_to rfl ?_
  show finD (evSs cl b71 [fd (.lst (gs.map .int)), fi part, fd (.dt ks0 vs0), none, none, none]) = _
  simp -implicitDefEqProofs only [b71, q_var, q_int, q_bl, q_non, q_str, q_glb, q_bin, q_cmp, q_chain, q_and, q_or, q_not, q_neg, q_ifx, q_tup, q_lst, q_ix, q_slc, q_call, q_bi, q_mt, q_lc, q_dnew, q_F0, q_F, q_B0, q_B, q_I0, q_I, q_O0, q_O, s_set, s_setix, s_ms, s_frz, s_ite, s_for, s_whl, s_ret, s_retn, s_brk, s_cnt, s_pass, s_expr, ss_nil, ss_cons, seqO_nx, seqO_rt, seqO_bk, seqO_ct, finD_nx, finD_fz, finD_ow, finD_bo', rtD_fz, rtD_ow, rtD_bo, esc_fz, esc_ow, lkE_fz, lkE_ow, owE_ow, frzE_some, frzE_none, onT_kd, Option.bind_some, List.getElem?_cons_zero, List.getElem?_cons_succ, List.set_cons_zero, List.set_cons_succ, truD, setR_fz, setR_ow, setR_tp, setTg, setMany, tgS, wipeR, srcV, List.length_cons, List.length_nil, Nat.reduceAdd, Nat.reduceLT, ↓reduceIte, reduceCtorEq, intO, Bool.false_eq_true, decide_eq_true_eq, Bool.not_eq_true', decide_eq_false_iff_not, b_add, b_sub, b_mul1, b_mul2, b_mod, b_fdiv, m_rev, c_eqI, c_neI, c_eqB, c_lt, c_le, c_gt, c_ge, f_max, f_min, f_lenL, f_lenT, f_lenS, f_lenX, f_tupL, f_tupT, f_lstL, f_lstT, f_lstS, f_intB, f_intI, f_isB, k_seqL, k_seqT, k_seqS, at_0, at_1, at_2, at_3, x_lst, x_tup, Int.reduceLT, Int.reduceNeg, Int.reduceLE, List.length_map, Bool.or_self, Bool.not_true, Bool.not_false, f_isI, f_isIB, f_isBI, f_isL, f_isT, f_isS, c_is, c_isnt, isNon_non, isNon_tup, isNon_int, isNon_bl, isNon_lst, ne_eq, not_true_eq_false, not_false_eq_true, beq_self_eq_true, if_true, if_false, loopO_nx, loopO_ct, loopO_bk, loopO_rt, c_inT, c_ninT, c_inL, c_ninL, s_forq, lstO_lst, Bool.false_eq_true, if_false, en, e, f_maxd, k_rng1 (show -100000 ≤ maxDI (-1) gs + 1 by omega) (by omega), M]
  rfl
theorem mem_openL {A gs part c} : c ∈ openL A gs part ↔ (0 ≤ c ∧ c ≤ maxDI (-1) gs) ∧ ∀ o : Nat, gs[o]? = some c → A part (o : Int) = false := by
  unfold openL
  rw [List.mem_filter, mem_rangeL, Bool.not_eq_true', List.any_eq_false]
  constructor
  · rintro ⟨⟨a, b⟩, h⟩
    refine ⟨⟨a, by omega⟩, fun o ho => ?_⟩
    have := h (c, o) (List.mem_iff_getElem?.mpr ⟨o, by rw [List.getElem?_zipIdx, ho]; simp⟩)
    simpa using this
  · rintro ⟨⟨a, b⟩, h⟩
    refine ⟨⟨a, by omega⟩, fun q hq => ?_⟩
    obtain ⟨n, hn⟩ := List.mem_iff_getElem?.mp hq
    rw [List.getElem?_zipIdx] at hn
    cases hx : gs[n]? with
    | none => rw [hx] at hn; cases hn
    | some x =>
      rw [hx] at hn
      have en := Option.some.inj hn
      have e1 : x = q.1 := congrArg Prod.fst en
      have e2 : 0 + n = q.2 := congrArg Prod.snd en
      have e2 : n = q.2 := by omega
      by_cases hc : q.1 = c
      · rw [← e2, h n (by rw [hx, e1, hc])]
        simp
      · simp [hc]
/-- so far right -/
structure GG (A : Int → Int → Bool) (most : Nat) (gs : List Int) : Prop where
  lo : ∀ x ∈ gs, 0 ≤ x ∧ x < most
  pr : ∀ (i j : Nat) (c : Int), i < j → gs[i]? = some c → gs[j]? = some c → A (i : Int) (j : Int) = false
  cn : ∀ (i : Nat) (c : Int), gs[i]? = some c → c ≤ maxDI (-1) (gs.take i) + 1
def Ext (A : Int → Int → Bool) (most many : Nat) (gs : List Int) : Prop :=
  ∃ f : Nat → Int, (∀ i, i < many → 0 ≤ f i ∧ f i < most) ∧ (∀ i j : Nat, i < j → j < many → A (i : Int) (j : Int) = true → f i ≠ f j) ∧ ∀ (i : Nat) (c : Int), gs[i]? = some c → f i = c
def cand (A : Int → Int → Bool) (most : Nat) (gs : List Int) : List Int := openL A gs gs.length ++ (if maxDI (-1) gs + 1 < most then [maxDI (-1) gs + 1] else [])
theorem get_app1 {gs : List Int} {c x : Int} {i : Nat} (h : (gs ++ [c])[i]? = some x) : gs[i]? = some x ∨ (i = gs.length ∧ x = c) := by
  rcases Nat.lt_or_ge i gs.length with l | l
  · rw [List.getElem?_append_left l] at h
    exact .inl h
  · rw [List.getElem?_append_right l] at h
    rcases Nat.eq_zero_or_pos (i - gs.length) with z | z
    · rw [z] at h
      exact .inr ⟨by omega, (Option.some.inj h).symm⟩
    · rw [List.getElem?_eq_none (by simp only [List.length_cons, List.length_nil]; omega)] at h
      cases h
theorem mem_cand {A most gs c} : c ∈ cand A most gs ↔ c ∈ openL A gs gs.length ∨ (maxDI (-1) gs + 1 < (most : Int) ∧ c = maxDI (-1) gs + 1) := by
  unfold cand
  rw [List.mem_append]
  by_cases h : maxDI (-1) gs + 1 < (most : Int)
  · rw [if_pos h, List.mem_singleton]
    exact ⟨fun z => z.imp id fun e => ⟨h, e⟩, fun z => z.imp id fun e => e.2⟩
  · rw [if_neg h]
    exact ⟨fun z => z.elim .inl (fun e => (nomatch e)), fun z => z.elim .inl (fun e => absurd e.1 h)⟩
theorem gg_app {A : Int → Int → Bool} (sy : ∀ a b, A a b = A b a) {most : Nat} {gs : List Int} {c : Int} (G : GG A most gs) (h : c ∈ cand A most gs) : GG A most (gs ++ [c]) := by
  have lo := maxD_lo fun x m => (G.lo x m).1
  refine ⟨fun x m => ?_, fun i j x ij h1 h2 => ?_, fun i x h1 => ?_⟩
  · rcases List.mem_append.mp m with m | m
    · exact G.lo x m
    · rw [List.mem_singleton.mp m]
      rcases mem_cand.mp h with h | ⟨h, rfl⟩
      · obtain ⟨⟨a, b⟩, _⟩ := mem_openL.mp h
        refine ⟨a, ?_⟩
        cases gs with
        | nil => exfalso; have : maxDI (-1) [] = -1 := rfl; omega
        | cons g gs' =>
          have := maxD_lt (d := -1) (m := (most : Int)) (by have := G.lo g List.mem_cons_self; omega) (fun y my => (G.lo y my).2)
          omega
      · omega
  · rcases get_app1 h2 with k2 | ⟨rfl, rfl⟩
    · rcases get_app1 h1 with k1 | ⟨e1, e2⟩
      · exact G.pr i j x ij k1 k2
      · exfalso
        have := (List.getElem?_eq_some_iff.mp k2).1
        omega
    · rcases get_app1 h1 with h1 | ⟨rfl, _⟩
      · rcases mem_cand.mp h with h | ⟨h, e⟩
        · rw [sy]
          exact (mem_openL.mp h).2 i h1
        · exfalso
          have := maxD_ge (d := -1) (List.mem_of_getElem? h1)
          omega
      · omega
  · rcases get_app1 h1 with h1 | ⟨rfl, rfl⟩
    · have hi := (List.getElem?_eq_some_iff.mp h1).1
      rw [List.take_append_of_le_length (by omega)]
      exact G.cn i x h1
    · rw [List.take_append_of_le_length (Nat.le_refl _), List.take_length]
      rcases mem_cand.mp h with h | ⟨h, e⟩
      · have := (mem_openL.mp h).1.2
        omega
      · omega
theorem ext_step {A : Int → Int → Bool} (sy : ∀ a b, A a b = A b a) {most many : Nat} {gs : List Int} (hl : gs.length < many) (G : GG A most gs) (h : Ext A most many gs) : ∃ c ∈ cand A most gs, Ext A most many (gs ++ [c]) := by
  obtain ⟨f, f1, f2, f3⟩ := h
  obtain ⟨b0, b1⟩ := f1 gs.length hl
  rcases Int.lt_or_le (maxDI (-1) gs) (f gs.length) with c | c
  · -- a fresh one
    have hm : maxDI (-1) gs + 1 < (most : Int) := by omega
    refine ⟨maxDI (-1) gs + 1, mem_cand.mpr (.inr ⟨hm, rfl⟩), fun k => if f k = f gs.length then maxDI (-1) gs + 1 else if f k = maxDI (-1) gs + 1 then f gs.length else f k, fun i hi => ?_, fun i j ij hj ha => ?_, fun i x hx => ?_⟩
    · have lo := maxD_lo fun x m => (G.lo x m).1
      have := f1 i hi
      show 0 ≤ (if f i = f gs.length then maxDI (-1) gs + 1 else if f i = maxDI (-1) gs + 1 then f gs.length else f i) ∧ (if f i = f gs.length then maxDI (-1) gs + 1 else if f i = maxDI (-1) gs + 1 then f gs.length else f i) < most
      split
      · omega
      · split <;> omega
    · have := f2 i j ij hj ha
      show (if f i = f gs.length then maxDI (-1) gs + 1 else if f i = maxDI (-1) gs + 1 then f gs.length else f i) ≠ (if f j = f gs.length then maxDI (-1) gs + 1 else if f j = maxDI (-1) gs + 1 then f gs.length else f j)
      split <;> split <;> (try split) <;> (try split) <;> omega
    · rcases get_app1 hx with hx | ⟨rfl, rfl⟩
      · have e := f3 i x hx
        have := maxD_ge (d := -1) (List.mem_of_getElem? hx)
        show (if f i = f gs.length then maxDI (-1) gs + 1 else if f i = maxDI (-1) gs + 1 then f gs.length else f i) = x
        rw [if_neg (by omega), if_neg (by omega)]
        exact e
      · show (if f gs.length = f gs.length then maxDI (-1) gs + 1 else _) = _
        rw [if_pos rfl]
  · refine ⟨f gs.length, mem_cand.mpr (.inl (mem_openL.mpr ⟨⟨b0, c⟩, fun o ho => ?_⟩)), f, f1, f2, fun i x hx => ?_⟩
    · have ol := (List.getElem?_eq_some_iff.mp ho).1
      have e := f3 o _ ho
      rw [sy]
      cases ha : A (o : Int) (gs.length : Int) with
      | false => rfl
      | true => exact absurd e (f2 o gs.length ol hl ha)
    · rcases get_app1 hx with hx | ⟨rfl, rfl⟩
      · exact f3 i x hx
      · rfl
theorem ext_back {A : Int → Int → Bool} {most many : Nat} {gs : List Int} {c : Int} (h : Ext A most many (gs ++ [c])) : Ext A most many gs := by
  obtain ⟨f, f1, f2, f3⟩ := h
  refine ⟨f, f1, f2, fun i x hx => f3 i x ?_⟩
  rw [List.getElem?_append_left (List.getElem?_eq_some_iff.mp hx).1]
  exact hx
theorem ext_full {A : Int → Int → Bool} {most : Nat} {gs : List Int} (G : GG A most gs) : Ext A most gs.length gs := by
  refine ⟨fun i => gs.getD i 0, fun i hi => ?_, fun i j ij hj ha e => ?_, fun i x hx => ?_⟩
  · show 0 ≤ gs.getD i 0 ∧ gs.getD i 0 < most
    rw [List.getD_eq_getElem?_getD, List.getElem?_eq_getElem hi]
    exact G.lo _ (List.getElem_mem hi)
  · have hi : i < gs.length := by omega
    have e : gs.getD i 0 = gs.getD j 0 := e
    rw [List.getD_eq_getElem?_getD, List.getD_eq_getElem?_getD, List.getElem?_eq_getElem hi, List.getElem?_eq_getElem hj] at e
    have e : gs[i] = gs[j] := e
    have := G.pr i j gs[i] ij (List.getElem?_eq_getElem hi) (by rw [List.getElem?_eq_getElem hj, e])
    rw [this] at ha
    cases ha
  · show gs.getD i 0 = x
    rw [List.getD_eq_getElem?_getD, hx]
    rfl
theorem r_grown (ev : Nat → Nat → List D → Option (Kd × D)) (h72 : ∀ m ds, ev (m + 1) 72 ds = R.run (ev m) fn72 ds) (h71 : ∀ m ds, ev (m + 1) 71 ds = R.run (ev m) fn71 ds)
    (A : Int → Int → Bool) (sy : ∀ a b, A a b = A b a) (pd : D) (hA : PrD pd A) (most many : Nat) (hm : most ≤ 100) (hn : many ≤ 100) :
    ∀ (d m : Nat) (gs : List Int), gs.length + d = many → GG A most gs → ∃ k r, ev (m + d + 2) 72 [.lst (gs.map .int), .int many, pd, .int most] = some (k, r) ∧ (k = .fz ∨ k = .ow) ∧
      ((r = .non ∧ ¬ Ext A most many gs) ∨ ∃ g : List Int, r = .lst (g.map .int) ∧ GG A most g ∧ g.length = many) := by
  intro d
  induction d with
  | zero =>
    intro m gs hl G
    have el : decide ((gs.length : Int) = many) = true := decide_eq_true (by omega)
    refine ⟨.ow, .lst (gs.map .int), ?_, .inr rfl, .inr ⟨gs, rfl, G, by omega⟩⟩
    rw [h72]
    refine run_to rfl ?_
    show finD (evSs (ev (m + 1)) b72 [fd (.lst (gs.map .int)), fi many, fd pd, fi most, none, none, none, none, none]) = _
    simp -implicitDefEqProofs only [b72, q_var, q_int, q_bl, q_non, q_str, q_glb, q_bin, q_cmp, q_chain, q_and, q_or, q_not, q_neg, q_ifx, q_tup, q_lst, q_ix, q_slc, q_call, q_bi, q_mt, q_lc, q_dnew, q_F0, q_F, q_B0, q_B, q_I0, q_I, q_O0, q_O, s_set, s_setix, s_ms, s_frz, s_ite, s_for, s_whl, s_ret, s_retn, s_brk, s_cnt, s_pass, s_expr, ss_nil, ss_cons, seqO_nx, seqO_rt, seqO_bk, seqO_ct, finD_nx, finD_fz, finD_ow, finD_bo', rtD_fz, rtD_ow, rtD_bo, esc_fz, esc_ow, lkE_fz, lkE_ow, owE_ow, frzE_some, frzE_none, onT_kd, Option.bind_some, List.getElem?_cons_zero, List.getElem?_cons_succ, List.set_cons_zero, List.set_cons_succ, truD, setR_fz, setR_ow, setR_tp, setTg, setMany, tgS, wipeR, srcV, List.length_cons, List.length_nil, Nat.reduceAdd, Nat.reduceLT, ↓reduceIte, reduceCtorEq, intO, Bool.false_eq_true, decide_eq_true_eq, Bool.not_eq_true', decide_eq_false_iff_not, b_add, b_sub, b_mul1, b_mul2, b_mod, b_fdiv, m_rev, c_eqI, c_neI, c_eqB, c_lt, c_le, c_gt, c_ge, f_max, f_min, f_lenL, f_lenT, f_lenS, f_lenX, f_tupL, f_tupT, f_lstL, f_lstT, f_lstS, f_intB, f_intI, f_isB, k_seqL, k_seqT, k_seqS, at_0, at_1, at_2, at_3, x_lst, x_tup, Int.reduceLT, Int.reduceNeg, Int.reduceLE, List.length_map, Bool.or_self, Bool.not_true, Bool.not_false, f_isI, f_isIB, f_isBI, f_isL, f_isT, f_isS, c_is, c_isnt, isNon_non, isNon_tup, isNon_int, isNon_bl, isNon_lst, ne_eq, not_true_eq_false, not_false_eq_true, beq_self_eq_true, if_true, if_false, loopO_nx, loopO_ct, loopO_bk, loopO_rt, c_inT, c_ninT, c_inL, c_ninL, s_forq, lstO_lst, el]
  | succ d ih =>
    intro m gs hl G
    have lo := maxD_lo fun x mm => (G.lo x mm).1
    have hi := maxD_lt (d := -1) (m := 101) (by omega) (fun x mm => by have := G.lo x mm; omega)
    have el : decide ((gs.length : Int) = many) = false := decide_eq_false (by omega)
    have ko : ev (m + d + 2) 71 [.lst (gs.map .int), .int gs.length, pd] = some (.ow, .lst ((openL A gs gs.length).map .int)) := by
      rw [h71]
      exact r_open (ev (m + d + 1)) A pd hA gs gs.length (fun x mm => (G.lo x mm).1) (fun x mm => by have := G.lo x mm; omega) (by omega)
    have lop : (openL A gs gs.length).length ≤ 1000 := by
      unfold openL
      have := List.length_filter_le (fun g => !(gs.zipIdx.any fun q => decide (q.1 = g) && A gs.length (q.2 : Nat))) (rangeL 0 (maxDI (-1) gs + 1))
      rw [len_rangeL] at this
      omega
    have ap := m_app (xs := (openL A gs gs.length).map D.int) (d := .int (maxDI (-1) gs + 1)) (by rw [List.length_map]; omega)
    have hc : ∀ c ∈ cand A most gs, GG A most (gs ++ [c]) := fun c mm => gg_app sy G mm
    have step := ext_step sy (many := many) (by omega) G
    have L := forRun_JE (F := forF (ev (m + d + 2)) (.nm 7) [.set (.nm 8) (.call 72 [.bin .add (.var 0) (.lst [.var 7]), .var 1, .var 2, .var 3]),
      .frz 8,
      .ite (.cmp .isnt (.var 8) (.non)) [.ret (.var 8)] []]) (fun k r => k = .fz ∧ ∃ g : List Int, r = .lst (g.map .int) ∧ GG A most g ∧ g.length = many) (fun _ => False) ((cand A most gs).map .int)
      (fun n ρ => (∀ c ∈ (cand A most gs).take n, ¬ Ext A most many (gs ++ [c])) ∧ ∃ (j7 j8 : Option (Kd × D)), ρ = [fd (.lst (gs.map .int)), fi many, fd pd, fi most, fi gs.length, fd (.lst ((cand A most gs).map .int)), fi (maxDI (-1) gs + 1), j7, j8])
      [fd (.lst (gs.map .int)), fi many, fd pd, fi most, fi gs.length, fd (.lst ((cand A most gs).map .int)), fi (maxDI (-1) gs + 1), none, none] ⟨fun c mm => (by rw [List.take_zero] at mm; cases mm), _, _, rfl⟩ (by
      rintro n x ρ hx ⟨no, j7, j8, rfl⟩
      obtain ⟨c, hcc, rfl⟩ := get_map_int hx
      have mm := List.mem_of_getElem? hcc
      obtain ⟨k, r, e, kk, h⟩ := ih m (gs ++ [c]) (by rw [List.length_append]; simp only [List.length_cons, List.length_nil]; omega) (hc c mm)
      have cat : binD .add (.lst (gs.map D.int)) (.lst [.int c]) = some (.ow, .lst ((gs ++ [c]).map .int)) := by
        rw [b_cat (by rw [List.length_map]; simp only [List.length_cons, List.length_nil]; omega), List.map_append]
        rfl
      have tk : (cand A most gs).take (n + 1) = (cand A most gs).take n ++ [c] := by
        rw [List.take_add_one, hcc]
        rfl
      rw [tk]
      generalize cand A most gs = cs at no
      rcases h with ⟨rfl, ne⟩ | ⟨g, rfl, gg, gl⟩
      · left
        have go : ∀ k, (k = .fz ∨ k = .ow) → ev (m + d + 2) 72 [.lst ((gs ++ [c]).map .int), .int many, pd, .int most] = some (k, .non) → forF (ev (m + d + 2)) (.nm 7) [.set (.nm 8) (.call 72 [.bin .add (.var 0) (.lst [.var 7]), .var 1, .var 2, .var 3]),
          .frz 8,
          .ite (.cmp .isnt (.var 8) (.non)) [.ret (.var 8)] []] (.int c) [fd (.lst (gs.map .int)), fi many, fd pd, fi most, fi gs.length, fd (.lst (cs.map .int)), fi (maxDI (-1) gs + 1), j7, j8] = some (.nx [fd (.lst (gs.map .int)), fi many, fd pd, fi most, fi gs.length, fd (.lst (cs.map .int)), fi (maxDI (-1) gs + 1), fi c, fd .non]) := by
          rintro k (rfl | rfl) e
          · simp -implicitDefEqProofs only [forF, q_var, q_int, q_bl, q_non, q_str, q_glb, q_bin, q_cmp, q_chain, q_and, q_or, q_not, q_neg, q_ifx, q_tup, q_lst, q_ix, q_slc, q_call, q_bi, q_mt, q_lc, q_dnew, q_F0, q_F, q_B0, q_B, q_I0, q_I, q_O0, q_O, s_set, s_setix, s_ms, s_frz, s_ite, s_for, s_whl, s_ret, s_retn, s_brk, s_cnt, s_pass, s_expr, ss_nil, ss_cons, seqO_nx, seqO_rt, seqO_bk, seqO_ct, finD_nx, finD_fz, finD_ow, finD_bo', rtD_fz, rtD_ow, rtD_bo, esc_fz, esc_ow, lkE_fz, lkE_ow, owE_ow, frzE_some, frzE_none, onT_kd, Option.bind_some, List.getElem?_cons_zero, List.getElem?_cons_succ, List.set_cons_zero, List.set_cons_succ, truD, setR_fz, setR_ow, setR_tp, setTg, setMany, tgS, wipeR, srcV, List.length_cons, List.length_nil, Nat.reduceAdd, Nat.reduceLT, ↓reduceIte, reduceCtorEq, intO, Bool.false_eq_true, decide_eq_true_eq, Bool.not_eq_true', decide_eq_false_iff_not, b_add, b_sub, b_mul1, b_mul2, b_mod, b_fdiv, m_rev, c_eqI, c_neI, c_eqB, c_lt, c_le, c_gt, c_ge, f_max, f_min, f_lenL, f_lenT, f_lenS, f_lenX, f_tupL, f_tupT, f_lstL, f_lstT, f_lstS, f_intB, f_intI, f_isB, k_seqL, k_seqT, k_seqS, at_0, at_1, at_2, at_3, x_lst, x_tup, Int.reduceLT, Int.reduceNeg, Int.reduceLE, List.length_map, Bool.or_self, Bool.not_true, Bool.not_false, f_isI, f_isIB, f_isBI, f_isL, f_isT, f_isS, c_is, c_isnt, isNon_non, isNon_tup, isNon_int, isNon_bl, isNon_lst, ne_eq, not_true_eq_false, not_false_eq_true, beq_self_eq_true, if_true, if_false, loopO_nx, loopO_ct, loopO_bk, loopO_rt, c_inT, c_ninT, c_inL, c_ninL, s_forq, lstO_lst, cat, e]
          · simp -implicitDefEqProofs only [forF, q_var, q_int, q_bl, q_non, q_str, q_glb, q_bin, q_cmp, q_chain, q_and, q_or, q_not, q_neg, q_ifx, q_tup, q_lst, q_ix, q_slc, q_call, q_bi, q_mt, q_lc, q_dnew, q_F0, q_F, q_B0, q_B, q_I0, q_I, q_O0, q_O, s_set, s_setix, s_ms, s_frz, s_ite, s_for, s_whl, s_ret, s_retn, s_brk, s_cnt, s_pass, s_expr, ss_nil, ss_cons, seqO_nx, seqO_rt, seqO_bk, seqO_ct, finD_nx, finD_fz, finD_ow, finD_bo', rtD_fz, rtD_ow, rtD_bo, esc_fz, esc_ow, lkE_fz, lkE_ow, owE_ow, frzE_some, frzE_none, onT_kd, Option.bind_some, List.getElem?_cons_zero, List.getElem?_cons_succ, List.set_cons_zero, List.set_cons_succ, truD, setR_fz, setR_ow, setR_tp, setTg, setMany, tgS, wipeR, srcV, List.length_cons, List.length_nil, Nat.reduceAdd, Nat.reduceLT, ↓reduceIte, reduceCtorEq, intO, Bool.false_eq_true, decide_eq_true_eq, Bool.not_eq_true', decide_eq_false_iff_not, b_add, b_sub, b_mul1, b_mul2, b_mod, b_fdiv, m_rev, c_eqI, c_neI, c_eqB, c_lt, c_le, c_gt, c_ge, f_max, f_min, f_lenL, f_lenT, f_lenS, f_lenX, f_tupL, f_tupT, f_lstL, f_lstT, f_lstS, f_intB, f_intI, f_isB, k_seqL, k_seqT, k_seqS, at_0, at_1, at_2, at_3, x_lst, x_tup, Int.reduceLT, Int.reduceNeg, Int.reduceLE, List.length_map, Bool.or_self, Bool.not_true, Bool.not_false, f_isI, f_isIB, f_isBI, f_isL, f_isT, f_isS, c_is, c_isnt, isNon_non, isNon_tup, isNon_int, isNon_bl, isNon_lst, ne_eq, not_true_eq_false, not_false_eq_true, beq_self_eq_true, if_true, if_false, loopO_nx, loopO_ct, loopO_bk, loopO_rt, c_inT, c_ninT, c_inL, c_ninL, s_forq, lstO_lst, cat, e]
        refine ⟨_, .inl (go k kk e), fun c' m' => ?_, _, _, rfl⟩
        rcases List.mem_append.mp m' with m' | m'
        · exact no c' m'
        · rw [List.mem_singleton.mp m']
          exact ne
      · right; left
        have go : ∀ k, (k = .fz ∨ k = .ow) → ev (m + d + 2) 72 [.lst ((gs ++ [c]).map .int), .int many, pd, .int most] = some (k, .lst (g.map .int)) → forF (ev (m + d + 2)) (.nm 7) [.set (.nm 8) (.call 72 [.bin .add (.var 0) (.lst [.var 7]), .var 1, .var 2, .var 3]),
          .frz 8,
          .ite (.cmp .isnt (.var 8) (.non)) [.ret (.var 8)] []] (.int c) [fd (.lst (gs.map .int)), fi many, fd pd, fi most, fi gs.length, fd (.lst (cs.map .int)), fi (maxDI (-1) gs + 1), j7, j8] = some (.rt .fz (.lst (g.map .int))) := by
          rintro k (rfl | rfl) e
          · simp -implicitDefEqProofs only [forF, q_var, q_int, q_bl, q_non, q_str, q_glb, q_bin, q_cmp, q_chain, q_and, q_or, q_not, q_neg, q_ifx, q_tup, q_lst, q_ix, q_slc, q_call, q_bi, q_mt, q_lc, q_dnew, q_F0, q_F, q_B0, q_B, q_I0, q_I, q_O0, q_O, s_set, s_setix, s_ms, s_frz, s_ite, s_for, s_whl, s_ret, s_retn, s_brk, s_cnt, s_pass, s_expr, ss_nil, ss_cons, seqO_nx, seqO_rt, seqO_bk, seqO_ct, finD_nx, finD_fz, finD_ow, finD_bo', rtD_fz, rtD_ow, rtD_bo, esc_fz, esc_ow, lkE_fz, lkE_ow, owE_ow, frzE_some, frzE_none, onT_kd, Option.bind_some, List.getElem?_cons_zero, List.getElem?_cons_succ, List.set_cons_zero, List.set_cons_succ, truD, setR_fz, setR_ow, setR_tp, setTg, setMany, tgS, wipeR, srcV, List.length_cons, List.length_nil, Nat.reduceAdd, Nat.reduceLT, ↓reduceIte, reduceCtorEq, intO, Bool.false_eq_true, decide_eq_true_eq, Bool.not_eq_true', decide_eq_false_iff_not, b_add, b_sub, b_mul1, b_mul2, b_mod, b_fdiv, m_rev, c_eqI, c_neI, c_eqB, c_lt, c_le, c_gt, c_ge, f_max, f_min, f_lenL, f_lenT, f_lenS, f_lenX, f_tupL, f_tupT, f_lstL, f_lstT, f_lstS, f_intB, f_intI, f_isB, k_seqL, k_seqT, k_seqS, at_0, at_1, at_2, at_3, x_lst, x_tup, Int.reduceLT, Int.reduceNeg, Int.reduceLE, List.length_map, Bool.or_self, Bool.not_true, Bool.not_false, f_isI, f_isIB, f_isBI, f_isL, f_isT, f_isS, c_is, c_isnt, isNon_non, isNon_tup, isNon_int, isNon_bl, isNon_lst, ne_eq, not_true_eq_false, not_false_eq_true, beq_self_eq_true, if_true, if_false, loopO_nx, loopO_ct, loopO_bk, loopO_rt, c_inT, c_ninT, c_inL, c_ninL, s_forq, lstO_lst, cat, e]
          · simp -implicitDefEqProofs only [forF, q_var, q_int, q_bl, q_non, q_str, q_glb, q_bin, q_cmp, q_chain, q_and, q_or, q_not, q_neg, q_ifx, q_tup, q_lst, q_ix, q_slc, q_call, q_bi, q_mt, q_lc, q_dnew, q_F0, q_F, q_B0, q_B, q_I0, q_I, q_O0, q_O, s_set, s_setix, s_ms, s_frz, s_ite, s_for, s_whl, s_ret, s_retn, s_brk, s_cnt, s_pass, s_expr, ss_nil, ss_cons, seqO_nx, seqO_rt, seqO_bk, seqO_ct, finD_nx, finD_fz, finD_ow, finD_bo', rtD_fz, rtD_ow, rtD_bo, esc_fz, esc_ow, lkE_fz, lkE_ow, owE_ow, frzE_some, frzE_none, onT_kd, Option.bind_some, List.getElem?_cons_zero, List.getElem?_cons_succ, List.set_cons_zero, List.set_cons_succ, truD, setR_fz, setR_ow, setR_tp, setTg, setMany, tgS, wipeR, srcV, List.length_cons, List.length_nil, Nat.reduceAdd, Nat.reduceLT, ↓reduceIte, reduceCtorEq, intO, Bool.false_eq_true, decide_eq_true_eq, Bool.not_eq_true', decide_eq_false_iff_not, b_add, b_sub, b_mul1, b_mul2, b_mod, b_fdiv, m_rev, c_eqI, c_neI, c_eqB, c_lt, c_le, c_gt, c_ge, f_max, f_min, f_lenL, f_lenT, f_lenS, f_lenX, f_tupL, f_tupT, f_lstL, f_lstT, f_lstS, f_intB, f_intI, f_isB, k_seqL, k_seqT, k_seqS, at_0, at_1, at_2, at_3, x_lst, x_tup, Int.reduceLT, Int.reduceNeg, Int.reduceLE, List.length_map, Bool.or_self, Bool.not_true, Bool.not_false, f_isI, f_isIB, f_isBI, f_isL, f_isT, f_isS, c_is, c_isnt, isNon_non, isNon_tup, isNon_int, isNon_bl, isNon_lst, ne_eq, not_true_eq_false, not_false_eq_true, beq_self_eq_true, if_true, if_false, loopO_nx, loopO_ct, loopO_bk, loopO_rt, c_inT, c_ninT, c_inL, c_ninL, s_forq, lstO_lst, cat, e]
        exact ⟨_, _, go k kk e, rfl, g, rfl, gg, gl⟩)
    have eC : (if maxDI (-1) gs + 1 < (most : Int) then (openL A gs gs.length).map D.int ++ [D.int (maxDI (-1) gs + 1)] else (openL A gs gs.length).map D.int) = (cand A most gs).map D.int := by
      unfold cand
      split
      · rw [List.map_append]
        rfl
      · rw [List.append_nil]
    have run : ∀ o, forRun (forF (ev (m + d + 2)) (.nm 7) [.set (.nm 8) (.call 72 [.bin .add (.var 0) (.lst [.var 7]), .var 1, .var 2, .var 3]),
      .frz 8,
      .ite (.cmp .isnt (.var 8) (.non)) [.ret (.var 8)] []]) ((cand A most gs).map .int) [fd (.lst (gs.map .int)), fi many, fd pd, fi most, fi gs.length, fd (.lst ((cand A most gs).map .int)), fi (maxDI (-1) gs + 1), none, none] = o →
      ev (m + (d + 1) + 2) 72 [.lst (gs.map .int), .int many, pd, .int most] = finD (seqO o (evSs (ev (m + d + 2)) [.ret (.non)])) := by
      intro o ho
      rw [show m + (d + 1) + 2 = (m + d + 2) + 1 by omega, h72]
      rw [← eC] at ho
      have : R.run (ev (m + d + 2)) fn72 [.lst (gs.map .int), .int many, pd, .int most] = finD (evSs (ev (m + d + 2)) b72 [fd (.lst (gs.map .int)), fi many, fd pd, fi most, none, none, none, none, none]) := run_to rfl rfl
      rw [this]
      by_cases c : maxDI (-1) gs + 1 < (most : Int)
      · simp only [if_pos c] at ho
        simp -implicitDefEqProofs only [b72, q_var, q_int, q_bl, q_non, q_str, q_glb, q_bin, q_cmp, q_chain, q_and, q_or, q_not, q_neg, q_ifx, q_tup, q_lst, q_ix, q_slc, q_call, q_bi, q_mt, q_lc, q_dnew, q_F0, q_F, q_B0, q_B, q_I0, q_I, q_O0, q_O, s_set, s_setix, s_ms, s_frz, s_ite, s_for, s_whl, s_ret, s_retn, s_brk, s_cnt, s_pass, s_expr, ss_nil, ss_cons, seqO_nx, seqO_rt, seqO_bk, seqO_ct, finD_nx, finD_fz, finD_ow, finD_bo', rtD_fz, rtD_ow, rtD_bo, esc_fz, esc_ow, lkE_fz, lkE_ow, owE_ow, frzE_some, frzE_none, onT_kd, Option.bind_some, List.getElem?_cons_zero, List.getElem?_cons_succ, List.set_cons_zero, List.set_cons_succ, truD, setR_fz, setR_ow, setR_tp, setTg, setMany, tgS, wipeR, srcV, List.length_cons, List.length_nil, Nat.reduceAdd, Nat.reduceLT, ↓reduceIte, reduceCtorEq, intO, Bool.false_eq_true, decide_eq_true_eq, Bool.not_eq_true', decide_eq_false_iff_not, b_add, b_sub, b_mul1, b_mul2, b_mod, b_fdiv, m_rev, c_eqI, c_neI, c_eqB, c_lt, c_le, c_gt, c_ge, f_max, f_min, f_lenL, f_lenT, f_lenS, f_lenX, f_tupL, f_tupT, f_lstL, f_lstT, f_lstS, f_intB, f_intI, f_isB, k_seqL, k_seqT, k_seqS, at_0, at_1, at_2, at_3, x_lst, x_tup, Int.reduceLT, Int.reduceNeg, Int.reduceLE, List.length_map, Bool.or_self, Bool.not_true, Bool.not_false, f_isI, f_isIB, f_isBI, f_isL, f_isT, f_isS, c_is, c_isnt, isNon_non, isNon_tup, isNon_int, isNon_bl, isNon_lst, ne_eq, not_true_eq_false, not_false_eq_true, beq_self_eq_true, if_true, if_false, loopO_nx, loopO_ct, loopO_bk, loopO_rt, c_inT, c_ninT, c_inL, c_ninL, s_forq, lstO_lst, el, ko, f_maxd, if_pos c, ap, ho]
      · simp only [if_neg c] at ho
        simp -implicitDefEqProofs only [b72, q_var, q_int, q_bl, q_non, q_str, q_glb, q_bin, q_cmp, q_chain, q_and, q_or, q_not, q_neg, q_ifx, q_tup, q_lst, q_ix, q_slc, q_call, q_bi, q_mt, q_lc, q_dnew, q_F0, q_F, q_B0, q_B, q_I0, q_I, q_O0, q_O, s_set, s_setix, s_ms, s_frz, s_ite, s_for, s_whl, s_ret, s_retn, s_brk, s_cnt, s_pass, s_expr, ss_nil, ss_cons, seqO_nx, seqO_rt, seqO_bk, seqO_ct, finD_nx, finD_fz, finD_ow, finD_bo', rtD_fz, rtD_ow, rtD_bo, esc_fz, esc_ow, lkE_fz, lkE_ow, owE_ow, frzE_some, frzE_none, onT_kd, Option.bind_some, List.getElem?_cons_zero, List.getElem?_cons_succ, List.set_cons_zero, List.set_cons_succ, truD, setR_fz, setR_ow, setR_tp, setTg, setMany, tgS, wipeR, srcV, List.length_cons, List.length_nil, Nat.reduceAdd, Nat.reduceLT, ↓reduceIte, reduceCtorEq, intO, Bool.false_eq_true, decide_eq_true_eq, Bool.not_eq_true', decide_eq_false_iff_not, b_add, b_sub, b_mul1, b_mul2, b_mod, b_fdiv, m_rev, c_eqI, c_neI, c_eqB, c_lt, c_le, c_gt, c_ge, f_max, f_min, f_lenL, f_lenT, f_lenS, f_lenX, f_tupL, f_tupT, f_lstL, f_lstT, f_lstS, f_intB, f_intI, f_isB, k_seqL, k_seqT, k_seqS, at_0, at_1, at_2, at_3, x_lst, x_tup, Int.reduceLT, Int.reduceNeg, Int.reduceLE, List.length_map, Bool.or_self, Bool.not_true, Bool.not_false, f_isI, f_isIB, f_isBI, f_isL, f_isT, f_isS, c_is, c_isnt, isNon_non, isNon_tup, isNon_int, isNon_bl, isNon_lst, ne_eq, not_true_eq_false, not_false_eq_true, beq_self_eq_true, if_true, if_false, loopO_nx, loopO_ct, loopO_bk, loopO_rt, c_inT, c_ninT, c_inL, c_ninL, s_forq, lstO_lst, el, ko, f_maxd, if_neg c, ho]
    rcases L with ⟨ρ, e, no, j7, j8, rfl⟩ | ⟨k, r, e, rfl, g, rfl, gg, gl⟩ | ⟨ρ, _, h⟩
    · refine ⟨.fz, .non, ?_, .inl rfl, .inl ⟨rfl, fun x => ?_⟩⟩
      · rw [run _ e]
        simp -implicitDefEqProofs only [q_var, q_int, q_bl, q_non, q_str, q_glb, q_bin, q_cmp, q_chain, q_and, q_or, q_not, q_neg, q_ifx, q_tup, q_lst, q_ix, q_slc, q_call, q_bi, q_mt, q_lc, q_dnew, q_F0, q_F, q_B0, q_B, q_I0, q_I, q_O0, q_O, s_set, s_setix, s_ms, s_frz, s_ite, s_for, s_whl, s_ret, s_retn, s_brk, s_cnt, s_pass, s_expr, ss_nil, ss_cons, seqO_nx, seqO_rt, seqO_bk, seqO_ct, finD_nx, finD_fz, finD_ow, finD_bo', rtD_fz, rtD_ow, rtD_bo, esc_fz, esc_ow, lkE_fz, lkE_ow, owE_ow, frzE_some, frzE_none, onT_kd, Option.bind_some, List.getElem?_cons_zero, List.getElem?_cons_succ, List.set_cons_zero, List.set_cons_succ, truD, setR_fz, setR_ow, setR_tp, setTg, setMany, tgS, wipeR, srcV, List.length_cons, List.length_nil, Nat.reduceAdd, Nat.reduceLT, ↓reduceIte, reduceCtorEq, intO, Bool.false_eq_true, decide_eq_true_eq, Bool.not_eq_true', decide_eq_false_iff_not, b_add, b_sub, b_mul1, b_mul2, b_mod, b_fdiv, m_rev, c_eqI, c_neI, c_eqB, c_lt, c_le, c_gt, c_ge, f_max, f_min, f_lenL, f_lenT, f_lenS, f_lenX, f_tupL, f_tupT, f_lstL, f_lstT, f_lstS, f_intB, f_intI, f_isB, k_seqL, k_seqT, k_seqS, at_0, at_1, at_2, at_3, x_lst, x_tup, Int.reduceLT, Int.reduceNeg, Int.reduceLE, List.length_map, Bool.or_self, Bool.not_true, Bool.not_false, f_isI, f_isIB, f_isBI, f_isL, f_isT, f_isS, c_is, c_isnt, isNon_non, isNon_tup, isNon_int, isNon_bl, isNon_lst, ne_eq, not_true_eq_false, not_false_eq_true, beq_self_eq_true, if_true, if_false, loopO_nx, loopO_ct, loopO_bk, loopO_rt, c_inT, c_ninT, c_inL, c_ninL, s_forq, lstO_lst]
      · obtain ⟨c, mm, hx⟩ := step x
        rw [List.take_of_length_le (by rw [List.length_map]; exact Nat.le_refl _)] at no
        exact no c mm hx
    · refine ⟨.fz, _, ?_, .inl rfl, .inr ⟨g, rfl, gg, gl⟩⟩
      rw [run _ e]
      simp -implicitDefEqProofs only [q_var, q_int, q_bl, q_non, q_str, q_glb, q_bin, q_cmp, q_chain, q_and, q_or, q_not, q_neg, q_ifx, q_tup, q_lst, q_ix, q_slc, q_call, q_bi, q_mt, q_lc, q_dnew, q_F0, q_F, q_B0, q_B, q_I0, q_I, q_O0, q_O, s_set, s_setix, s_ms, s_frz, s_ite, s_for, s_whl, s_ret, s_retn, s_brk, s_cnt, s_pass, s_expr, ss_nil, ss_cons, seqO_nx, seqO_rt, seqO_bk, seqO_ct, finD_nx, finD_fz, finD_ow, finD_bo', rtD_fz, rtD_ow, rtD_bo, esc_fz, esc_ow, lkE_fz, lkE_ow, owE_ow, frzE_some, frzE_none, onT_kd, Option.bind_some, List.getElem?_cons_zero, List.getElem?_cons_succ, List.set_cons_zero, List.set_cons_succ, truD, setR_fz, setR_ow, setR_tp, setTg, setMany, tgS, wipeR, srcV, List.length_cons, List.length_nil, Nat.reduceAdd, Nat.reduceLT, ↓reduceIte, reduceCtorEq, intO, Bool.false_eq_true, decide_eq_true_eq, Bool.not_eq_true', decide_eq_false_iff_not, b_add, b_sub, b_mul1, b_mul2, b_mod, b_fdiv, m_rev, c_eqI, c_neI, c_eqB, c_lt, c_le, c_gt, c_ge, f_max, f_min, f_lenL, f_lenT, f_lenS, f_lenX, f_tupL, f_tupT, f_lstL, f_lstT, f_lstS, f_intB, f_intI, f_isB, k_seqL, k_seqT, k_seqS, at_0, at_1, at_2, at_3, x_lst, x_tup, Int.reduceLT, Int.reduceNeg, Int.reduceLE, List.length_map, Bool.or_self, Bool.not_true, Bool.not_false, f_isI, f_isIB, f_isBI, f_isL, f_isT, f_isS, c_is, c_isnt, isNon_non, isNon_tup, isNon_int, isNon_bl, isNon_lst, ne_eq, not_true_eq_false, not_false_eq_true, beq_self_eq_true, if_true, if_false, loopO_nx, loopO_ct, loopO_bk, loopO_rt, c_inT, c_ninT, c_inL, c_ninL, s_forq, lstO_lst]
    · exact h.elim
end RL

set_option linter.all false
set_option maxHeartbeats 4000000
namespace RL
open PySem R L2
abbrev LAWN : Nat := 104
def tbl : List (Nat × Fn) := [(70, fn70), (71, fn71), (72, fn72), (73, fn73), (6, fn6), (35, fn35), (49, fn49), (67, fn67), (103, fn103), (104, fn104)]
theorem ext_id {A : Int → Int → Bool} {n : Nat} : Ext A n n [] := ⟨fun i => i, fun i hi => by show 0 ≤ (i : Int) ∧ (i : Int) < n; omega, fun i j ij hj _ => by show (i : Int) ≠ j; omega, fun i c h => by simp at h⟩
def Col (A : Int → Int → Bool) (m n : Nat) : Prop := Ext A m n []
theorem col_mk {A : Int → Int → Bool} {m n : Nat} (f : Nat → Int) (h1 : ∀ i, i < n → 0 ≤ f i ∧ f i < m) (h2 : ∀ i j : Nat, i < j → j < n → A (i : Int) (j : Int) = true → f i ≠ f j) : Col A m n := ⟨f, h1, h2, fun i c h => by simp at h⟩
def IsChi (A : Int → Int → Bool) (n m : Nat) : Prop := Col A m n ∧ ∀ m', m' < m → ¬ Col A m' n
/-- what is told of the fewest -/
def Fewest (A : Int → Int → Bool) (n : Nat) (d : D) : Prop := ∃ (m : Nat) (g : List Int), d = .tup [.int m, .lst (g.map .int)] ∧ IsChi A n m ∧ GG A m g ∧ g.length = n ∧ m ≤ n
theorem r_fewest (cl) (C : List (Int × Int)) (A : Int → Int → Bool) (n : Nat) (hn : n ≤ 100) (pd : D) (c70 : cl 70 [.lst (C.map pD)] = some (.ow, pd))
    (c72 : ∀ most : Nat, most ≤ 100 → ∃ k r, cl 72 [.lst [], .int n, pd, .int most] = some (k, r) ∧ (k = .fz ∨ k = .ow) ∧ ((r = .non ∧ ¬ Ext A most n []) ∨ ∃ g : List Int, r = .lst (g.map .int) ∧ GG A most g ∧ g.length = n)) :
    ∃ d, R.run cl fn73 [.int n, .lst (C.map pD)] = fd d ∧ Fewest A n d := by
  have L := forRun_JE (F := forF cl (.nm 3) [.set (.nm 4) (.call 72 [.lst [], .var 0, .var 2, .var 3]),
    .frz 4,
    .ite (.cmp .isnt (.var 4) (.non)) [.ret (.tup [.var 3, .var 4])] []]) (fun k r => k = .fz ∧ Fewest A n r) (fun _ => False) ((rangeL 0 ((n : Int) + 1)).map .int)
    (fun i ρ => (∀ m', m' < i → ¬ Col A m' n) ∧ ∃ (j3 j4 : Option (Kd × D)), ρ = [fi n, fd (.lst (C.map pD)), fd pd, j3, j4])
    [fi n, fd (.lst (C.map pD)), fd pd, none, none] ⟨fun m' h => absurd h (Nat.not_lt_zero m'), _, _, rfl⟩ (by
    rintro i x ρ hx ⟨no, j3, j4, rfl⟩
    obtain ⟨k, hk, rfl⟩ := get_map_int hx
    obtain ⟨ek, k0, k1⟩ := get_range hk
    have ek : k = (i : Int) := by omega
    subst ek
    obtain ⟨kk, r, e, kd, h⟩ := c72 i (by omega)
    rcases h with ⟨rfl, ne⟩ | ⟨g, rfl, gg, gl⟩
    · left
      have go : ∀ kk, (kk = .fz ∨ kk = .ow) → cl 72 [.lst [], .int n, pd, .int i] = some (kk, .non) → forF cl (.nm 3) [.set (.nm 4) (.call 72 [.lst [], .var 0, .var 2, .var 3]),
          .frz 4,
          .ite (.cmp .isnt (.var 4) (.non)) [.ret (.tup [.var 3, .var 4])] []] (.int i) [fi n, fd (.lst (C.map pD)), fd pd, j3, j4] = some (.nx [fi n, fd (.lst (C.map pD)), fd pd, fi i, fd .non]) := by
        rintro k (rfl | rfl) e
        · simp -implicitDefEqProofs only [forF, q_var, q_int, q_bl, q_non, q_str, q_glb, q_bin, q_cmp, q_chain, q_and, q_or, q_not, q_neg, q_ifx, q_tup, q_lst, q_ix, q_slc, q_call, q_bi, q_mt, q_lc, q_dnew, q_F0, q_F, q_B0, q_B, q_I0, q_I, q_O0, q_O, s_set, s_setix, s_ms, s_frz, s_ite, s_for, s_whl, s_ret, s_retn, s_brk, s_cnt, s_pass, s_expr, ss_nil, ss_cons, seqO_nx, seqO_rt, seqO_bk, seqO_ct, finD_nx, finD_fz, finD_ow, finD_bo', rtD_fz, rtD_ow, rtD_bo, esc_fz, esc_ow, lkE_fz, lkE_ow, owE_ow, frzE_some, frzE_none, onT_kd, Option.bind_some, List.getElem?_cons_zero, List.getElem?_cons_succ, List.set_cons_zero, List.set_cons_succ, truD, setR_fz, setR_ow, setR_tp, setTg, setMany, tgS, wipeR, srcV, List.length_cons, List.length_nil, Nat.reduceAdd, Nat.reduceLT, ↓reduceIte, reduceCtorEq, intO, Bool.false_eq_true, decide_eq_true_eq, Bool.not_eq_true', decide_eq_false_iff_not, b_add, b_sub, b_mul1, b_mul2, b_mod, b_fdiv, m_rev, c_eqI, c_neI, c_eqB, c_lt, c_le, c_gt, c_ge, f_max, f_min, f_lenL, f_lenT, f_lenS, f_lenX, f_tupL, f_tupT, f_lstL, f_lstT, f_lstS, f_intB, f_intI, f_isB, k_seqL, k_seqT, k_seqS, at_0, at_1, at_2, at_3, x_lst, x_tup, Int.reduceLT, Int.reduceNeg, Int.reduceLE, List.length_map, Bool.or_self, Bool.not_true, Bool.not_false, f_isI, f_isIB, f_isBI, f_isL, f_isT, f_isS, c_is, c_isnt, isNon_non, isNon_tup, isNon_int, isNon_bl, isNon_lst, ne_eq, not_true_eq_false, not_false_eq_true, beq_self_eq_true, if_true, if_false, loopO_nx, loopO_ct, loopO_bk, loopO_rt, c_inT, c_ninT, c_inL, c_ninL, s_forq, lstO_lst, e]
        · simp -implicitDefEqProofs only [forF, q_var, q_int, q_bl, q_non, q_str, q_glb, q_bin, q_cmp, q_chain, q_and, q_or, q_not, q_neg, q_ifx, q_tup, q_lst, q_ix, q_slc, q_call, q_bi, q_mt, q_lc, q_dnew, q_F0, q_F, q_B0, q_B, q_I0, q_I, q_O0, q_O, s_set, s_setix, s_ms, s_frz, s_ite, s_for, s_whl, s_ret, s_retn, s_brk, s_cnt, s_pass, s_expr, ss_nil, ss_cons, seqO_nx, seqO_rt, seqO_bk, seqO_ct, finD_nx, finD_fz, finD_ow, finD_bo', rtD_fz, rtD_ow, rtD_bo, esc_fz, esc_ow, lkE_fz, lkE_ow, owE_ow, frzE_some, frzE_none, onT_kd, Option.bind_some, List.getElem?_cons_zero, List.getElem?_cons_succ, List.set_cons_zero, List.set_cons_succ, truD, setR_fz, setR_ow, setR_tp, setTg, setMany, tgS, wipeR, srcV, List.length_cons, List.length_nil, Nat.reduceAdd, Nat.reduceLT, ↓reduceIte, reduceCtorEq, intO, Bool.false_eq_true, decide_eq_true_eq, Bool.not_eq_true', decide_eq_false_iff_not, b_add, b_sub, b_mul1, b_mul2, b_mod, b_fdiv, m_rev, c_eqI, c_neI, c_eqB, c_lt, c_le, c_gt, c_ge, f_max, f_min, f_lenL, f_lenT, f_lenS, f_lenX, f_tupL, f_tupT, f_lstL, f_lstT, f_lstS, f_intB, f_intI, f_isB, k_seqL, k_seqT, k_seqS, at_0, at_1, at_2, at_3, x_lst, x_tup, Int.reduceLT, Int.reduceNeg, Int.reduceLE, List.length_map, Bool.or_self, Bool.not_true, Bool.not_false, f_isI, f_isIB, f_isBI, f_isL, f_isT, f_isS, c_is, c_isnt, isNon_non, isNon_tup, isNon_int, isNon_bl, isNon_lst, ne_eq, not_true_eq_false, not_false_eq_true, beq_self_eq_true, if_true, if_false, loopO_nx, loopO_ct, loopO_bk, loopO_rt, c_inT, c_ninT, c_inL, c_ninL, s_forq, lstO_lst, e]
      refine ⟨_, .inl (go kk kd e), fun m' h => ?_, _, _, rfl⟩
      rcases Nat.lt_or_ge m' i with c | c
      · exact no m' c
      · have : m' = i := by omega
        subst this
        exact ne
    · right; left
      have go : ∀ kk, (kk = .fz ∨ kk = .ow) → cl 72 [.lst [], .int n, pd, .int i] = some (kk, .lst (g.map .int)) → forF cl (.nm 3) [.set (.nm 4) (.call 72 [.lst [], .var 0, .var 2, .var 3]),
          .frz 4,
          .ite (.cmp .isnt (.var 4) (.non)) [.ret (.tup [.var 3, .var 4])] []] (.int i) [fi n, fd (.lst (C.map pD)), fd pd, j3, j4] = some (.rt .fz (.tup [.int i, .lst (g.map .int)])) := by
        rintro k (rfl | rfl) e
        · simp -implicitDefEqProofs only [forF, q_var, q_int, q_bl, q_non, q_str, q_glb, q_bin, q_cmp, q_chain, q_and, q_or, q_not, q_neg, q_ifx, q_tup, q_lst, q_ix, q_slc, q_call, q_bi, q_mt, q_lc, q_dnew, q_F0, q_F, q_B0, q_B, q_I0, q_I, q_O0, q_O, s_set, s_setix, s_ms, s_frz, s_ite, s_for, s_whl, s_ret, s_retn, s_brk, s_cnt, s_pass, s_expr, ss_nil, ss_cons, seqO_nx, seqO_rt, seqO_bk, seqO_ct, finD_nx, finD_fz, finD_ow, finD_bo', rtD_fz, rtD_ow, rtD_bo, esc_fz, esc_ow, lkE_fz, lkE_ow, owE_ow, frzE_some, frzE_none, onT_kd, Option.bind_some, List.getElem?_cons_zero, List.getElem?_cons_succ, List.set_cons_zero, List.set_cons_succ, truD, setR_fz, setR_ow, setR_tp, setTg, setMany, tgS, wipeR, srcV, List.length_cons, List.length_nil, Nat.reduceAdd, Nat.reduceLT, ↓reduceIte, reduceCtorEq, intO, Bool.false_eq_true, decide_eq_true_eq, Bool.not_eq_true', decide_eq_false_iff_not, b_add, b_sub, b_mul1, b_mul2, b_mod, b_fdiv, m_rev, c_eqI, c_neI, c_eqB, c_lt, c_le, c_gt, c_ge, f_max, f_min, f_lenL, f_lenT, f_lenS, f_lenX, f_tupL, f_tupT, f_lstL, f_lstT, f_lstS, f_intB, f_intI, f_isB, k_seqL, k_seqT, k_seqS, at_0, at_1, at_2, at_3, x_lst, x_tup, Int.reduceLT, Int.reduceNeg, Int.reduceLE, List.length_map, Bool.or_self, Bool.not_true, Bool.not_false, f_isI, f_isIB, f_isBI, f_isL, f_isT, f_isS, c_is, c_isnt, isNon_non, isNon_tup, isNon_int, isNon_bl, isNon_lst, ne_eq, not_true_eq_false, not_false_eq_true, beq_self_eq_true, if_true, if_false, loopO_nx, loopO_ct, loopO_bk, loopO_rt, c_inT, c_ninT, c_inL, c_ninL, s_forq, lstO_lst, e]
        · simp -implicitDefEqProofs only [forF, q_var, q_int, q_bl, q_non, q_str, q_glb, q_bin, q_cmp, q_chain, q_and, q_or, q_not, q_neg, q_ifx, q_tup, q_lst, q_ix, q_slc, q_call, q_bi, q_mt, q_lc, q_dnew, q_F0, q_F, q_B0, q_B, q_I0, q_I, q_O0, q_O, s_set, s_setix, s_ms, s_frz, s_ite, s_for, s_whl, s_ret, s_retn, s_brk, s_cnt, s_pass, s_expr, ss_nil, ss_cons, seqO_nx, seqO_rt, seqO_bk, seqO_ct, finD_nx, finD_fz, finD_ow, finD_bo', rtD_fz, rtD_ow, rtD_bo, esc_fz, esc_ow, lkE_fz, lkE_ow, owE_ow, frzE_some, frzE_none, onT_kd, Option.bind_some, List.getElem?_cons_zero, List.getElem?_cons_succ, List.set_cons_zero, List.set_cons_succ, truD, setR_fz, setR_ow, setR_tp, setTg, setMany, tgS, wipeR, srcV, List.length_cons, List.length_nil, Nat.reduceAdd, Nat.reduceLT, ↓reduceIte, reduceCtorEq, intO, Bool.false_eq_true, decide_eq_true_eq, Bool.not_eq_true', decide_eq_false_iff_not, b_add, b_sub, b_mul1, b_mul2, b_mod, b_fdiv, m_rev, c_eqI, c_neI, c_eqB, c_lt, c_le, c_gt, c_ge, f_max, f_min, f_lenL, f_lenT, f_lenS, f_lenX, f_tupL, f_tupT, f_lstL, f_lstT, f_lstS, f_intB, f_intI, f_isB, k_seqL, k_seqT, k_seqS, at_0, at_1, at_2, at_3, x_lst, x_tup, Int.reduceLT, Int.reduceNeg, Int.reduceLE, List.length_map, Bool.or_self, Bool.not_true, Bool.not_false, f_isI, f_isIB, f_isBI, f_isL, f_isT, f_isS, c_is, c_isnt, isNon_non, isNon_tup, isNon_int, isNon_bl, isNon_lst, ne_eq, not_true_eq_false, not_false_eq_true, beq_self_eq_true, if_true, if_false, loopO_nx, loopO_ct, loopO_bk, loopO_rt, c_inT, c_ninT, c_inL, c_ninL, s_forq, lstO_lst, e]
      have ex : Col A i n := by
        have := ext_full gg
        rw [gl] at this
        obtain ⟨f, f1, f2, f3⟩ := this
        exact col_mk f f1 f2
      exact ⟨_, _, go kk kd e, rfl, i, g, rfl, ⟨ex, no⟩, gg, gl, by omega⟩)
  have hd : ∀ o, forRun (forF cl (.nm 3) [.set (.nm 4) (.call 72 [.lst [], .var 0, .var 2, .var 3]),
    .frz 4,
    .ite (.cmp .isnt (.var 4) (.non)) [.ret (.tup [.var 3, .var 4])] []]) ((rangeL 0 ((n : Int) + 1)).map .int) [fi n, fd (.lst (C.map pD)), fd pd, none, none] = o → R.run cl fn73 [.int n, .lst (C.map pD)] = finD (seqO o (evSs cl [.ret (.tup [.var 0, .bi .lstRange [.var 0]])])) := fun o ho => by
    refine run_to rfl ?_
    show finD (evSs cl b73 [fi n, fd (.lst (C.map pD)), none, none, none]) = _
    simp -implicitDefEqProofs only [b73, q_var, q_int, q_bl, q_non, q_str, q_glb, q_bin, q_cmp, q_chain, q_and, q_or, q_not, q_neg, q_ifx, q_tup, q_lst, q_ix, q_slc, q_call, q_bi, q_mt, q_lc, q_dnew, q_F0, q_F, q_B0, q_B, q_I0, q_I, q_O0, q_O, s_set, s_setix, s_ms, s_frz, s_ite, s_for, s_whl, s_ret, s_retn, s_brk, s_cnt, s_pass, s_expr, ss_nil, ss_cons, seqO_nx, seqO_rt, seqO_bk, seqO_ct, finD_nx, finD_fz, finD_ow, finD_bo', rtD_fz, rtD_ow, rtD_bo, esc_fz, esc_ow, lkE_fz, lkE_ow, owE_ow, frzE_some, frzE_none, onT_kd, Option.bind_some, List.getElem?_cons_zero, List.getElem?_cons_succ, List.set_cons_zero, List.set_cons_succ, truD, setR_fz, setR_ow, setR_tp, setTg, setMany, tgS, wipeR, srcV, List.length_cons, List.length_nil, Nat.reduceAdd, Nat.reduceLT, ↓reduceIte, reduceCtorEq, intO, Bool.false_eq_true, decide_eq_true_eq, Bool.not_eq_true', decide_eq_false_iff_not, b_add, b_sub, b_mul1, b_mul2, b_mod, b_fdiv, m_rev, c_eqI, c_neI, c_eqB, c_lt, c_le, c_gt, c_ge, f_max, f_min, f_lenL, f_lenT, f_lenS, f_lenX, f_tupL, f_tupT, f_lstL, f_lstT, f_lstS, f_intB, f_intI, f_isB, k_seqL, k_seqT, k_seqS, at_0, at_1, at_2, at_3, x_lst, x_tup, Int.reduceLT, Int.reduceNeg, Int.reduceLE, List.length_map, Bool.or_self, Bool.not_true, Bool.not_false, f_isI, f_isIB, f_isBI, f_isL, f_isT, f_isS, c_is, c_isnt, isNon_non, isNon_tup, isNon_int, isNon_bl, isNon_lst, ne_eq, not_true_eq_false, not_false_eq_true, beq_self_eq_true, if_true, if_false, loopO_nx, loopO_ct, loopO_bk, loopO_rt, c_inT, c_ninT, c_inL, c_ninL, s_forq, lstO_lst, c70, k_rng1 (show -100000 ≤ (n : Int) + 1 by omega) (by omega), ho]
  rcases L with ⟨ρ, e, no, _⟩ | ⟨k, r, e, rfl, F⟩ | ⟨ρ, _, h⟩
  · rw [List.length_map, len_rangeL] at no
    exact absurd ext_id (no n (by omega))
  · exact ⟨r, by rw [hd _ e]; simp -implicitDefEqProofs only [q_var, q_int, q_bl, q_non, q_str, q_glb, q_bin, q_cmp, q_chain, q_and, q_or, q_not, q_neg, q_ifx, q_tup, q_lst, q_ix, q_slc, q_call, q_bi, q_mt, q_lc, q_dnew, q_F0, q_F, q_B0, q_B, q_I0, q_I, q_O0, q_O, s_set, s_setix, s_ms, s_frz, s_ite, s_for, s_whl, s_ret, s_retn, s_brk, s_cnt, s_pass, s_expr, ss_nil, ss_cons, seqO_nx, seqO_rt, seqO_bk, seqO_ct, finD_nx, finD_fz, finD_ow, finD_bo', rtD_fz, rtD_ow, rtD_bo, esc_fz, esc_ow, lkE_fz, lkE_ow, owE_ow, frzE_some, frzE_none, onT_kd, Option.bind_some, List.getElem?_cons_zero, List.getElem?_cons_succ, List.set_cons_zero, List.set_cons_succ, truD, setR_fz, setR_ow, setR_tp, setTg, setMany, tgS, wipeR, srcV, List.length_cons, List.length_nil, Nat.reduceAdd, Nat.reduceLT, ↓reduceIte, reduceCtorEq, intO, Bool.false_eq_true, decide_eq_true_eq, Bool.not_eq_true', decide_eq_false_iff_not, b_add, b_sub, b_mul1, b_mul2, b_mod, b_fdiv, m_rev, c_eqI, c_neI, c_eqB, c_lt, c_le, c_gt, c_ge, f_max, f_min, f_lenL, f_lenT, f_lenS, f_lenX, f_tupL, f_tupT, f_lstL, f_lstT, f_lstS, f_intB, f_intI, f_isB, k_seqL, k_seqT, k_seqS, at_0, at_1, at_2, at_3, x_lst, x_tup, Int.reduceLT, Int.reduceNeg, Int.reduceLE, List.length_map, Bool.or_self, Bool.not_true, Bool.not_false, f_isI, f_isIB, f_isBI, f_isL, f_isT, f_isS, c_is, c_isnt, isNon_non, isNon_tup, isNon_int, isNon_bl, isNon_lst, ne_eq, not_true_eq_false, not_false_eq_true, beq_self_eq_true, if_true, if_false, loopO_nx, loopO_ct, loopO_bk, loopO_rt, c_inT, c_ninT, c_inL, c_ninL, s_forq, lstO_lst], F⟩
  · exact h.elim
/-! ### the law's numbers -/
theorem chi_eq {A B : Int → Int → Bool} {n n' m m' : Nat} (h : ∀ k, Col A k n ↔ Col B k n') (a : IsChi A n m) (b : IsChi B n' m') : m = m' := by
  rcases Nat.lt_trichotomy m m' with c | c | c
  · exact absurd ((h m).mp a.1) (b.2 m c)
  · exact c
  · exact absurd ((h m').mpr b.1) (a.2 m' c)
theorem chi_min {A B E : Int → Int → Bool} {n n1 n2 m m1 m2 : Nat} (h : ∀ k, Col A k n ↔ Col B k n1 ∨ Col E k n2) (a : IsChi A n m) (b : IsChi B n1 m1) (e : IsChi E n2 m2) : m = min m1 m2 := by
  have h1 : ¬ m1 < m := fun c => a.2 m1 c ((h m1).mpr (.inl b.1))
  have h2 : ¬ m2 < m := fun c => a.2 m2 c ((h m2).mpr (.inr e.1))
  rcases (h m).mp a.1 with c | c
  · have : ¬ m < m1 := fun z => b.2 m z c
    omega
  · have : ¬ m < m2 := fun z => e.2 m z c
    omega
theorem chi_succ {A B : Int → Int → Bool} {n n' m m' : Nat} (h : ∀ k, Col A k n ↔ Col B (k + 1) n') (h0 : ¬ Col B 0 n') (a : IsChi A n m) (b : IsChi B n' m') : m' = m + 1 := by
  rcases Nat.lt_trichotomy m' (m + 1) with c | c | c
  · cases m' with
    | zero => exact absurd b.1 h0
    | succ k => exact absurd ((h k).mpr b.1) (a.2 k (by omega))
  · exact c
  · exact absurd ((h m).mp a.1) (b.2 (m + 1) c)
theorem adj_out {C : List (Int × Int)} {n : Nat} (G : CGood n C) {i : Nat} : adjB C (i : Int) (n : Int) = false := by
  unfold adjB
  rw [Bool.or_eq_false_iff, decide_eq_false_iff_not, decide_eq_false_iff_not]
  refine ⟨fun m => ?_, fun m => ?_⟩
  · have := (G _ m).2.2
    simp only at this
    omega
  · have := G _ m
    simp only at this
    omega
theorem adj_lt {C : List (Int × Int)} {n : Int} (G : CGood n C) {a b : Int} (h : a < b) : adjB C a b = decide ((a, b) ∈ C) := by
  unfold adjB
  rw [decide_eq_false (p := (b, a) ∈ C) (fun m => by have := (G _ m).2.1; simp only at this; omega), Bool.or_false]
/-- a part more that clashes with none -/
theorem col_more {C : List (Int × Int)} {n : Nat} (G : CGood n C) (hn : 1 ≤ n) (k : Nat) : Col (adjB C) k (n + 1) ↔ Col (adjB C) k n := by
  constructor
  · rintro ⟨f, f1, f2, _⟩
    exact col_mk f (fun i hi => f1 i (by omega)) fun i j ij hj => f2 i j ij (by omega)
  · rintro ⟨f, f1, f2, _⟩
    have h0 := f1 0 (by omega)
    refine col_mk (fun i => if i < n then f i else 0) (fun i hi => ?_) fun i j ij hj ha => ?_
    · show 0 ≤ (if i < n then f i else 0) ∧ (if i < n then f i else 0) < (k : Int)
      split
      · rename_i c
        exact f1 i c
      · omega
    · show (if i < n then f i else 0) ≠ (if j < n then f j else 0)
      rw [if_pos (show i < n by omega)]
      by_cases c : j < n
      · rw [if_pos c]
        exact f2 i j ij c ha
      · have : j = n := by omega
        subst this
        rw [adj_out G] at ha
        cases ha
def allL (n : Nat) : List (Int × Int) := (rangeL 0 n).map fun p => (p, (n : Int))
theorem adj_all {C : List (Int × Int)} {n i : Nat} (hi : i < n) : adjB (C ++ allL n) (i : Int) (n : Int) = true := by
  unfold adjB allL
  rw [Bool.or_eq_true, decide_eq_true_eq]
  left
  refine List.mem_append_right _ (List.mem_map.mpr ⟨(i : Int), mem_rangeL.mpr (by omega), rfl⟩)
theorem adj_all2 {C : List (Int × Int)} {n i j : Nat} (hi : i < n) (hj : j < n) : adjB (C ++ allL n) (i : Int) (j : Int) = adjB C i j := by
  unfold adjB
  have h : ∀ a b : Nat, b < n → ((((a : Int), (b : Int)) ∈ C ++ allL n) ↔ ((a : Int), (b : Int)) ∈ C) := fun a b hb => by
    rw [List.mem_append]
    refine ⟨fun z => z.elim id fun m => ?_, .inl⟩
    unfold allL at m
    obtain ⟨p, _, e⟩ := List.mem_map.mp m
    have := congrArg Prod.snd e
    simp only at this
    omega
  rw [decide_eq_decide.mpr (h i j hj), decide_eq_decide.mpr (h j i hi)]
/-- .. with all -/
theorem col_all {C : List (Int × Int)} {n : Nat} (k : Nat) : Col (adjB C) k n ↔ Col (adjB (C ++ allL n)) (k + 1) (n + 1) := by
  constructor
  · rintro ⟨f, f1, f2, _⟩
    refine col_mk (fun i => if i < n then f i else k) (fun i hi => ?_) fun i j ij hj ha => ?_
    · show 0 ≤ (if i < n then f i else (k : Int)) ∧ (if i < n then f i else (k : Int)) < ((k + 1 : Nat) : Int)
      split
      · rename_i c
        have := f1 i c
        omega
      · omega
    · show (if i < n then f i else (k : Int)) ≠ (if j < n then f j else (k : Int))
      rw [if_pos (show i < n by omega)]
      by_cases c : j < n
      · rw [if_pos c]
        rw [adj_all2 (by omega) c] at ha
        exact f2 i j ij c ha
      · rw [if_neg c]
        have := f1 i (by omega)
        omega
  · rintro ⟨f, f1, f2, _⟩
    refine col_mk (fun i => if f i = (k : Int) then f n else f i) (fun i hi => ?_) fun i j ij hj ha => ?_
    · have h1 := f1 i (by omega)
      have h2 := f1 n (by omega)
      have h3 := f2 i n hi (by omega) (adj_all hi)
      show 0 ≤ (if f i = (k : Int) then f n else f i) ∧ (if f i = (k : Int) then f n else f i) < (k : Int)
      split <;> omega
    · have h3 := f2 i n (by omega) (by omega) (adj_all (by omega))
      have h4 := f2 j n hj (by omega) (adj_all hj)
      have h5 := f2 i j ij (by omega) (by rw [adj_all2 (by omega) hj]; exact ha)
      show (if f i = (k : Int) then f n else f i) ≠ (if f j = (k : Int) then f n else f j)
      split <;> split <;> omega
/-! ### two parts as one -/
def phi (i j x : Int) : Int := (if x = j then i else x) - (if j < (if x = j then i else x) then 1 else 0)
def endsP (i j : Int) (q : Int × Int) : Int × Int := (min (phi i j q.1) (phi i j q.2), max (phi i j q.1) (phi i j q.2))
def psi (j x : Int) : Int := if x < j then x else x + 1
theorem psi_phi {i j x : Int} (hij : i < j) : psi j (phi i j x) = if x = j then i else x := by
  unfold psi phi
  by_cases h : x = j
  · rw [if_pos h, if_neg (show ¬ j < i by omega), if_pos (show i - 0 < j by omega)]
    omega
  · rw [if_neg h]
    by_cases h2 : j < x
    · rw [if_pos h2, if_neg (by omega)]
      omega
    · rw [if_neg h2, if_pos (by omega)]
      omega
theorem phi_bd {i j x n : Int} (i0 : 0 ≤ i) (hij : i < j) (hj : j < n) (x0 : 0 ≤ x) (x1 : x < n) : 0 ≤ phi i j x ∧ phi i j x < n - 1 := by
  unfold phi
  split <;> split <;> omega
theorem col_one {C E : List (Int × Int)} {n i j : Nat} (G : CGood n C) (hij : i < j) (hj : j < n) (hno : ((i : Int), (j : Int)) ∉ C) (hE : ∀ q, q ∈ E ↔ ∃ p ∈ C, q = endsP i j p) (k : Nat) :
    Col (adjB C) k n ↔ Col (adjB (C ++ [((i : Int), (j : Int))])) k n ∨ Col (adjB E) k (n - 1) := by
  have G1 : CGood n (C ++ [((i : Int), (j : Int))]) := fun q m => by
    rcases List.mem_append.mp m with m | m
    · exact G q m
    · rw [List.mem_singleton.mp m]
      exact ⟨by show (0 : Int) ≤ i; omega, by show (i : Int) < j; omega, by show (j : Int) < n; omega⟩
  constructor
  · rintro ⟨f, f1, f2, _⟩
    by_cases e : f i = f j
    · right
      have key : ∀ x : Int, 0 ≤ x → f (psi j (phi i j x)).toNat = f x.toNat := fun x x0 => by
        rw [psi_phi (by omega)]
        split
        · rename_i h
          subst h
          rw [Int.toNat_natCast, Int.toNat_natCast]
          exact e
        · rfl
      refine col_mk (fun u => f (psi j u).toNat) (fun u hu => ?_) fun u v uv hv ha => ?_
      · refine f1 _ ?_
        unfold psi
        split <;> omega
      · unfold adjB at ha
        rw [Bool.or_eq_true, decide_eq_true_eq, decide_eq_true_eq] at ha
        show f (psi j u).toNat ≠ f (psi j v).toNat
        have main : ∀ s t : Int, ((s, t) ∈ E) → f (psi j s).toNat ≠ f (psi j t).toNat := fun s t m => by
          obtain ⟨⟨a, b⟩, hp, eq⟩ := (hE _).mp m
          obtain ⟨a0, ab, bn⟩ := G _ hp
          simp only at a0 ab bn
          have ha' := f2 a.toNat b.toNat (by omega) (by omega) (by
            rw [show ((a.toNat : Nat) : Int) = a by omega, show ((b.toNat : Nat) : Int) = b by omega]
            unfold adjB
            rw [Bool.or_eq_true, decide_eq_true_eq]
            exact .inl hp)
          have ka := key a a0
          have kb := key b (by omega)
          have e1 := congrArg Prod.fst eq
          have e2 := congrArg Prod.snd eq
          simp only [endsP] at e1 e2
          rcases Int.le_total (phi i j a) (phi i j b) with c | c
          · rw [e1, e2, Int.min_eq_left c, Int.max_eq_right c, ka, kb]
            exact ha'
          · rw [e1, e2, Int.min_eq_right c, Int.max_eq_left c, ka, kb]
            exact Ne.symm ha'
        rcases ha with m | m
        · exact main _ _ m
        · exact Ne.symm (main _ _ m)
    · left
      refine col_mk f f1 fun u v uv hv ha => ?_
      rw [adj_lt G1 (by omega), decide_eq_true_eq] at ha
      rcases List.mem_append.mp ha with m | m
      · exact f2 u v uv hv (by rw [adj_lt G (by omega)]; exact decide_eq_true m)
      · have m := List.mem_singleton.mp m
        have e1 := congrArg Prod.fst m
        have e2 := congrArg Prod.snd m
        simp only at e1 e2
        rw [show u = i by omega, show v = j by omega]
        exact e
  · rintro (⟨f, f1, f2, _⟩ | ⟨f, f1, f2, _⟩)
    · refine col_mk f f1 fun u v uv hv ha => f2 u v uv hv ?_
      rw [adj_lt G (by omega), decide_eq_true_eq] at ha
      rw [adj_lt G1 (by omega), decide_eq_true_eq]
      exact List.mem_append_left _ ha
    · have pb := fun x : Nat => fun hx : x < n => phi_bd (i := i) (j := j) (x := x) (n := n) (by omega) (by omega) (by omega) (by omega) (by omega)
      refine col_mk (fun x => f (phi i j x).toNat) (fun x hx => ?_) fun a b ab hb ha => ?_
      · have := pb x hx
        exact f1 _ (by omega)
      · rw [adj_lt G (by omega), decide_eq_true_eq] at ha
        have pa := pb a (by omega)
        have pb' := pb b hb
        have ne : phi i j a ≠ phi i j b := fun e => by
          have h1 := psi_phi (i := i) (j := j) (x := a) (by omega)
          have h2 := psi_phi (i := i) (j := j) (x := b) (by omega)
          rw [e, h2] at h1
          by_cases c1 : (a : Int) = j
          · rw [if_pos c1] at h1
            split at h1 <;> omega
          · rw [if_neg c1] at h1
            split at h1
            · rename_i c2
              apply hno
              have : ((i : Int), (j : Int)) = ((a : Int), (b : Int)) := by
                rw [c2, h1]
              rw [this]
              exact ha
            · omega
        have hm : endsP i j ((a : Int), (b : Int)) ∈ E := (hE _).mpr ⟨_, ha, rfl⟩
        show f (phi i j a).toNat ≠ f (phi i j b).toNat
        rcases Int.lt_or_le (phi i j a) (phi i j b) with c | c
        · refine f2 _ _ (by omega) (by omega) ?_
          unfold adjB
          rw [Bool.or_eq_true, decide_eq_true_eq]
          left
          have : endsP i j ((a : Int), (b : Int)) = (phi i j a, phi i j b) := by
            unfold endsP
            rw [Int.min_eq_left (by show phi i j a ≤ phi i j b; omega), Int.max_eq_right (by show phi i j a ≤ phi i j b; omega)]
          rw [this] at hm
          rw [show (((phi i j a).toNat : Nat) : Int) = phi i j a by omega, show (((phi i j b).toNat : Nat) : Int) = phi i j b by omega]
          exact hm
        · refine Ne.symm (f2 _ _ (by omega) (by omega) ?_)
          unfold adjB
          rw [Bool.or_eq_true, decide_eq_true_eq]
          left
          have : endsP i j ((a : Int), (b : Int)) = (phi i j b, phi i j a) := by
            unfold endsP
            rw [Int.min_eq_right (by show phi i j b ≤ phi i j a; omega), Int.max_eq_left (by show phi i j b ≤ phi i j a; omega)]
          rw [this] at hm
          rw [show (((phi i j a).toNat : Nat) : Int) = phi i j a by omega, show (((phi i j b).toNat : Nat) : Int) = phi i j b by omega]
          exact hm
theorem eqv_P (a b : Int × Int) : eqv (pD a) (pD b) = decide (a = b) := by
  obtain ⟨x, y⟩ := a
  obtain ⟨u, v⟩ := b
  by_cases h1 : x = u <;> by_cases h2 : y = v <;> simp [eqv, pD, D.py, D.pys, PyData.eqv, PyData.eqvAll, h1, h2]
theorem c_ninP (q : Int × Int) (l : List (Int × Int)) : cmpD .notin (pD q) (.lst (l.map pD)) = some (!decide (q ∈ l)) := by
  have h := dep_pl l
  have h2 : (pD q).dep ≤ 60 ∧ D.deps (l.map pD) ≤ 60 := ⟨by rw [dep_pD]; decide, by omega⟩
  have e : (l.map pD).any (fun z => eqv z (pD q)) = decide (q ∈ l) := by
    rw [List.any_map, Bool.eq_iff_iff, List.any_eq_true, decide_eq_true_eq]
    constructor
    · rintro ⟨x, hx, e⟩
      have e : eqv (pD x) (pD q) = true := e
      rw [eqv_P, decide_eq_true_eq] at e
      rw [← e]
      exact hx
    · intro hq
      exact ⟨q, hq, by show eqv (pD q) (pD q) = true; rw [eqv_P]; exact decide_eq_true rfl⟩
  simp only [cmpD, if_pos h2, e]
theorem f_min2 (a b : Int) : biD .min [.lst [.int a, .int b]] = fi (min a b) := by
  simp [biD, intsD, minI]
theorem f_max2 (a b : Int) : biD .max [.lst [.int a, .int b]] = fi (max a b) := by
  simp [biD, intsD, maxI]
theorem r_one (cl) (C : List (Int × Int)) (i j : Int) (hz : C.length ≤ 1000) : ∃ E : List (Int × Int), R.run cl fn103 [.lst (C.map pD), .int i, .int j] = some (.ow, .lst (E.map pD)) ∧ (∀ q, q ∈ E ↔ ∃ p ∈ C, q = endsP i j p) ∧ E.length ≤ C.length := by
  have L := forRun_J (F := forF cl (.nm 4) [.set (.nm 5) (.lst []),
    .for_ (.nm 6) .seq [.var 4] [.set (.nm 6) (.ix (.lst [.var 6, .var 1]) (.bi .int [.cmp .eq (.var 6) (.var 2)])),
      .ms .append 5 [.bin .sub (.var 6) (.bi .int [.cmp .gt (.var 6) (.var 2)])]],
    .set (.nm 5) (.tup [.bi .min [.var 5], .bi .max [.var 5]]),
    .ite (.cmp .notin (.var 5) (.var 3)) [.frz 5,
      .ms .append 3 [.var 5]] []]) (C.map pD)
    (fun n ρ => ∃ (E : List (Int × Int)) (j4 j5 j6 : Option (Kd × D)), ρ = [fd (.lst (C.map pD)), fi i, fi j, ow (.lst (E.map pD)), j4, j5, j6] ∧ (∀ q, q ∈ E ↔ ∃ p ∈ C.take n, q = endsP i j p) ∧ E.length ≤ n)
    [fd (.lst (C.map pD)), fi i, fi j, ow (.lst []), none, none, none] ⟨[], _, _, _, rfl, fun q => ⟨fun m => (nomatch m), fun ⟨p, m, _⟩ => by rw [List.take_zero] at m; cases m⟩, Nat.zero_le _⟩ (by
    rintro n x ρ hx ⟨E, j4, j5, j6, rfl, hE, hl⟩
    obtain ⟨⟨a, b⟩, hq, rfl⟩ := get_map hx
    have hn := (List.getElem?_eq_some_iff.mp hq).1
    have tk : C.take (n + 1) = C.take n ++ [(a, b)] := by
      rw [List.take_add_one, hq]
      rfl
    have st : ∀ (x : Int) (acc : List D) (j6 : Option (Kd × D)), acc.length ≤ 1000 → forF cl (.nm 6) [.set (.nm 6) (.ix (.lst [.var 6, .var 1]) (.bi .int [.cmp .eq (.var 6) (.var 2)])),
      .ms .append 5 [.bin .sub (.var 6) (.bi .int [.cmp .gt (.var 6) (.var 2)])]] (.int x) [fd (.lst (C.map pD)), fi i, fi j, ow (.lst (E.map pD)), fd (.tup [.int a, .int b]), ow (.lst acc), j6] = some (.nx [fd (.lst (C.map pD)), fi i, fi j, ow (.lst (E.map pD)), fd (.tup [.int a, .int b]), ow (.lst (acc ++ [.int (phi i j x)])), fi (if x = j then i else x)]) := fun x acc j6 hacc => by
      have ap := fun d => m_app (xs := acc) (d := d) (by omega)
      simp -implicitDefEqProofs only [forF, q_var, q_int, q_bl, q_non, q_str, q_glb, q_bin, q_cmp, q_chain, q_and, q_or, q_not, q_neg, q_ifx, q_tup, q_lst, q_ix, q_slc, q_call, q_bi, q_mt, q_lc, q_dnew, q_F0, q_F, q_B0, q_B, q_I0, q_I, q_O0, q_O, s_set, s_setix, s_ms, s_frz, s_ite, s_for, s_whl, s_ret, s_retn, s_brk, s_cnt, s_pass, s_expr, ss_nil, ss_cons, seqO_nx, seqO_rt, seqO_bk, seqO_ct, finD_nx, finD_fz, finD_ow, finD_bo', rtD_fz, rtD_ow, rtD_bo, esc_fz, esc_ow, lkE_fz, lkE_ow, owE_ow, frzE_some, frzE_none, onT_kd, Option.bind_some, List.getElem?_cons_zero, List.getElem?_cons_succ, List.set_cons_zero, List.set_cons_succ, truD, setR_fz, setR_ow, setR_tp, setTg, setMany, tgS, wipeR, srcV, List.length_cons, List.length_nil, Nat.reduceAdd, Nat.reduceLT, ↓reduceIte, reduceCtorEq, intO, Bool.false_eq_true, decide_eq_true_eq, Bool.not_eq_true', decide_eq_false_iff_not, b_add, b_sub, b_mul1, b_mul2, b_mod, b_fdiv, m_rev, c_eqI, c_neI, c_eqB, c_lt, c_le, c_gt, c_ge, f_max, f_min, f_lenL, f_lenT, f_lenS, f_lenX, f_tupL, f_tupT, f_lstL, f_lstT, f_lstS, f_intB, f_intI, f_isB, k_seqL, k_seqT, k_seqS, at_0, at_1, at_2, at_3, x_lst, x_tup, Int.reduceLT, Int.reduceNeg, Int.reduceLE, List.length_map, Bool.or_self, Bool.not_true, Bool.not_false, f_isI, f_isIB, f_isBI, f_isL, f_isT, f_isS, c_is, c_isnt, isNon_non, isNon_tup, isNon_int, isNon_bl, isNon_lst, ne_eq, not_true_eq_false, not_false_eq_true, beq_self_eq_true, if_true, if_false, loopO_nx, loopO_ct, loopO_bk, loopO_rt, c_inT, c_ninT, c_inL, c_ninL, s_forq, lstO_lst, at_if, ap]
      rfl
    have s1 := st a [] j6 (by simp)
    have s2 := st b [.int (phi i j a)] (fi (if a = j then i else a)) (by simp)
    simp only [List.nil_append, List.cons_append] at s1 s2
    have e1 : endsP i j (a, b) = (min (phi i j a) (phi i j b), max (phi i j a) (phi i j b)) := rfl
    have cn : cmpD .notin (.tup [.int (min (phi i j a) (phi i j b)), .int (max (phi i j a) (phi i j b))]) (.lst (E.map pD)) = some (!decide (endsP i j (a, b) ∈ E)) := c_ninP (endsP i j (a, b)) E
    have ap := fun d => m_app (xs := E.map pD) (d := d) (by rw [List.length_map]; omega)
    have lp : forRun (forF cl (.nm 6) [.set (.nm 6) (.ix (.lst [.var 6, .var 1]) (.bi .int [.cmp .eq (.var 6) (.var 2)])),
      .ms .append 5 [.bin .sub (.var 6) (.bi .int [.cmp .gt (.var 6) (.var 2)])]]) [.int a, .int b] [fd (.lst (C.map pD)), fi i, fi j, ow (.lst (E.map pD)), fd (.tup [.int a, .int b]), ow (.lst []), j6] = some (.nx [fd (.lst (C.map pD)), fi i, fi j, ow (.lst (E.map pD)), fd (.tup [.int a, .int b]), ow (.lst [.int (phi i j a), .int (phi i j b)]), fi (if b = j then i else b)]) := by
      rw [forRun_cons, s1, loopO_nx, forRun_cons, s2, loopO_nx, forRun_nil]
    by_cases m : endsP i j (a, b) ∈ E
    · rw [decide_eq_true m] at cn
      simp -implicitDefEqProofs only [forF, pD, q_var, q_int, q_bl, q_non, q_str, q_glb, q_bin, q_cmp, q_chain, q_and, q_or, q_not, q_neg, q_ifx, q_tup, q_lst, q_ix, q_slc, q_call, q_bi, q_mt, q_lc, q_dnew, q_F0, q_F, q_B0, q_B, q_I0, q_I, q_O0, q_O, s_set, s_setix, s_ms, s_frz, s_ite, s_for, s_whl, s_ret, s_retn, s_brk, s_cnt, s_pass, s_expr, ss_nil, ss_cons, seqO_nx, seqO_rt, seqO_bk, seqO_ct, finD_nx, finD_fz, finD_ow, finD_bo', rtD_fz, rtD_ow, rtD_bo, esc_fz, esc_ow, lkE_fz, lkE_ow, owE_ow, frzE_some, frzE_none, onT_kd, Option.bind_some, List.getElem?_cons_zero, List.getElem?_cons_succ, List.set_cons_zero, List.set_cons_succ, truD, setR_fz, setR_ow, setR_tp, setTg, setMany, tgS, wipeR, srcV, List.length_cons, List.length_nil, Nat.reduceAdd, Nat.reduceLT, ↓reduceIte, reduceCtorEq, intO, Bool.false_eq_true, decide_eq_true_eq, Bool.not_eq_true', decide_eq_false_iff_not, b_add, b_sub, b_mul1, b_mul2, b_mod, b_fdiv, m_rev, c_eqI, c_neI, c_eqB, c_lt, c_le, c_gt, c_ge, f_max, f_min, f_lenL, f_lenT, f_lenS, f_lenX, f_tupL, f_tupT, f_lstL, f_lstT, f_lstS, f_intB, f_intI, f_isB, k_seqL, k_seqT, k_seqS, at_0, at_1, at_2, at_3, x_lst, x_tup, Int.reduceLT, Int.reduceNeg, Int.reduceLE, List.length_map, Bool.or_self, Bool.not_true, Bool.not_false, f_isI, f_isIB, f_isBI, f_isL, f_isT, f_isS, c_is, c_isnt, isNon_non, isNon_tup, isNon_int, isNon_bl, isNon_lst, ne_eq, not_true_eq_false, not_false_eq_true, beq_self_eq_true, if_true, if_false, loopO_nx, loopO_ct, loopO_bk, loopO_rt, c_inT, c_ninT, c_inL, c_ninL, s_forq, lstO_lst, lp, f_min2, f_max2, cn]
      refine ⟨_, .inl rfl, E, _, _, _, rfl, fun q => ?_, by omega⟩
      rw [hE, tk]
      constructor
      · rintro ⟨p, hp, e⟩
        exact ⟨p, List.mem_append_left _ hp, e⟩
      · rintro ⟨p, hp, e⟩
        rcases List.mem_append.mp hp with hp | hp
        · exact ⟨p, hp, e⟩
        · rw [List.mem_singleton.mp hp] at e
          rw [← e] at m
          exact (hE q).mp m
    · rw [decide_eq_false m] at cn
      simp -implicitDefEqProofs only [forF, pD, q_var, q_int, q_bl, q_non, q_str, q_glb, q_bin, q_cmp, q_chain, q_and, q_or, q_not, q_neg, q_ifx, q_tup, q_lst, q_ix, q_slc, q_call, q_bi, q_mt, q_lc, q_dnew, q_F0, q_F, q_B0, q_B, q_I0, q_I, q_O0, q_O, s_set, s_setix, s_ms, s_frz, s_ite, s_for, s_whl, s_ret, s_retn, s_brk, s_cnt, s_pass, s_expr, ss_nil, ss_cons, seqO_nx, seqO_rt, seqO_bk, seqO_ct, finD_nx, finD_fz, finD_ow, finD_bo', rtD_fz, rtD_ow, rtD_bo, esc_fz, esc_ow, lkE_fz, lkE_ow, owE_ow, frzE_some, frzE_none, onT_kd, Option.bind_some, List.getElem?_cons_zero, List.getElem?_cons_succ, List.set_cons_zero, List.set_cons_succ, truD, setR_fz, setR_ow, setR_tp, setTg, setMany, tgS, wipeR, srcV, List.length_cons, List.length_nil, Nat.reduceAdd, Nat.reduceLT, ↓reduceIte, reduceCtorEq, intO, Bool.false_eq_true, decide_eq_true_eq, Bool.not_eq_true', decide_eq_false_iff_not, b_add, b_sub, b_mul1, b_mul2, b_mod, b_fdiv, m_rev, c_eqI, c_neI, c_eqB, c_lt, c_le, c_gt, c_ge, f_max, f_min, f_lenL, f_lenT, f_lenS, f_lenX, f_tupL, f_tupT, f_lstL, f_lstT, f_lstS, f_intB, f_intI, f_isB, k_seqL, k_seqT, k_seqS, at_0, at_1, at_2, at_3, x_lst, x_tup, Int.reduceLT, Int.reduceNeg, Int.reduceLE, List.length_map, Bool.or_self, Bool.not_true, Bool.not_false, f_isI, f_isIB, f_isBI, f_isL, f_isT, f_isS, c_is, c_isnt, isNon_non, isNon_tup, isNon_int, isNon_bl, isNon_lst, ne_eq, not_true_eq_false, not_false_eq_true, beq_self_eq_true, if_true, if_false, loopO_nx, loopO_ct, loopO_bk, loopO_rt, c_inT, c_ninT, c_inL, c_ninL, s_forq, lstO_lst, lp, f_min2, f_max2, cn, ap]
      refine ⟨_, .inl rfl, E ++ [endsP i j (a, b)], _, _, _, by rw [List.map_append, e1]; rfl, fun q => ?_, by rw [List.length_append]; simp only [List.length_cons, List.length_nil]; omega⟩
      rw [List.mem_append, hE, tk, List.mem_singleton]
      constructor
      · rintro (⟨p, hp, e⟩ | e)
        · exact ⟨p, List.mem_append_left _ hp, e⟩
        · exact ⟨_, List.mem_append_right _ List.mem_cons_self, e⟩
      · rintro ⟨p, hp, e⟩
        rcases List.mem_append.mp hp with hp | hp
        · exact .inl ⟨p, hp, e⟩
        · rw [List.mem_singleton.mp hp] at e
          exact .inr e)
  obtain ⟨ρ, e, E, j4, j5, j6, rfl, hE, hl⟩ := L
  rw [List.length_map, List.take_length] at hE
  rw [List.length_map] at hl
  refine ⟨E, run_to rfl ?_, hE, hl⟩
  show finD (evSs cl b103 [fd (.lst (C.map pD)), fi i, fi j, none, none, none, none]) = _
  simp -implicitDefEqProofs only [b103, q_var, q_int, q_bl, q_non, q_str, q_glb, q_bin, q_cmp, q_chain, q_and, q_or, q_not, q_neg, q_ifx, q_tup, q_lst, q_ix, q_slc, q_call, q_bi, q_mt, q_lc, q_dnew, q_F0, q_F, q_B0, q_B, q_I0, q_I, q_O0, q_O, s_set, s_setix, s_ms, s_frz, s_ite, s_for, s_whl, s_ret, s_retn, s_brk, s_cnt, s_pass, s_expr, ss_nil, ss_cons, seqO_nx, seqO_rt, seqO_bk, seqO_ct, finD_nx, finD_fz, finD_ow, finD_bo', rtD_fz, rtD_ow, rtD_bo, esc_fz, esc_ow, lkE_fz, lkE_ow, owE_ow, frzE_some, frzE_none, onT_kd, Option.bind_some, List.getElem?_cons_zero, List.getElem?_cons_succ, List.set_cons_zero, List.set_cons_succ, truD, setR_fz, setR_ow, setR_tp, setTg, setMany, tgS, wipeR, srcV, List.length_cons, List.length_nil, Nat.reduceAdd, Nat.reduceLT, ↓reduceIte, reduceCtorEq, intO, Bool.false_eq_true, decide_eq_true_eq, Bool.not_eq_true', decide_eq_false_iff_not, b_add, b_sub, b_mul1, b_mul2, b_mod, b_fdiv, m_rev, c_eqI, c_neI, c_eqB, c_lt, c_le, c_gt, c_ge, f_max, f_min, f_lenL, f_lenT, f_lenS, f_lenX, f_tupL, f_tupT, f_lstL, f_lstT, f_lstS, f_intB, f_intI, f_isB, k_seqL, k_seqT, k_seqS, at_0, at_1, at_2, at_3, x_lst, x_tup, Int.reduceLT, Int.reduceNeg, Int.reduceLE, List.length_map, Bool.or_self, Bool.not_true, Bool.not_false, f_isI, f_isIB, f_isBI, f_isL, f_isT, f_isS, c_is, c_isnt, isNon_non, isNon_tup, isNon_int, isNon_bl, isNon_lst, ne_eq, not_true_eq_false, not_false_eq_true, beq_self_eq_true, if_true, if_false, loopO_nx, loopO_ct, loopO_bk, loopO_rt, c_inT, c_ninT, c_inL, c_ninL, s_forq, lstO_lst, e]
theorem law_true (ns : List Int) (hlen : ns.length ≤ 63) : evFn tbl 20 LAWN [.scr ns] = some (.fz, .bl true) := by
  have c6 : ∀ m, ∀ k : Nat, evFn tbl (m + 1) 6 [.scr ns, .int k] = fi (ns.getD k 0) := fun m k => r_cell (evFn tbl m) ns k
  have c35 : ∀ m, ∀ c k, -100000 ≤ k → k ≤ 100000 → evFn tbl (m + 1) 35 [.int c, .int k] = fi (mix c k) := fun m c k h0 h1 => r_mixed (evFn tbl m) c k h0 h1
  have i0 : evFn tbl 19 6 [.scr ns, .int 0] = fi (ns.getD 0 0) := c6 18 0
  have i1 : evFn tbl 19 6 [.scr ns, .int 1] = fi (ns.getD 1 0) := c6 18 1
  have i2 : evFn tbl 19 6 [.scr ns, .int 2] = fi (ns.getD 2 0) := c6 18 2
  -- fewest
  have few : ∀ (C : List (Int × Int)) (n : Nat), C.length ≤ 1000 → n ≤ 16 → ∃ d, evFn tbl 19 73 [.int n, .lst (C.map pD)] = fd d ∧ Fewest (adjB C) n d := fun C n hC hn => by
    obtain ⟨pd, e, P⟩ := r_pairsOf (evFn tbl 17) C hC
    exact r_fewest (evFn tbl 18) C (adjB C) n (by omega) pd e fun most hm => by
      have := r_grown (evFn tbl) (fun m ds => rfl) (fun m ds => rfl) (adjB C) (adjB_comm C) pd P most n hm (by omega) n (16 - n) [] (by simp) ⟨fun x m => (nomatch m), fun i j c _ h => by simp at h, fun i c h => by simp at h⟩
      rw [show 16 - n + n + 2 = 18 by omega] at this
      exact this
  obtain ⟨n, hn⟩ : ∃ n : Nat, (2 : Int) + ns.getD 0 0 % 6 = n := ⟨(2 + ns.getD 0 0 % 6).toNat, by omega⟩
  have n2 : 2 ≤ n := by omega
  have n7 : n ≤ 7 := by omega
  have hcut : (cut ns (some 3) (some 24)).length ≤ 63 := Nat.le_trans (len_cut _ _ _) hlen
  have sl : slcD (.scr ns) (some 3) (some 24) = some (.ow, .lst ((cut ns (some 3) (some 24)).map .int)) := by simp only [slcD]
  generalize cut ns (some 3) (some 24) = cs at hcut sl
  obtain ⟨C, eC, G, lC⟩ := r_lclash (evFn tbl 18) n (ns.getD 1 0 % 13) cs hcut (by omega) (by omega) (r_allPairs (evFn tbl 17) n (by omega) (by omega)) (c35 17)
  have eC : evFn tbl 19 67 [.lst (cs.map .int), .int n, .int (ns.getD 1 0 % 13)] = some (.ow, .lst (C.map pD)) := eC
  obtain ⟨d0, e0, m0, g0, rfl, chi0, _⟩ := few C n (by omega) (by omega)
  obtain ⟨d1, e1, m1, g1, rfl, chi1, _⟩ := few C (n + 1) (by omega) (by omega)
  have lA : (allL n).length ≤ 16 := by
    unfold allL
    rw [List.length_map, len_rangeL]
    omega
  obtain ⟨d2, e2, m2, g2, rfl, chi2, _⟩ := few (C ++ allL n) (n + 1) (by rw [List.length_append]; omega) (by omega)
  rw [show (((n + 1 : Nat)) : Int) = (n : Int) + 1 by omega] at e1 e2
  have q1 : m1 = m0 := (chi_eq (fun k => (col_more G (by omega) k).symm) chi0 chi1).symm
  have q2 : m2 = m0 + 1 := chi_succ (fun k => col_all (C := C) k) (by
    rintro ⟨f, f1, _⟩
    have := f1 0 (by omega)
    omega) chi0 chi2
  obtain ⟨j, hj⟩ : ∃ j : Nat, (1 : Int) + ns.getD 2 0 % ((n : Int) - 1) = j := ⟨(1 + ns.getD 2 0 % ((n : Int) - 1)).toNat, by have := Int.emod_nonneg (ns.getD 2 0) (show (n : Int) - 1 ≠ 0 by omega); omega⟩
  have jb : 1 ≤ j ∧ j < n := by
    have h1 := Int.emod_nonneg (ns.getD 2 0) (show (n : Int) - 1 ≠ 0 by omega)
    have h2 := Int.emod_lt_of_pos (ns.getD 2 0) (show (0 : Int) < (n : Int) - 1 by omega)
    omega
  obtain ⟨i, hi⟩ : ∃ i : Nat, ns.getD 2 0 / 7 % (j : Int) = i := ⟨(ns.getD 2 0 / 7 % (j : Int)).toNat, by have := Int.emod_nonneg (ns.getD 2 0 / 7) (show (j : Int) ≠ 0 by omega); omega⟩
  have ib : i < j := by
    have := Int.emod_lt_of_pos (ns.getD 2 0 / 7) (show (0 : Int) < (j : Int) by omega)
    omega
  have bm1 := b_mod (i := ns.getD 2 0) (show (0 : Int) < (n : Int) - 1 by omega)
  have bm2 := b_mod (i := ns.getD 2 0 / 7) (show (0 : Int) < (j : Int) by omega)
  have cn : cmpD .notin (.tup [.int i, .int j]) (.lst (C.map pD)) = some (!decide (((i : Int), (j : Int)) ∈ C)) := c_ninP ((i : Int), (j : Int)) C
  have cat2 : binD .add (.lst (C.map pD)) (.lst ((allL n).map pD)) = some (.ow, .lst ((C ++ allL n).map pD)) := by
    rw [b_cat (by rw [List.length_map, List.length_map]; omega), List.map_append]
  have nV : ∀ v : Int, cmpD .ne (.int v) (.int v) = some false := fun v => by rw [c_neI]; simp
  have eV : ∀ v : Int, cmpD .eq (.int v) (.int v) = some true := fun v => by rw [c_eqI]; simp
  have M := fun (s7 s8 : Option (Kd × D)) => lcRun_map D.int (F := lcF (evFn tbl 19) [fd (.scr ns), fi n, fd (.lst (C.map pD)), fi m0, fi (ns.getD 2 0), fi j, fi i, s7, s8, none] (.tup [.var 9, .var 1]) (.nm 9) []) (fun p => pD (p, (n : Int))) (rangeL 0 n) (by
    intro p hp
    simp -implicitDefEqProofs only [lcF, q_var, q_int, q_bl, q_non, q_str, q_glb, q_bin, q_cmp, q_chain, q_and, q_or, q_not, q_neg, q_ifx, q_tup, q_lst, q_ix, q_slc, q_call, q_bi, q_mt, q_lc, q_dnew, q_F0, q_F, q_B0, q_B, q_I0, q_I, q_O0, q_O, s_set, s_setix, s_ms, s_frz, s_ite, s_for, s_whl, s_ret, s_retn, s_brk, s_cnt, s_pass, s_expr, ss_nil, ss_cons, seqO_nx, seqO_rt, seqO_bk, seqO_ct, finD_nx, finD_fz, finD_ow, finD_bo', rtD_fz, rtD_ow, rtD_bo, esc_fz, esc_ow, lkE_fz, lkE_ow, owE_ow, frzE_some, frzE_none, onT_kd, Option.bind_some, List.getElem?_cons_zero, List.getElem?_cons_succ, List.set_cons_zero, List.set_cons_succ, truD, setR_fz, setR_ow, setR_tp, setTg, setMany, tgS, wipeR, srcV, List.length_cons, List.length_nil, Nat.reduceAdd, Nat.reduceLT, ↓reduceIte, reduceCtorEq, intO, Bool.false_eq_true, decide_eq_true_eq, Bool.not_eq_true', decide_eq_false_iff_not, b_add, b_sub, b_mul1, b_mul2, b_mod, b_fdiv, m_rev, c_eqI, c_neI, c_eqB, c_lt, c_le, c_gt, c_ge, f_max, f_min, f_lenL, f_lenT, f_lenS, f_lenX, f_tupL, f_tupT, f_lstL, f_lstT, f_lstS, f_intB, f_intI, f_isB, k_seqL, k_seqT, k_seqS, at_0, at_1, at_2, at_3, x_lst, x_tup, Int.reduceLT, Int.reduceNeg, Int.reduceLE, List.length_map, Bool.or_self, Bool.not_true, Bool.not_false, f_isI, f_isIB, f_isBI, f_isL, f_isT, f_isS, c_is, c_isnt, isNon_non, isNon_tup, isNon_int, isNon_bl, isNon_lst, ne_eq, not_true_eq_false, not_false_eq_true, beq_self_eq_true, if_true, if_false, loopO_nx, loopO_ct, loopO_bk, loopO_rt, c_inT, c_ninT, c_inL, c_ninL, s_forq, lstO_lst]
    rfl)
  have eM : (rangeL 0 n).map (fun p => pD (p, (n : Int))) = (allL n).map pD := by
    unfold allL
    rw [List.map_map]
    rfl
  rw [eM] at M
  subst q1 q2
  refine ev_to rfl (run_to rfl ?_)
  show finD (evSs (evFn tbl 19) b104 [fd (.scr ns), none, none, none, none, none, none, none, none, none]) = _
  by_cases hc : ((i : Int), (j : Int)) ∈ C
  · rw [decide_eq_true hc] at cn
    simp -implicitDefEqProofs only [b104, q_var, q_int, q_bl, q_non, q_str, q_glb, q_bin, q_cmp, q_chain, q_and, q_or, q_not, q_neg, q_ifx, q_tup, q_lst, q_ix, q_slc, q_call, q_bi, q_mt, q_lc, q_dnew, q_F0, q_F, q_B0, q_B, q_I0, q_I, q_O0, q_O, s_set, s_setix, s_ms, s_frz, s_ite, s_for, s_whl, s_ret, s_retn, s_brk, s_cnt, s_pass, s_expr, ss_nil, ss_cons, seqO_nx, seqO_rt, seqO_bk, seqO_ct, finD_nx, finD_fz, finD_ow, finD_bo', rtD_fz, rtD_ow, rtD_bo, esc_fz, esc_ow, lkE_fz, lkE_ow, owE_ow, frzE_some, frzE_none, onT_kd, Option.bind_some, List.getElem?_cons_zero, List.getElem?_cons_succ, List.set_cons_zero, List.set_cons_succ, truD, setR_fz, setR_ow, setR_tp, setTg, setMany, tgS, wipeR, srcV, List.length_cons, List.length_nil, Nat.reduceAdd, Nat.reduceLT, ↓reduceIte, reduceCtorEq, intO, Bool.false_eq_true, decide_eq_true_eq, Bool.not_eq_true', decide_eq_false_iff_not, b_add, b_sub, b_mul1, b_mul2, b_mod, b_fdiv, m_rev, c_eqI, c_neI, c_eqB, c_lt, c_le, c_gt, c_ge, f_max, f_min, f_lenL, f_lenT, f_lenS, f_lenX, f_tupL, f_tupT, f_lstL, f_lstT, f_lstS, f_intB, f_intI, f_isB, k_seqL, k_seqT, k_seqS, at_0, at_1, at_2, at_3, x_lst, x_tup, Int.reduceLT, Int.reduceNeg, Int.reduceLE, List.length_map, Bool.or_self, Bool.not_true, Bool.not_false, f_isI, f_isIB, f_isBI, f_isL, f_isT, f_isS, c_is, c_isnt, isNon_non, isNon_tup, isNon_int, isNon_bl, isNon_lst, ne_eq, not_true_eq_false, not_false_eq_true, beq_self_eq_true, if_true, if_false, loopO_nx, loopO_ct, loopO_bk, loopO_rt, c_inT, c_ninT, c_inL, c_ninL, s_forq, lstO_lst, i0, hn, i1, sl, eC, e0, i2, bm1, hj, bm2, hi, cn, e1, nV, k_rng1 (show -100000 ≤ (n : Int) by omega) (by omega), M, cat2, e2, eV]
    simp [c_eqI]
  · rw [decide_eq_false hc] at cn
    obtain ⟨E, eE, hE, lE⟩ := r_one (evFn tbl 18) C i j (by omega)
    have eE : evFn tbl 19 103 [.lst (C.map pD), .int i, .int j] = some (.ow, .lst (E.map pD)) := eE
    obtain ⟨d3, e3, m3, g3, rfl, chi3, _⟩ := few (C ++ [((i : Int), (j : Int))]) n (by rw [List.length_append]; simp only [List.length_cons, List.length_nil]; omega) (by omega)
    obtain ⟨d4, e4, m4, g4, rfl, chi4, _⟩ := few E (n - 1) (by omega) (by omega)
    rw [show (((n - 1 : Nat)) : Int) = (n : Int) - 1 by omega] at e4
    have q3 := chi_min (fun k => col_one G ib jb.2 hc hE k) chi0 chi3 chi4
    have cat1 : binD .add (.lst (C.map pD)) (.lst [.tup [.int i, .int j]]) = some (.ow, .lst ((C ++ [((i : Int), (j : Int))]).map pD)) := by
      rw [b_cat (by rw [List.length_map]; simp only [List.length_cons, List.length_nil]; omega), List.map_append]
      rfl
    have mm : mn (m3 : Int) m4 = m1 := by
      unfold mn
      split <;> omega
    simp -implicitDefEqProofs only [b104, q_var, q_int, q_bl, q_non, q_str, q_glb, q_bin, q_cmp, q_chain, q_and, q_or, q_not, q_neg, q_ifx, q_tup, q_lst, q_ix, q_slc, q_call, q_bi, q_mt, q_lc, q_dnew, q_F0, q_F, q_B0, q_B, q_I0, q_I, q_O0, q_O, s_set, s_setix, s_ms, s_frz, s_ite, s_for, s_whl, s_ret, s_retn, s_brk, s_cnt, s_pass, s_expr, ss_nil, ss_cons, seqO_nx, seqO_rt, seqO_bk, seqO_ct, finD_nx, finD_fz, finD_ow, finD_bo', rtD_fz, rtD_ow, rtD_bo, esc_fz, esc_ow, lkE_fz, lkE_ow, owE_ow, frzE_some, frzE_none, onT_kd, Option.bind_some, List.getElem?_cons_zero, List.getElem?_cons_succ, List.set_cons_zero, List.set_cons_succ, truD, setR_fz, setR_ow, setR_tp, setTg, setMany, tgS, wipeR, srcV, List.length_cons, List.length_nil, Nat.reduceAdd, Nat.reduceLT, ↓reduceIte, reduceCtorEq, intO, Bool.false_eq_true, decide_eq_true_eq, Bool.not_eq_true', decide_eq_false_iff_not, b_add, b_sub, b_mul1, b_mul2, b_mod, b_fdiv, m_rev, c_eqI, c_neI, c_eqB, c_lt, c_le, c_gt, c_ge, f_max, f_min, f_lenL, f_lenT, f_lenS, f_lenX, f_tupL, f_tupT, f_lstL, f_lstT, f_lstS, f_intB, f_intI, f_isB, k_seqL, k_seqT, k_seqS, at_0, at_1, at_2, at_3, x_lst, x_tup, Int.reduceLT, Int.reduceNeg, Int.reduceLE, List.length_map, Bool.or_self, Bool.not_true, Bool.not_false, f_isI, f_isIB, f_isBI, f_isL, f_isT, f_isS, c_is, c_isnt, isNon_non, isNon_tup, isNon_int, isNon_bl, isNon_lst, ne_eq, not_true_eq_false, not_false_eq_true, beq_self_eq_true, if_true, if_false, loopO_nx, loopO_ct, loopO_bk, loopO_rt, c_inT, c_ninT, c_inL, c_ninL, s_forq, lstO_lst, i0, hn, i1, sl, eC, e0, i2, bm1, hj, bm2, hi, cn, cat1, e3, eE, e4, mm, e1, nV, k_rng1 (show -100000 ≤ (n : Int) by omega) (by omega), M, cat2, e2, eV]
    simp [c_eqI]
end RL

namespace RL
open PySem PySem.Spec PyProof.Rows L2 R
def topS (i : Nat) : Stmt := PySem.Challenge.pw_troupe_k34_one_or_apart.main.body.getD i (.Pass ⟨0, 0, 0, 0⟩)
def td70 : TD := ⟨70, "pairs_of", topS 1, ["clashes", "found", "i", "j"], ["clashes"], fn70⟩
def td71 : TD := ⟨71, "open_groups", topS 2, ["groups", "part", "pairs", "shut", "other", "group"], ["groups", "part", "pairs"], fn71⟩
def td72 : TD := ⟨72, "grown", topS 3, ["groups", "many", "pairs", "most", "part", "some", "fresh", "group", "found"], ["groups", "many", "pairs", "most"], fn72⟩
def td73 : TD := ⟨73, "fewest_of", topS 4, ["many", "clashes", "pairs", "most", "found"], ["many", "clashes"], fn73⟩
def td6 : TD := ⟨6, "_law_cell_at", topS 6, ["_law_script", "_law_k"], ["_law_script", "_law_k"], fn6⟩
def td35 : TD := ⟨35, "_law_mixed", topS 7, ["_law_cell", "_law_k"], ["_law_cell", "_law_k"], fn35⟩
def td49 : TD := ⟨49, "_law_pairs", topS 8, ["_law_many", "_law_found", "_law_i", "_law_j"], ["_law_many"], fn49⟩
def td67 : TD := ⟨67, "_law_clashes", topS 9, ["_law_cells", "_law_many", "_law_share", "_law_pairs_here", "_law_found", "_law_k", "_law_m"], ["_law_cells", "_law_many", "_law_share"], fn67⟩
def td103 : TD := ⟨103, "_law_one", topS 10, ["_law_clashes_here", "_law_i", "_law_j", "_law_found", "_law_pair", "_law_ends", "_law_part"], ["_law_clashes_here", "_law_i", "_law_j"], fn103⟩
def td104 : TD := ⟨104, "law", topS 11, ["_law_script", "_law_many", "_law_clashes_here", "_law_k", "_law_n", "_law_j", "_law_i", "_law_apart", "_law_one_here", "_law_part"], ["_law_script"], fn104⟩
def tds : List TD := [td70, td71, td72, td73, td6, td35, td49, td67, td103, td104]
def fns : List (Str × Nat) := [("pairs_of", 70), ("open_groups", 71), ("grown", 72), ("fewest_of", 73), ("_law_cell_at", 6), ("_law_mixed", 35), ("_law_pairs", 49), ("_law_clashes", 67), ("_law_one", 103), ("law", 104)]
def gls : List (Str × D) := []
theorem tds_look : ∀ t ∈ tds, tbl.lookup t.f = some t.fn := by
  intro t m
  simp only [tds, List.mem_cons, List.not_mem_nil, or_false] at m
  rcases m with rfl | rfl | rfl | rfl | rfl | rfl | rfl | rfl | rfl | rfl <;> rfl
theorem fns_td : ∀ p ∈ fns, ∃ t ∈ tds, t.nm = p.1 ∧ t.f = p.2 := by
  intro p m
  simp only [fns, List.mem_cons, List.not_mem_nil, or_false] at m
  rcases m with rfl | rfl | rfl | rfl | rfl | rfl | rfl | rfl | rfl | rfl
  · exact ⟨td70, by unfold tds; simp only [List.mem_cons, true_or, or_true], rfl, rfl⟩
  · exact ⟨td71, by unfold tds; simp only [List.mem_cons, true_or, or_true], rfl, rfl⟩
  · exact ⟨td72, by unfold tds; simp only [List.mem_cons, true_or, or_true], rfl, rfl⟩
  · exact ⟨td73, by unfold tds; simp only [List.mem_cons, true_or, or_true], rfl, rfl⟩
  · exact ⟨td6, by unfold tds; simp only [List.mem_cons, true_or, or_true], rfl, rfl⟩
  · exact ⟨td35, by unfold tds; simp only [List.mem_cons, true_or, or_true], rfl, rfl⟩
  · exact ⟨td49, by unfold tds; simp only [List.mem_cons, true_or, or_true], rfl, rfl⟩
  · exact ⟨td67, by unfold tds; simp only [List.mem_cons, true_or, or_true], rfl, rfl⟩
  · exact ⟨td103, by unfold tds; simp only [List.mem_cons, true_or, or_true], rfl, rfl⟩
  · exact ⟨td104, by unfold tds; simp only [List.mem_cons, true_or, or_true], rfl, rfl⟩
theorem good70 : td70.good tbl fns gls = true := by decide +kernel
theorem good71 : td71.good tbl fns gls = true := by decide +kernel
theorem good72 : td72.good tbl fns gls = true := by decide +kernel
theorem good73 : td73.good tbl fns gls = true := by decide +kernel
theorem good6 : td6.good tbl fns gls = true := by decide +kernel
theorem good35 : td35.good tbl fns gls = true := by decide +kernel
theorem good49 : td49.good tbl fns gls = true := by decide +kernel
theorem good67 : td67.good tbl fns gls = true := by decide +kernel
theorem good103 : td103.good tbl fns gls = true := by decide +kernel
theorem good104 : td104.good tbl fns gls = true := by decide +kernel
theorem tds_good : ∀ t ∈ tds, t.good tbl fns gls = true := by
  intro t m
  simp only [tds, List.mem_cons, List.not_mem_nil, or_false] at m
  rcases m with rfl | rfl | rfl | rfl | rfl | rfl | rfl | rfl | rfl | rfl
  · exact good70
  · exact good71
  · exact good72
  · exact good73
  · exact good6
  · exact good35
  · exact good49
  · exact good67
  · exact good103
  · exact good104
set_option maxRecDepth 100000
theorem all_at {l : PySem.W.OpenLaw} {w : World} {K : PySem.W.Frag} {h : Heap} {mg : Str → Option Value} {fa : Addr} (X : K.In h) (G : h.Ns mainGlobals mg) (hfa : mg "law" = some (.ref fa))
    {f70 f71 f72 f73 f6 f35 f49 f67 f103 f104 : Addr} {od70 an70 od71 an71 od72 an72 od73 an73 od6 an6 od35 an35 od49 an49 od67 an67 od103 an103 od104 an104 : Option Addr} {sl70 sl71 sl72 sl73 sl6 sl35 sl49 sl67 sl103 sl104 : Array (Option Value)} {oc70 kV70 dc70 pm70 cd70 ct70 oc71 kV71 dc71 pm71 cd71 ct71 oc72 kV72 dc72 pm72 cd72 ct72 oc73 kV73 dc73 pm73 cd73 ct73 oc6 kV6 dc6 pm6 cd6 ct6 oc35 kV35 dc35 pm35 cd35 ct35 oc49 kV49 dc49 pm49 cd49 ct49 oc67 kV67 dc67 pm67 cd67 ct67 oc103 kV103 dc103 pm103 cd103 ct103 oc104 kV104 dc104 pm104 cd104 ct104 : Value}
    (a70 : PySem.W.nsIn K mainGlobals "pairs_of" = some (some (.ref f70))) (l70 : K.lookup f70 = some ⟨oc70, od70, .func (PySem.W.fnOf "pairs_of" "pairs_of" (defArgs (topS 1)) (defBody (topS 1)) (defScope (topS 1)) .none kV70 dc70 pm70 an70 cd70 ct70), sl70⟩) (c70 : PySem.W.codeIn K cd70 "pairs_of" = true) (k70 : PySem.W.keepIn K (.ref f70) = true)
    (a71 : PySem.W.nsIn K mainGlobals "open_groups" = some (some (.ref f71))) (l71 : K.lookup f71 = some ⟨oc71, od71, .func (PySem.W.fnOf "open_groups" "open_groups" (defArgs (topS 2)) (defBody (topS 2)) (defScope (topS 2)) .none kV71 dc71 pm71 an71 cd71 ct71), sl71⟩) (c71 : PySem.W.codeIn K cd71 "open_groups" = true) (k71 : PySem.W.keepIn K (.ref f71) = true)
    (a72 : PySem.W.nsIn K mainGlobals "grown" = some (some (.ref f72))) (l72 : K.lookup f72 = some ⟨oc72, od72, .func (PySem.W.fnOf "grown" "grown" (defArgs (topS 3)) (defBody (topS 3)) (defScope (topS 3)) .none kV72 dc72 pm72 an72 cd72 ct72), sl72⟩) (c72 : PySem.W.codeIn K cd72 "grown" = true) (k72 : PySem.W.keepIn K (.ref f72) = true)
    (a73 : PySem.W.nsIn K mainGlobals "fewest_of" = some (some (.ref f73))) (l73 : K.lookup f73 = some ⟨oc73, od73, .func (PySem.W.fnOf "fewest_of" "fewest_of" (defArgs (topS 4)) (defBody (topS 4)) (defScope (topS 4)) .none kV73 dc73 pm73 an73 cd73 ct73), sl73⟩) (c73 : PySem.W.codeIn K cd73 "fewest_of" = true) (k73 : PySem.W.keepIn K (.ref f73) = true)
    (a6 : PySem.W.nsIn K mainGlobals "_law_cell_at" = some (some (.ref f6))) (l6 : K.lookup f6 = some ⟨oc6, od6, .func (PySem.W.fnOf "_law_cell_at" "_law_cell_at" (defArgs (topS 6)) (defBody (topS 6)) (defScope (topS 6)) .none kV6 dc6 pm6 an6 cd6 ct6), sl6⟩) (c6 : PySem.W.codeIn K cd6 "_law_cell_at" = true) (k6 : PySem.W.keepIn K (.ref f6) = true)
    (a35 : PySem.W.nsIn K mainGlobals "_law_mixed" = some (some (.ref f35))) (l35 : K.lookup f35 = some ⟨oc35, od35, .func (PySem.W.fnOf "_law_mixed" "_law_mixed" (defArgs (topS 7)) (defBody (topS 7)) (defScope (topS 7)) .none kV35 dc35 pm35 an35 cd35 ct35), sl35⟩) (c35 : PySem.W.codeIn K cd35 "_law_mixed" = true) (k35 : PySem.W.keepIn K (.ref f35) = true)
    (a49 : PySem.W.nsIn K mainGlobals "_law_pairs" = some (some (.ref f49))) (l49 : K.lookup f49 = some ⟨oc49, od49, .func (PySem.W.fnOf "_law_pairs" "_law_pairs" (defArgs (topS 8)) (defBody (topS 8)) (defScope (topS 8)) .none kV49 dc49 pm49 an49 cd49 ct49), sl49⟩) (c49 : PySem.W.codeIn K cd49 "_law_pairs" = true) (k49 : PySem.W.keepIn K (.ref f49) = true)
    (a67 : PySem.W.nsIn K mainGlobals "_law_clashes" = some (some (.ref f67))) (l67 : K.lookup f67 = some ⟨oc67, od67, .func (PySem.W.fnOf "_law_clashes" "_law_clashes" (defArgs (topS 9)) (defBody (topS 9)) (defScope (topS 9)) .none kV67 dc67 pm67 an67 cd67 ct67), sl67⟩) (c67 : PySem.W.codeIn K cd67 "_law_clashes" = true) (k67 : PySem.W.keepIn K (.ref f67) = true)
    (a103 : PySem.W.nsIn K mainGlobals "_law_one" = some (some (.ref f103))) (l103 : K.lookup f103 = some ⟨oc103, od103, .func (PySem.W.fnOf "_law_one" "_law_one" (defArgs (topS 10)) (defBody (topS 10)) (defScope (topS 10)) .none kV103 dc103 pm103 an103 cd103 ct103), sl103⟩) (c103 : PySem.W.codeIn K cd103 "_law_one" = true) (k103 : PySem.W.keepIn K (.ref f103) = true)
    (a104 : PySem.W.nsIn K mainGlobals "law" = some (some (.ref f104))) (l104 : K.lookup f104 = some ⟨oc104, od104, .func (PySem.W.fnOf "law" "law" (defArgs (topS 11)) (defBody (topS 11)) (defScope (topS 11)) .none kV104 dc104 pm104 an104 cd104 ct104), sl104⟩) (c104 : PySem.W.codeIn K cd104 "law" = true) (k104 : PySem.W.keepIn K (.ref f104) = true)
    (z0 : PySem.W.nsIn K mainGlobals "len" = some none) (z1 : PySem.W.nsIn K mainGlobals "tuple" = some none) (z2 : PySem.W.nsIn K mainGlobals "list" = some none) (z3 : PySem.W.nsIn K mainGlobals "int" = some none) (z4 : PySem.W.nsIn K mainGlobals "str" = some none) (z5 : PySem.W.nsIn K mainGlobals "all" = some none) (z6 : PySem.W.nsIn K mainGlobals "max" = some none) (z7 : PySem.W.nsIn K mainGlobals "min" = some none) (z8 : PySem.W.nsIn K mainGlobals "sum" = some none) (z9 : PySem.W.nsIn K mainGlobals "isinstance" = some none) (z10 : PySem.W.nsIn K mainGlobals "set" = some none) (z11 : PySem.W.nsIn K mainGlobals "range" = some none) (z12 : PySem.W.nsIn K mainGlobals "enumerate" = some none) (z13 : PySem.W.nsIn K mainGlobals "zip" = some none) (z14 : PySem.W.nsIn K mainGlobals "bool" = some none) (z15 : PySem.W.nsIn K mainGlobals "sorted" = some none) (z16 : PySem.W.nsIn K mainGlobals "reversed" = some none) (z17 : PySem.W.nsIn K mainGlobals "dict" = some none) (z18 : PySem.W.nsIn K mainGlobals "ord" = some none)
    : ∃ fd : FuncData, (∀ (s : Shared) (v : Value), BindsTo s fd ⟨[v], []⟩ [("_law_script", v)]) ∧ ∀ base : Heap, K.In base → base.Ns mainGlobals mg → FnOk l.prog w K mg base CX0 20 fa fd ["_law_script"] (spEv tbl K 20 104) := by
  have e := hfa.symm.trans (PySem.W.mg_of X G a104)
  cases e
  have F70 := fun_mk (st := topS 1) l70 c70 k70
  have at70 : td70.At K mg f70 _ := ⟨F70, PySem.W.mg_of X G a70, F70.binds (ps := ["clashes"]) fun _ _ _ _ _ _ us hl => match us, hl with | [_], _ => rfl⟩
  have F71 := fun_mk (st := topS 2) l71 c71 k71
  have at71 : td71.At K mg f71 _ := ⟨F71, PySem.W.mg_of X G a71, F71.binds (ps := ["groups", "part", "pairs"]) fun _ _ _ _ _ _ us hl => match us, hl with | [_, _, _], _ => rfl⟩
  have F72 := fun_mk (st := topS 3) l72 c72 k72
  have at72 : td72.At K mg f72 _ := ⟨F72, PySem.W.mg_of X G a72, F72.binds (ps := ["groups", "many", "pairs", "most"]) fun _ _ _ _ _ _ us hl => match us, hl with | [_, _, _, _], _ => rfl⟩
  have F73 := fun_mk (st := topS 4) l73 c73 k73
  have at73 : td73.At K mg f73 _ := ⟨F73, PySem.W.mg_of X G a73, F73.binds (ps := ["many", "clashes"]) fun _ _ _ _ _ _ us hl => match us, hl with | [_, _], _ => rfl⟩
  have F6 := fun_mk (st := topS 6) l6 c6 k6
  have at6 : td6.At K mg f6 _ := ⟨F6, PySem.W.mg_of X G a6, F6.binds (ps := ["_law_script", "_law_k"]) fun _ _ _ _ _ _ us hl => match us, hl with | [_, _], _ => rfl⟩
  have F35 := fun_mk (st := topS 7) l35 c35 k35
  have at35 : td35.At K mg f35 _ := ⟨F35, PySem.W.mg_of X G a35, F35.binds (ps := ["_law_cell", "_law_k"]) fun _ _ _ _ _ _ us hl => match us, hl with | [_, _], _ => rfl⟩
  have F49 := fun_mk (st := topS 8) l49 c49 k49
  have at49 : td49.At K mg f49 _ := ⟨F49, PySem.W.mg_of X G a49, F49.binds (ps := ["_law_many"]) fun _ _ _ _ _ _ us hl => match us, hl with | [_], _ => rfl⟩
  have F67 := fun_mk (st := topS 9) l67 c67 k67
  have at67 : td67.At K mg f67 _ := ⟨F67, PySem.W.mg_of X G a67, F67.binds (ps := ["_law_cells", "_law_many", "_law_share"]) fun _ _ _ _ _ _ us hl => match us, hl with | [_, _, _], _ => rfl⟩
  have F103 := fun_mk (st := topS 10) l103 c103 k103
  have at103 : td103.At K mg f103 _ := ⟨F103, PySem.W.mg_of X G a103, F103.binds (ps := ["_law_clashes_here", "_law_i", "_law_j"]) fun _ _ _ _ _ _ us hl => match us, hl with | [_, _, _], _ => rfl⟩
  have F104 := fun_mk (st := topS 11) l104 c104 k104
  have at104 : td104.At K mg fa _ := ⟨F104, PySem.W.mg_of X G a104, F104.binds (ps := ["_law_script"]) fun _ _ _ _ _ _ us hl => match us, hl with | [_], _ => rfl⟩
  refine ⟨PySem.W.fnOf "law" "law" (defArgs (topS 11)) (defBody (topS 11)) (defScope (topS 11)) .none kV104 dc104 pm104 an104 cd104 ct104, fun s v => .of_eq rfl, fun base _ _ => ?_⟩
  refine tab_ok (tds := tds) (gls := gls) tbl fns tds_look fns_td tds_good (fun t m => ?_) (fun x m => ?_) (fun p m => ?_) 20 td104 (by unfold tds; simp only [List.mem_cons, true_or, or_true]) fa _ at104
  · simp only [tds, List.mem_cons, List.not_mem_nil, or_false] at m
    rcases m with rfl | rfl | rfl | rfl | rfl | rfl | rfl | rfl | rfl | rfl
    · exact ⟨_, _, at70⟩
    · exact ⟨_, _, at71⟩
    · exact ⟨_, _, at72⟩
    · exact ⟨_, _, at73⟩
    · exact ⟨_, _, at6⟩
    · exact ⟨_, _, at35⟩
    · exact ⟨_, _, at49⟩
    · exact ⟨_, _, at67⟩
    · exact ⟨_, _, at103⟩
    · exact ⟨_, _, at104⟩
  · simp only [biNames, List.mem_cons, List.not_mem_nil, or_false] at m
    rcases m with rfl | rfl | rfl | rfl | rfl | rfl | rfl | rfl | rfl | rfl | rfl | rfl | rfl | rfl | rfl | rfl | rfl | rfl | rfl
    · exact PySem.W.mg_none_of X G z0
    · exact PySem.W.mg_none_of X G z1
    · exact PySem.W.mg_none_of X G z2
    · exact PySem.W.mg_none_of X G z3
    · exact PySem.W.mg_none_of X G z4
    · exact PySem.W.mg_none_of X G z5
    · exact PySem.W.mg_none_of X G z6
    · exact PySem.W.mg_none_of X G z7
    · exact PySem.W.mg_none_of X G z8
    · exact PySem.W.mg_none_of X G z9
    · exact PySem.W.mg_none_of X G z10
    · exact PySem.W.mg_none_of X G z11
    · exact PySem.W.mg_none_of X G z12
    · exact PySem.W.mg_none_of X G z13
    · exact PySem.W.mg_none_of X G z14
    · exact PySem.W.mg_none_of X G z15
    · exact PySem.W.mg_none_of X G z16
    · exact PySem.W.mg_none_of X G z17
    · exact PySem.W.mg_none_of X G z18
  · cases m
end RL
open PySem PySem.W PyProof.Rows
set_option maxRecDepth 100000 in
set_option maxHeartbeats 0 in
theorem PySem.Challenge.cw_troupe_k34_one_or_apart_holds : PySem.Challenge.rw_troupe_k34_one_or_apart.Holds := by
  w_on; o_law; k_head; (case hw => w_witness2)
  k_fill
  refine L2.walk_of (l := PySem.Challenge.rw_troupe_k34_one_or_apart) (n := 63) (k := 20) (x := "_law_script") (CX := fun _ => L2.CX0) (sp := fun w => R.spEv RL.tbl _ 20 104) rfl (by decide) rfl ⟨rfl, by decide, by decide⟩ (fun w h Y => PySem.W.kIn_of Y) ?F (fun w H a ns hl _ hS => R.law_sp hl hS (RL.law_true ns hl)) (fun _ _ _ _ _ h => h)
  case F =>
    intro w mg fa h KX G hmg
    refine' RL.all_at KX G hmg ?a70 ?l70 ?c70 ?k70 ?a71 ?l71 ?c71 ?k71 ?a72 ?l72 ?c72 ?k72 ?a73 ?l73 ?c73 ?k73 ?a6 ?l6 ?c6 ?k6 ?a35 ?l35 ?c35 ?k35 ?a49 ?l49 ?c49 ?k49 ?a67 ?l67 ?c67 ?k67 ?a103 ?l103 ?c103 ?k103 ?a104 ?l104 ?c104 ?k104 ?z0 ?z1 ?z2 ?z3 ?z4 ?z5 ?z6 ?z7 ?z8 ?z9 ?z10 ?z11 ?z12 ?z13 ?z14 ?z15 ?z16 ?z17 ?z18
    (case a70 => k_is)
    (case l70 => k_is)
    (case c70 => k_is)
    (case k70 => k_is)
    (case a71 => k_is)
    (case l71 => k_is)
    (case c71 => k_is)
    (case k71 => k_is)
    (case a72 => k_is)
    (case l72 => k_is)
    (case c72 => k_is)
    (case k72 => k_is)
    (case a73 => k_is)
    (case l73 => k_is)
    (case c73 => k_is)
    (case k73 => k_is)
    (case a6 => k_is)
    (case l6 => k_is)
    (case c6 => k_is)
    (case k6 => k_is)
    (case a35 => k_is)
    (case l35 => k_is)
    (case c35 => k_is)
    (case k35 => k_is)
    (case a49 => k_is)
    (case l49 => k_is)
    (case c49 => k_is)
    (case k49 => k_is)
    (case a67 => k_is)
    (case l67 => k_is)
    (case c67 => k_is)
    (case k67 => k_is)
    (case a103 => k_is)
    (case l103 => k_is)
    (case c103 => k_is)
    (case k103 => k_is)
    (case a104 => k_is)
    (case l104 => k_is)
    (case c104 => k_is)
    (case k104 => k_is)
    (case z0 => k_is)
    (case z1 => k_is)
    (case z2 => k_is)
    (case z3 => k_is)
    (case z4 => k_is)
    (case z5 => k_is)
    (case z6 => k_is)
    (case z7 => k_is)
    (case z8 => k_is)
    (case z9 => k_is)
    (case z10 => k_is)
    (case z11 => k_is)
    (case z12 => k_is)
    (case z13 => k_is)
    (case z14 => k_is)
    (case z15 => k_is)
    (case z16 => k_is)
    (case z17 => k_is)
    (case z18 => k_is)

