import PyProof.Rows.All
import PySem.Challenge.RW_troupe_k21_evenings
import HandS.ForMost
import HandS.Conv
import HandS.TupAny
import HandS.Deep
import HandS.Flow
import HandS.Exc
import KE.GoesEnum
import KE.GoesMore
import HandS.TupMul
import HandS.SortKw
import KE.DataMinMax
import HandS.NoneIn
import HandS.More
import HandS.Style
import KE.LtSeq
import KE.KDictKeyed
import HandS.SetFor
import HandS.Strs
import HandS.NamedTupSort
import HandS.TupSets
import HandS.SetKeys
import PyProof.StrWalks
import HandS.FStr
import HandS.StrMore
import HandS.Zip
import HandS.IsInst
import HandS.SortRule
import HandS.SortInts
import HandS.TryOnly
import HandS.ExcValue
import HandS.ExcIs
import HandS.ExcOwn
import HandS.WordsExc
import HandS.HeadWalk
import HandS.CallRecv
import PyProof.NoPylong
import KE.KExcIs
import HandS.Words
import HandS.Ends
import HandS.Codes
set_option Elab.async false
set_option linter.all false
set_option linter.all false
/-! A small language of plain data: terms that mirror the text's expressions and statements, and what they compute. -/
namespace R
open PySem L2

/-- plain data -/
inductive D where
  | non | bl (b : Bool) | int (i : Int) | str (x : Str)
  | tup (xs : List D) | lst (xs : List D)
  | dk (ks : List Key) (vs : List D) | dt (ks : List (List Key)) (vs : List D)
  | scr (ns : List Int)
  | exc (c : Str)
  | ob (c : Str) (ns : List Str) (ks : List Bool) (ds : List D)
  | io (js : List Nat) (r : D) (outs : List D)
  deriving Inhabited

inductive Kd | fz | ow | bo
  deriving DecidableEq, Inhabited

inductive BOp | add | sub | mul | fdiv | mod | pow
  deriving DecidableEq
inductive COp | eq | ne | lt | le | gt | ge | is | isnt | isin | notin
  deriving DecidableEq
/-- built-in functions -/
inductive BI | len | tuple | list | int | str | sorted | all | max | min | sum | maxd (d : Int) | lenset | isBool | isInt | isStr | isList | isTuple | tupRange | lstRange | dict | ord | reversed | sortedSet | isExc (tp : Bool) (rz cs : List Str) | fstr (ps : List (Option Str)) | excAt (rz : List Str)
  deriving DecidableEq
/-- methods of built-in types -/
inductive MI | join | split | strip | get | index
  deriving DecidableEq
/-- .. that change their object -/
inductive MS | append | reverse | insert | pop0 | pop1 | remove
  deriving DecidableEq
/-- what is walked -/
inductive SK | seq | rng | enum | zip | rev | keys
  deriving DecidableEq
inductive Tg | nm (i : Nat) | tp (is : List Nat)
  deriving DecidableEq

inductive IE where
  | var (i : Nat)
  | int (i : Int) | bl (b : Bool) | non | str (x : Str)
  | glb (x : Str) (d : D)
  | bin (op : BOp) (a b : IE)
  | cmp (op : COp) (a b : IE)
  | chain (op op' : COp) (a b c : IE)
  | and (a b : IE) | or (a b : IE) | not (a : IE) | neg (a : IE)
  | ifx (c a b : IE)
  | tup (es : List IE) | lst (es : List IE)
  | ix (a b : IE) | slc (a : IE) (lo hi : Option IE)
  | call (f : Nat) (es : List IE)
  | bcall (f : Nat) (es : List IE)
  | callF (f : Nat) (es : List IE)
  | bi (b : BI) (es : List IE)
  | mt (m : MI) (o : IE) (es : List IE)
  | lc (elt : IE) (g : Tg) (k : SK) (src : List IE) (ifs : List IE)
  | dnew (t : Bool)
  | disp (t : Bool) (ks vs : List IE)
  | fld (cs : List Str) (o : IE) (x : Str)
  | make (c : Str) (f : Nat) (es : List IE)
  | callm (f : Nat) (js : List Nat) (es : List IE)
  | mcall (cs : List (Str × Nat)) (m : Str) (js : List Nat) (o : IE) (es : List IE)

inductive IS where
  | set (g : Tg) (e : IE)
  | setix (i : Nat) (k v : IE)
  | ms (m : MS) (i : Nat) (es : List IE)
  | msv (g : Tg) (i : Nat)
  | frz (i : Nat)
  | ite (c : IE) (a b : List IS)
  | for_ (g : Tg) (k : SK) (src : List IE) (body : List IS)
  | forq (g : Tg) (i : Nat) (c e : IE)
  | whl (c : IE) (body : List IS)
  | ret (e : IE) | retn | brk | cnt | pass
  | expr (e : IE)
  | raise (c : Str)
  | xcall (f : Nat) (es : List IE)
  | tryx (body : List IS) (rz : List Str) (t : Str) (v en : Nat)
  | raisev (c : Str) (e : IE)
  | tryat (body : List IS) (c : Str) (v en : Nat)
  | stuck
  | setx (g : Tg) (e : IE)
  | itex (c : IE) (a b : List IS)
  | retx (e : IE)
  | rett (js : List Nat) (e : IE)
  | exprx (e : IE)
  | fset (cs : List Str) (i : Nat) (x : Str) (e : IE)
  | msf (cs : List Str) (m : MS) (i : Nat) (x : Str) (es : List IE)
  | msvi (g : Tg) (i : Nat) (e : IE)
  | retw (js : List Nat) (es : List IE)
  | lendq (i : Nat) (c : IE) (b : Bool)
  | lends (k : Nat) (i : Nat) (e : IE)
  | msk (m : MS) (i : Nat) (j : Nat) (es : List IE)
  | mspop (i j : Nat) (e : IE)
  | setl (is : List Nat) (e : IE)

abbrev Env := List (Option (Kd × D))
inductive Out | nx (ρ : Env) | rt (k : Kd) (d : D) | bk (ρ : Env) | ct (ρ : Env)

abbrev LINE : Nat := 16777216

def okS (x : Str) : Bool := decide (x.length ≤ LINE) && PyData.strOk x
def okK : Key → Bool
  | .inl _ => true
  | .inr x => okS x
def okKs (k : List Key) : Bool := decide (k.length ≤ LINE) && k.all okK
/-! ### data: depth, as the library's own -/
mutual
def D.py : D → PyData
  | .non => .none
  | .bl b => .bool b
  | .int i => .int i
  | .str x => .str x
  | .tup xs => .tuple (D.pys xs)
  | .lst xs => .list (D.pys xs)
  | .dk _ _ => .dict []
  | .dt _ _ => .dict []
  | .scr ns => .list (ns.map .int)
  | .exc _ => .dict []
  | .ob _ _ _ _ => .dict []
  | .io _ _ _ => .dict []
def D.pys : List D → List PyData
  | [] => []
  | x :: xs => D.py x :: D.pys xs
end
mutual
def D.dep : D → Nat
  | .tup xs => D.deps xs + 1
  | .lst xs => D.deps xs + 1
  | .dk _ _ => 1000
  | .dt _ _ => 1000
  | .scr _ => 1
  | .exc _ => 1000
  | .ob _ _ _ _ => 1000
  | .io _ _ _ => 1000
  | .non => 0
  | .bl _ => 0
  | .int _ => 0
  | .str _ => 0
def D.deps : List D → Nat
  | [] => 0
  | x :: xs => max (D.dep x) (D.deps xs)
end
def eqv (a b : D) : Bool := PyData.eqv a.py b.py
def flat : D → Bool
  | .non => true | .bl _ => true | .int _ => true | .str _ => true | _ => false
def keyOf : D → Option Key
  | .int i => some (.inl i)
  | .str x => some (.inr x)
  | _ => none
def keysOf : List D → Option (List Key)
  | [] => some []
  | d :: ds => match keyOf d, keysOf ds with
    | some k, some ks => some (k :: ks)
    | _, _ => none
def dOfKey : Key → D
  | .inl i => .int i
  | .inr x => .str x
def look {κ : Type} [DecidableEq κ] : List κ → List D → κ → Option D
  | k :: ks, v :: vs, q => if k = q then some v else look ks vs q
  | _, _, _ => none
def has {κ : Type} [DecidableEq κ] (ks : List κ) (q : κ) : Bool := ks.any fun z => decide (z = q)
/-- d[k] = v: in its place, or at the end -/
def put {κ : Type} [DecidableEq κ] (ks : List κ) (vs : List D) (q : κ) (w : D) : List D :=
  if has ks q then (ks.zip vs).map (fun p => if p.1 = q then w else p.2) else vs ++ [w]
def putk {κ : Type} [DecidableEq κ] (ks : List κ) (q : κ) : List κ := if has ks q then ks else ks ++ [q]
/-- truth -/
def truD : D → Option Bool
  | .non => some false
  | .bl b => some b
  | .int i => some (i != 0)
  | .str x => some ((x.length : Int) != 0)
  | .tup xs => some (!xs.isEmpty)
  | .lst xs => some (!xs.isEmpty)
  | .scr ns => some (!ns.isEmpty)
  | _ => none
def onT : Option (Kd × D) → Option Bool
  | some (_, d) => truD d
  | none => none
/-- a list's items -/
def items : D → Option (List D)
  | .lst ds => some ds
  | .tup ds => some ds
  | .scr ns => some (ns.map .int)
  | _ => none
def litems : D → Option (List D)
  | .lst ds => some ds
  | .scr ns => some (ns.map .int)
  | _ => none
def signs (x : Str) : List D := x.cps.toList.map fun c => .str ⟨#[c]⟩
def small64 (i : Int) : Bool := decide (-(2 ^ 64) < i) && decide (i < 2 ^ 64)
def small62 (i : Int) : Bool := decide (-(2 ^ 62) ≤ i) && decide (i < 2 ^ 62)
def cut {α : Type} (xs : List α) (lo hi : Option Int) : List α := (xs.drop (HT.sIx xs.length 0 lo)).take (HT.sIx xs.length xs.length hi - HT.sIx xs.length 0 lo)

/-- the greatest, or d -/
def maxDI (d : Int) : List Int → Int
  | [] => d
  | n :: ns => ns.foldl max n
def binD : BOp → D → D → Option (Kd × D)
  | .add, .int i, .int j => some (.fz, .int (i + j))
  | .add, .str x, .str y => if x.length + y.length ≤ LINE then some (.fz, .str (x ++ y)) else none
  | .add, .lst xs, .lst ys => if xs.length + ys.length ≤ LINE then some (.ow, .lst (xs ++ ys)) else none
  | .add, .tup xs, .tup ys => if xs.length + ys.length ≤ LINE then some (.fz, .tup (xs ++ ys)) else none
  | .sub, .int i, .int j => some (.fz, .int (i - j))
  | .mul, .int i, .int j => if small64 i || small64 j then some (.fz, .int (i * j)) else none
  | .mul, .lst xs, .int k => if small62 k && decide (xs.length * k.toNat ≤ LINE) then some (.ow, .lst (List.replicate k.toNat xs).flatten) else none
  | .mul, .tup xs, .int k => if (xs.length ≠ 0 ∧ xs.length ≤ 1000) ∧ -1000 ≤ k ∧ k ≤ 1000 then some (.fz, .tup (List.replicate k.toNat xs).flatten) else none
  | .fdiv, .int i, .int j => if j ≠ 0 ∧ j.natAbs < 1152921504606846976 then some (.fz, .int (i.fdiv j)) else none
  | .mod, .int i, .int j => if j ≠ 0 then some (.fz, .int (i.fmod j)) else none
  | .pow, .int i, .int j => if 0 ≤ j ∧ j ≤ 1000000 ∧ small62 i then some (.fz, .int (i ^ j.toNat)) else none
  | _, _, _ => none

def isNon : D → Bool
  | .non => true
  | _ => false
def intsD : List D → Option (List Int)
  | [] => some []
  | .int i :: ds => (intsD ds).map (i :: ·)
  | _ :: _ => none
/-- lists of ints, in order -/
def ltIL : List Int → List Int → Bool
  | _, [] => false
  | [], _ :: _ => true
  | a :: as, b :: bs => if a = b then ltIL as bs else decide (a < b)
def isDct : D → Bool
  | .dk _ _ => true
  | .dt _ _ => true
  | _ => false
def cmpD : COp → D → D → Option Bool
  | .eq, a, b => if a.dep ≤ 60 ∧ b.dep ≤ 60 then some (eqv a b) else none
  | .ne, a, b => if a.dep ≤ 60 ∧ b.dep ≤ 60 then some (!eqv a b) else none
  | .lt, .int i, .int j => some (decide (i < j))
  | .le, .int i, .int j => some (decide (i ≤ j))
  | .gt, .int i, .int j => some (decide (j < i))
  | .ge, .int i, .int j => some (decide (j ≤ i))
  | .lt, .lst xs, .lst ys => match intsD xs, intsD ys with | some ns, some ms => some (ltIL ns ms) | _, _ => none
  | .is, a, .non => some (isNon a)
  | .isnt, a, .non => some (!isNon a)
  | .is, .bl a, .bl b => some (decide (a = b))
  | .isnt, .bl a, .bl b => some (!decide (a = b))
  | .isin, a, .lst ds => if a.dep ≤ 60 ∧ D.deps ds ≤ 60 then some (ds.any fun z => eqv z a) else if isNon a && ds.all (fun d => isNon d || isDct d) then some (ds.any isNon) else none
  | .notin, a, .lst ds => if a.dep ≤ 60 ∧ D.deps ds ≤ 60 then some (!ds.any fun z => eqv z a) else if isNon a && ds.all (fun d => isNon d || isDct d) then some (!ds.any isNon) else none
  | .isin, a, .tup ds => if flat a && ds.all flat then some (ds.any fun z => eqv z a) else if a.dep ≤ 60 ∧ D.deps ds ≤ 60 then some (ds.any fun z => eqv z a) else none
  | .notin, a, .tup ds => if flat a && ds.all flat then some (!ds.any fun z => eqv z a) else if a.dep ≤ 60 ∧ D.deps ds ≤ 60 then some (!ds.any fun z => eqv z a) else none
  | .isin, .str x, .str y => if x.length = 1 then some (decide (x.cps.getD 0 0 ∈ y.cps.toList)) else none
  | .notin, .str x, .str y => if x.length = 1 then some (!decide (x.cps.getD 0 0 ∈ y.cps.toList)) else none
  | .isin, a, .dk ks _ => (keyOf a).map fun (q : Key) => has ks q
  | .notin, a, .dk ks _ => (keyOf a).map fun (q : Key) => !has ks q
  | .isin, .tup a, .dt ks _ => (keysOf a).map fun (q : List Key) => has ks q
  | .notin, .tup a, .dt ks _ => (keysOf a).map fun (q : List Key) => !has ks q
  | _, _, _ => none

def ixD : D → D → Option D
  | .lst xs, .int i => atI xs i
  | .tup xs, .int i => atI xs i
  | .scr ns, .int i => (atI ns i).map .int
  | .str x, .int i => (atI x.cps.toList i).map fun c => .str ⟨#[c]⟩
  | .dk ks vs, .int i => if i < 0 then none else look ks vs (.inl i)
  | .dk ks vs, .str x => look ks vs (.inr x)
  | .dt ks vs, .tup a => (keysOf a).bind (look ks vs)
  | _, _ => none

def slcD : D → Option Int → Option Int → Option (Kd × D)
  | .lst xs, lo, hi => some (.ow, .lst (cut xs lo hi))
  | .tup xs, lo, hi => some (.fz, .tup (cut xs lo hi))
  | .scr ns, lo, hi => some (.ow, .lst ((cut ns lo hi).map .int))
  | .str x, lo, hi => some (.fz, .str ⟨(cut x.cps.toList lo hi).toArray⟩)
  | _, _, _ => none

def boolsD : List D → Option (List Bool)
  | [] => some []
  | .bl i :: ds => (boolsD ds).map (i :: ·)
  | _ :: _ => none
def strsD : List D → Option (List Str)
  | [] => some []
  | .str i :: ds => (strsD ds).map (i :: ·)
  | _ :: _ => none
/-- pairsD of intsD -/
def pairsD : List D → Option (List (Int × Int))
  | [] => some []
  | .tup [.int i, .int j] :: ds => (pairsD ds).map ((i, j) :: ·)
  | _ :: _ => none
def smallP (p : Int × Int) : Bool := decide (0 ≤ p.1) && decide (p.1 < 12) && decide (0 ≤ p.2) && decide (p.2 < 12)
def maxI : List Int → Int
  | [] => 0
  | [x] => x
  | x :: xs => max x (maxI xs)
def minI : List Int → Int
  | [] => 0
  | [x] => x
  | x :: xs => min x (minI xs)
def insI (x : Int) : List Int → List Int
  | [] => [x]
  | y :: ys => if x ≤ y then x :: y :: ys else y :: insI x ys
def sortI : List Int → List Int
  | [] => []
  | x :: xs => insI x (sortI xs)
def leP (x y : Int × Int) : Bool := decide (x.1 < y.1) || (decide (x.1 = y.1) && decide (x.2 ≤ y.2))
def insP (x : Int × Int) : List (Int × Int) → List (Int × Int)
  | [] => [x]
  | y :: ys => if leP x y then x :: y :: ys else y :: insP x ys
def sortP : List (Int × Int) → List (Int × Int)
  | [] => []
  | x :: xs => insP x (sortP xs)
def ofPair (p : Int × Int) : D := .tup [.int p.1, .int p.2]
def tupsD : List D → Option (List (List Int))
  | [] => some []
  | .tup xs :: ds => match intsD xs with
    | some ns => (tupsD ds).map (ns :: ·)
    | none => none
  | _ :: _ => none
def insT (x : List Int) : List (List Int) → List (List Int)
  | [] => [x]
  | y :: ys => if HT.lexLt y x = false then x :: y :: ys else y :: insT x ys
def sortT : List (List Int) → List (List Int)
  | [] => []
  | x :: xs => insT x (sortT xs)
def ofInts (k : List Int) : D := .tup (k.map .int)
/-- each text once -/
def onceS (ks : List Str) : List Str := ks.foldl (fun acc k => if k ∈ acc then acc else acc ++ [k]) []
/-- a text's signs -/
def signL (x : Str) : List Str := x.cps.toList.map fun c => ⟨#[c]⟩
/-- the first of each -/
def dedup (ns : List Int) : List Int := ns.foldl PyProof.Rows.step_dedup []
def rangeL (a b : Int) : List Int := (List.range (b - a).toNat).map fun i => a + (i : Nat)

def downL (a b : Int) : List Int := (List.range (a - b).toNat).map fun i => a - (i : Nat)

def isD : BI → D → Option Bool
  | _, .dk _ _ => none
  | _, .dt _ _ => none
  | _, .exc _ => none
  | _, .ob _ _ _ _ => none
  | _, .io _ _ _ => none
  | .isBool, .bl _ => some true
  | .isBool, _ => some false
  | .isInt, .bl _ => some true
  | .isInt, .int _ => some true
  | .isInt, _ => some false
  | .isStr, .str _ => some true
  | .isStr, _ => some false
  | .isList, .lst _ => some true
  | .isList, .scr _ => some true
  | .isList, _ => some false
  | .isTuple, .tup _ => some true
  | .isTuple, _ => some false
  | _, _ => none
/-- a refusal that carries a number -/
def excN (c : Str) (n : Nat) : Str := ⟨c.cps.push (1114112 + n)⟩
def excP (c : Str) : Option Nat := match c.cps.back? with
  | some k => if 1114112 ≤ k then some (k - 1114112) else none
  | none => none
def excC (c : Str) : Str := match excP c with
  | some _ => ⟨c.cps.pop⟩
  | none => c
theorem excP_N (c : Str) (n : Nat) : excP (excN c n) = some n := by
  simp [excP, excN]
theorem excC_N (c : Str) (n : Nat) : excC (excN c n) = c := by
  unfold excC
  rw [excP_N]
  simp [excN]
/-- classes of refusals: whether c stands under d -/
def excSub (c d : Str) : Option Bool :=
  if c ∈ (["NoBook", "NoChange", "NoCasting", "NoName", "NoRow"] : List Str) then
    (if d ∈ (["TroupeError", "ValueError"] : List Str) then some true
    else if d ∈ (["NoBook", "NoChange", "NoCasting", "NoName", "NoRow"] : List Str) then some (decide (c = d)) else none)
  else none
def excAny (c : Str) : List Str → Option Bool
  | [] => some false
  | d :: ds => match excSub c d with
    | none => none
    | some b => match excAny c ds with
      | none => none
      | some r => some (b || r)
/-- a pair of small numbers -/
def sqK : List Key → Bool
  | [.inl i, .inl j] => decide (0 ≤ i) && decide (i < 12) && decide (0 ≤ j) && decide (j < 12)
  | _ => false
/-- the text of an f-string: its own texts, what stands in its holes -/
def fsJ : List (Option Str) → List D → Option Str
  | [], [] => some Str.empty
  | some s :: ps, ds => (fsJ ps ds).map fun z => s ++ z
  | none :: ps, .str x :: ds => (fsJ ps ds).map fun z => x ++ z
  | none :: ps, .int i :: ds => if i.natAbs.log2 < 1920 then (fsJ ps ds).map fun z => Str.ofString (toString i) ++ z else none
  | _, _ => none
def biD : BI → List D → Option (Kd × D)
  | .len, [.lst xs] => some (.fz, .int xs.length)
  | .len, [.tup xs] => some (.fz, .int xs.length)
  | .len, [.scr xs] => some (.fz, .int xs.length)
  | .len, [.str x] => some (.fz, .int x.length)
  | .tuple, [.lst xs] => some (.fz, .tup xs)
  | .tuple, [.tup xs] => some (.fz, .tup xs)
  | .list, [.lst xs] => some (.ow, .lst xs)
  | .list, [.tup xs] => some (.ow, .lst xs)
  | .list, [.scr ns] => some (.ow, .lst (ns.map .int))
  | .list, [.dk ks _] => some (.ow, .lst (ks.map dOfKey))
  | .list, [.dt ks _] => some (.ow, .lst (ks.map fun k => .tup (k.map dOfKey)))
  | .int, [.bl b] => some (.fz, .int (if b then 1 else 0))
  | .int, [.int i] => some (.fz, .int i)
  | .int, [.str x] => if x.length ≤ 640 then (intText? x).map fun n => (.fz, .int n) else none
  | .str, [.int i] => if i.natAbs.log2 < 1920 ∧ okS (Str.ofString (toString i)) = true then some (.fz, .str (Str.ofString (toString i))) else none
  | .all, [.lst xs] => (boolsD xs).map fun bs => (.fz, .bl (bs.all id))
  | .max, [.int i, .int j] => some (.fz, .int (if j > i then j else i))
  | .min, [.int i, .int j] => some (.fz, .int (if j < i then j else i))
  | .max, [.lst xs] => (intsD xs).bind fun ns => if ns = [] then none else some (.fz, .int (maxI ns))
  | .min, [.lst xs] => (intsD xs).bind fun ns => if ns = [] then none else some (.fz, .int (minI ns))
  | .sum, [.lst xs] => (intsD xs).map fun ns => (.fz, .int ns.sum)
  | .isBool, [d] => (isD .isBool d).map fun c => (.fz, .bl c)
  | .isInt, [d] => (isD .isInt d).map fun c => (.fz, .bl c)
  | .isStr, [d] => (isD .isStr d).map fun c => (.fz, .bl c)
  | .isList, [d] => (isD .isList d).map fun c => (.fz, .bl c)
  | .isTuple, [d] => (isD .isTuple d).map fun c => (.fz, .bl c)
  | .tupRange, [.int n] => if small62 n ∧ n.toNat ≤ LINE then some (.fz, .tup ((rangeL 0 n).map .int)) else none
  | .tupRange, [.int a, .int b] => if small62 a ∧ small62 b ∧ (b - a).toNat ≤ LINE then some (.fz, .tup ((rangeL a b).map .int)) else none
  | .lstRange, [.int n] => if small62 n ∧ n.toNat ≤ LINE then some (.ow, .lst ((rangeL 0 n).map .int)) else none
  | .lstRange, [.int a, .int b] => if small62 a ∧ small62 b ∧ (b - a).toNat ≤ LINE then some (.ow, .lst ((rangeL a b).map .int)) else none
  | .sorted, [.lst xs] => match intsD xs with
    | some ns => some (.ow, .lst ((sortI ns).map .int))
    | none => match pairsD xs with
      | some ps => some (.ow, .lst ((sortP ps).map ofPair))
      | none => match tupsD xs with
        | some ([] :: ls) => some (.ow, .lst ((sortT ([] :: ls)).map ofInts))
        | _ => none
  | .maxd d, [.lst xs] => match intsD xs with
    | some ns => some (.fz, .int (maxDI d ns))
    | none => none
  | .lenset, [.lst xs] => match intsD xs with
    | some ns => if ns.length ≤ 4000 then some (.fz, .int (dedup ns).length) else none
    | none => match strsD xs with
      | some ks => if ks.length ≤ 4000 then some (.fz, .int (onceS ks).length) else none
      | none => match pairsD xs with
        | some ps => if ps.all smallP = true ∧ ps.Nodup ∧ ps.length ≤ 76 then some (.fz, .int ps.length) else none
        | none => none
  | .lenset, [.str x] => if x.length ≤ 4000 then some (.fz, .int (onceS (signL x)).length) else none
  | .fstr ps, ds => (fsJ ps ds).bind fun z => if okS z = true then some (.fz, .str z) else none
  | .lenset, [.tup xs] => match intsD xs with
    | some ns => if ns.length ≤ 4000 then some (.fz, .int (dedup ns).length) else none
    | none => none
  | .sortedSet, [.lst xs] => match intsD xs with
    | some ns => if ns.length ≤ 4000 ∧ (dedup ns).length < 64 then some (.ow, .lst ((sortI (dedup ns)).map .int)) else none
    | none => none
  | .dict, [.dt ks vs] => if ks.all sqK = true then some (.ow, .dt ks vs) else none
  | .isExc _ rz cs, [.exc c] => if excC c ∈ rz then (excAny (excC c) cs).map fun b => (.fz, .bl b) else none
  | .excAt rz, [.exc c] => match excP c with
    | some n => if excC c ∈ rz then some (.fz, .int n) else none
    | none => none
  | _, _ => none

def mtD : MI → D → List D → Option (Kd × D)
  | .join, .str a, [.lst xs] => (strsD xs).bind fun ys => if (ys.map (·.length)).sum + ys.length * a.length ≤ LINE ∧ okS (Txt.join a ys) = true then some (.fz, .str (Txt.join a ys)) else none
  | .split, .str a, [.str b] => if (b.length == 0) = false ∧ a.length + 2 ≤ LINE ∧ (Txt.split a b).length ≤ LINE ∧ (Txt.split a b).all okS = true then some (.ow, .lst ((Txt.split a b).map .str)) else none
  | .strip, .str a, [.str b] => if a.length ≤ LINE ∧ okS (Txt.stripChars a b) = true then some (.fz, .str (Txt.stripChars a b)) else none
  | .index, .lst xs, [d] => if d.dep ≤ 60 ∧ D.deps xs ≤ 60 then (xs.findIdx? fun z => eqv z d).map fun j => (.fz, .int (j : Nat)) else none
  | .get, .dk ks vs, [k, d] => if flat d then (keyOf k).map fun q => (.fz, (look ks vs q).getD d) else none
  | .get, .dt ks vs, [.tup k, d] => if flat d then (keysOf k).map fun q => (.fz, (look ks vs q).getD d) else none
  | _, _, _ => none
def dispD : Bool → List D → List D → Option (Kd × D)
  | true, [.tup a], [w] => (keysOf a).map fun (q : List Key) => (.ow, .dt [q] [w])
  | _, _, _ => none
/-- what is walked, as a list -/
def srcD : SK → List D → Option (List D)
  | .seq, [.str x] => some (signs x)
  | .seq, [d] => items d
  | .rng, [.int n] => if small62 n ∧ n.toNat ≤ LINE then some ((rangeL 0 n).map .int) else none
  | .rng, [.int a, .int b] => if small62 a ∧ small62 b ∧ (b - a).toNat ≤ LINE then some ((rangeL a b).map .int) else none
  | .rng, [.int a, .int b, .int c] => if small62 a ∧ small62 b ∧ (a - b).toNat ≤ LINE ∧ c = -1 then some ((downL a b).map .int) else none
  | .enum, [.lst ds] => some ((ds.zipIdx).map fun p => .tup [.int (p.2 : Nat), p.1])
  | .enum, [.tup ds] => some ((ds.zipIdx).map fun p => .tup [.int (p.2 : Nat), p.1])
  | .zip, [.lst xs, .lst ys] => some ((xs.zip ys).map fun p => .tup [p.1, p.2])
  | .keys, [.dk ks _] => some (ks.map dOfKey)
  | .keys, [.dt ks _] => some (ks.map fun k => .tup (k.map dOfKey))
  | _, _ => none

def setMany : List Nat → List D → Env → Option Env
  | [], [], ρ => some ρ
  | i :: is, d :: ds, ρ => if i < ρ.length then setMany is ds (ρ.set i (some (.fz, d))) else none
  | _, _, _ => none
def setTg : Tg → D → Env → Option Env
  | .nm i, d, ρ => if i < ρ.length then some (ρ.set i (some (.fz, d))) else none
  | .tp is, .tup ds, ρ => setMany is ds ρ
  | .tp _, _, _ => none
def tgS : Tg → List Nat
  | .nm i => [i]
  | .tp is => is
def wipeR (ρ : Env) : List Nat → Env
  | [] => ρ
  | v :: vs => (wipeR ρ vs).set v none

/-- a value that is handed on -/
def esc : Kd × D → Option D
  | (.bo, _) => none
  | (_, d) => some d
def consO : Option D → List D → List D
  | some y, ys => y :: ys
  | none, ys => ys
/-- a dict that is walked is frozen -/
def srcV (k : SK) (a b : Option (List D)) : Option (List D) := match k with
  | .keys => a
  | _ => b
/-- a call that ended: not by an exception -/
def okc : Option (Kd × D) → Option (Kd × D)
  | some (.bo, _) => none
  | r => r
mutual
/-- tuples and flat things alone -/
def D.nol : D → Bool
  | .non => true | .bl _ => true | .int _ => true | .str _ => true
  | .tup ds => D.nols ds
  | _ => false
def D.nols : List D → Bool
  | [] => true
  | d :: ds => D.nol d && D.nols ds
end
def nio : D → Bool
  | .io _ _ _ => false
  | _ => true
/-- a call that lends: what is told holds nothing of it -/
def flc (as : List D) : Option (Kd × D) → Option (Kd × D)
  | some (.fz, d) => if flat d || (d.nol && as.all nio) then some (.fz, d) else none
  | _ => none
/-- a field -/
def fldD (cs : List Str) (k : Kd) (x : Str) : D → Option (Kd × D)
  | .ob c ns ks ds => if c ∈ cs then match ns.findIdx? (fun y => decide (y = x)) with
    | none => none
    | some j => match ds[j]? with
      | none => none
      | some d => if k = .fz ∨ ks[j]? ≠ some true then some (.fz, d) else some (.bo, d)
    else none
  | _ => none
/-- what a class's making gives -/
def mkR : Option (Kd × D) → Option (Kd × D)
  | some (.bo, .io [0] .non [.ob c ns ks ds]) => some (.ow, .ob c ns ks ds)
  | _ => none
def lcRun (f : D → Option (Option D)) : List D → Option (List D)
  | [] => some []
  | x :: xs => match f x with
    | none => none
    | some r => match lcRun f xs with
      | none => none
      | some ys => some (consO r ys)

/-- what hangs on nothing that was there -/
def lone2 : Kd × D → Bool
  | (.fz, d) => flat d
  | (.ow, .lst ds) => ds.all flat
  | (.ow, .dk _ ds) => ds.all flat
  | (.ow, .dt _ ds) => ds.all flat
  | _ => false
/-- a call that is handed such things alone: a list of flat things that it gives is nobody else's -/
def frc : Option (Kd × D) → Option (Kd × D)
  | some (.fz, .lst ds) => if ds.all flat = true then some (.ow, .lst ds) else none
  | some (.ow, .lst ds) => if ds.all flat = true then some (.ow, .lst ds) else none
  | _ => none
section
variable (cl : Nat → List D → Option (Kd × D))
mutual
def evE : IE → Env → Option (Kd × D)
  | .var i, ρ => match ρ[i]? with
    | some (some (.fz, d)) => some (.fz, d)
    | some (some (_, d)) => some (.bo, d)
    | _ => none
  | .int i, _ => some (.fz, .int i)
  | .bl b, _ => some (.fz, .bl b)
  | .non, _ => some (.fz, .non)
  | .str x, _ => some (.fz, .str x)
  | .glb _ d, _ => some (.fz, d)
  | .bin op a b, ρ => match evE a ρ with
    | none => none
    | some (_, x) => match evE b ρ with
      | none => none
      | some (_, y) => binD op x y
  | .cmp op a b, ρ => match evE a ρ with
    | none => none
    | some (_, x) => match evE b ρ with
      | none => none
      | some (_, y) => match cmpD op x y with
        | none => none
        | some c => some (.fz, .bl c)
  | .chain op op' a b c, ρ => match evE a ρ with
    | none => none
    | some (_, x) => match evE b ρ with
      | none => none
      | some (_, y) => match cmpD op x y with
        | none => none
        | some false => some (.fz, .bl false)
        | some true => match evE c ρ with
          | none => none
          | some (_, z) => match cmpD op' y z with
            | none => none
            | some c => some (.fz, .bl c)
  | .and a b, ρ => match onT (evE a ρ) with
    | none => none
    | some true => evE b ρ
    | some false => evE a ρ
  | .or a b, ρ => match onT (evE a ρ) with
    | none => none
    | some true => evE a ρ
    | some false => evE b ρ
  | .not a, ρ => match onT (evE a ρ) with
    | none => none
    | some c => some (.fz, .bl (!c))
  | .neg a, ρ => match evE a ρ with
    | some (_, .int i) => some (.fz, .int (-i))
    | _ => none
  | .ifx c a b, ρ => match onT (evE c ρ) with
    | none => none
    | some true => evE a ρ
    | some false => evE b ρ
  | .tup es, ρ => match evF es ρ with
    | none => none
    | some ds => some (.fz, .tup ds)
  | .lst es, ρ => match evF es ρ with
    | none => none
    | some ds => some (.ow, .lst ds)
  | .ix a b, ρ => match evE a ρ with
    | none => none
    | some (_, x) => match evE b ρ with
      | none => none
      | some (_, y) => match ixD x y with
        | none => none
        | some d => some (.fz, d)
  | .slc a lo hi, ρ => match evE a ρ with
    | none => none
    | some (_, x) => match evO lo ρ with
      | none => none
      | some l => match evO hi ρ with
        | none => none
        | some h => slcD x l h
  | .call f es, ρ => match evF es ρ with
    | none => none
    | some ds => okc (cl f ds)
  | .bcall f es, ρ => match evB es ρ with
    | none => none
    | some ds => flc ds (cl f ds)
  | .callF f es, ρ => match evG es ρ with
    | none => none
    | some ds => frc (cl f ds)
  | .bi b es, ρ => match evB es ρ with
    | none => none
    | some ds => biD b ds
  | .mt m o es, ρ => match evE o ρ with
    | none => none
    | some (_, x) => match evB es ρ with
      | none => none
      | some ds => mtD m x ds
  | .lc elt g k src ifs, ρ => match srcV k (evF src ρ) (evB src ρ) with
    | none => none
    | some ds => match srcD k ds with
      | none => none
      | some xs => match lcRun (fun x => match setTg g x (wipeR ρ (tgS g)) with
          | none => none
          | some ρ' => match evI ifs ρ' with
            | none => none
            | some false => some none
            | some true => match evE elt ρ' with
              | none => none
              | some r => match esc r with
                | none => none
                | some d => some (some d)) xs with
        | none => none
        | some ys => some (.ow, .lst ys)
  | .dnew t, _ => some (.ow, if t then .dt [] [] else .dk [] [])
  | .disp t ks vs, ρ => match evF ks ρ, evF vs ρ with
    | some ds, some ws => dispD t ds ws
    | _, _ => none
  | .fld cs o x, ρ => match evE o ρ with
    | none => none
    | some (k, d) => fldD cs k x d
  | .make c f es, ρ => match evF es ρ with
    | none => none
    | some ds => mkR (cl f (.ob c [] [] [] :: ds))
  | .callm _ _ _, _ => none
  | .mcall _ _ _ _ _, _ => none
/-- several, handed on -/
def evF : List IE → Env → Option (List D)
  | [], _ => some []
  | e :: es, ρ => match evE e ρ with
    | none => none
    | some r => match esc r with
      | none => none
      | some d => match evF es ρ with
        | none => none
        | some ds => some (d :: ds)
/-- several, looked at -/
def evB : List IE → Env → Option (List D)
  | [], _ => some []
  | e :: es, ρ => match evE e ρ with
    | none => none
    | some (_, d) => match evB es ρ with
      | none => none
      | some ds => some (d :: ds)
/-- several that hang on nothing -/
def evG : List IE → Env → Option (List D)
  | [], _ => some []
  | e :: es, ρ => match evE e ρ with
    | none => none
    | some r => if lone2 r = true then match evG es ρ with
        | none => none
        | some ds => some (r.2 :: ds)
      else none
/-- tests, all true -/
def evI : List IE → Env → Option Bool
  | [], _ => some true
  | e :: es, ρ => match onT (evE e ρ) with
    | none => none
    | some true => evI es ρ
    | some false => some false
def evO : Option IE → Env → Option (Option Int)
  | none, _ => some none
  | some e, ρ => match evE e ρ with
    | some (_, .int i) => some (some i)
    | _ => none
end

/-! ### expressions that change what is lent to their calls, or raise; what they give is frozen -/
inductive XO | ok (d : D) (ρ : Env) | ex (c : Str)
inductive XA | ok (as : List (D ⊕ Nat)) (ρ : Env) | ex (c : Str)
def escO : Option (Kd × D) → Env → Option XO
  | some r, ρ => match esc r with
    | some d => some (.ok d ρ)
    | none => none
  | none, _ => none
def ownAt (ρ : Env) (i : Nat) : Option D := match ρ[i]? with
  | some (some (.ow, d)) => some d
  | _ => none
/-- the arguments as they are when all are there -/
def fillA (ρ : Env) : List (D ⊕ Nat) → Option (List D)
  | [] => some []
  | .inl d :: as => match fillA ρ as with
    | none => none
    | some ds => some (d :: ds)
  | .inr j :: as => match ownAt ρ j with
    | none => none
    | some d => match fillA ρ as with
      | none => none
      | some ds => some (d :: ds)
def owns : List (D ⊕ Nat) → List Nat
  | [] => []
  | .inl _ :: as => owns as
  | .inr j :: as => j :: owns as
/-- where the lent ones stand -/
def posA : Nat → List (D ⊕ Nat) → List Nat
  | _, [] => []
  | n, .inl _ :: as => posA (n + 1) as
  | n, .inr _ :: as => n :: posA (n + 1) as
def putOuts : List Nat → List D → Env → Option Env
  | [], [], ρ => some ρ
  | j :: js, d :: ds, ρ => putOuts js ds (ρ.set j (some (.ow, d)))
  | _, _, _ => none
/-- no number twice -/
def nodupB : List Nat → Bool
  | [] => true
  | x :: xs => !xs.contains x && nodupB xs
def callX (f : Nat) (as : List (D ⊕ Nat)) (ρ : Env) : Option XO := match fillA ρ as with
  | none => none
  | some ds => match cl f ds with
    | none => none
    | some (.bo, .exc c) => if owns as = [] then some (.ex c) else none
    | some (.bo, .io js r outs) => if posA 0 as = js ∧ nodupB (owns as) = true then match putOuts (owns as) outs ρ with
        | none => none
        | some ρ' => some (.ok r ρ')
      else none
    | some (.bo, _) => none
    | some (_, d) => if owns as = [] then some (.ok d ρ) else none
/-- what is lent: a slot that owns -/
def lentV (ρ : Env) : IE → Option (Nat × D)
  | .var j => match ownAt ρ j with
    | none => none
    | some d => some (j, d)
  | _ => none
/-- a method by its object's class -/
def dispM (cs : List (Str × Nat)) (m : Str) : D → Option Nat
  | .ob c ns _ _ => if m ∈ ns then none else cs.lookup c
  | _ => none
mutual
def evX : IE → Env → Option XO
  | .callm f js es, ρ => match evXA js 0 es ρ with
    | none => none
    | some (.ex c) => some (.ex c)
    | some (.ok as ρ') => callX cl f as ρ'
  | .mcall cs m js o es, ρ => if js.contains 0 then
      match lentV ρ o with
      | none => none
      | some (j, d) => match dispM cs m d with
        | none => none
        | some f => match evXA js 1 es ρ with
          | none => none
          | some (.ex c) => some (.ex c)
          | some (.ok as ρ') => callX cl f (.inr j :: as) ρ'
    else match evX o ρ with
      | none => none
      | some (.ex c) => some (.ex c)
      | some (.ok d ρ1) => match dispM cs m d with
        | none => none
        | some f => match evXA js 1 es ρ1 with
          | none => none
          | some (.ex c) => some (.ex c)
          | some (.ok as ρ') => callX cl f (.inl d :: as) ρ'
  | .and a b, ρ => match evX a ρ with
    | none => none
    | some (.ex c) => some (.ex c)
    | some (.ok d ρ') => match truD d with
      | none => none
      | some true => evX b ρ'
      | some false => some (.ok d ρ')
  | .or a b, ρ => match evX a ρ with
    | none => none
    | some (.ex c) => some (.ex c)
    | some (.ok d ρ') => match truD d with
      | none => none
      | some true => some (.ok d ρ')
      | some false => evX b ρ'
  | .not a, ρ => match evX a ρ with
    | none => none
    | some (.ex c) => some (.ex c)
    | some (.ok d ρ') => match truD d with
      | none => none
      | some t => some (.ok (.bl (!t)) ρ')
  | .bin op a b, ρ => match evX a ρ with
    | none => none
    | some (.ex c) => some (.ex c)
    | some (.ok d ρ') => match evX b ρ' with
      | none => none
      | some (.ex c) => some (.ex c)
      | some (.ok e ρ'') => escO (binD op d e) ρ''
  | .cmp op a b, ρ => match evX a ρ with
    | none => none
    | some (.ex c) => some (.ex c)
    | some (.ok d ρ') => match evX b ρ' with
      | none => none
      | some (.ex c) => some (.ex c)
      | some (.ok e ρ'') => match cmpD op d e with
        | none => none
        | some t => some (.ok (.bl t) ρ'')
  | .var i, ρ => escO (evE cl (.var i) ρ) ρ
  | .int i, ρ => escO (evE cl (.int i) ρ) ρ
  | .bl i, ρ => escO (evE cl (.bl i) ρ) ρ
  | .non, ρ => escO (evE cl .non ρ) ρ
  | .str i, ρ => escO (evE cl (.str i) ρ) ρ
  | .glb x d, ρ => escO (evE cl (.glb x d) ρ) ρ
  | .chain a b c d e, ρ => escO (evE cl (.chain a b c d e) ρ) ρ
  | .neg a, ρ => escO (evE cl (.neg a) ρ) ρ
  | .ifx a b c, ρ => escO (evE cl (.ifx a b c) ρ) ρ
  | .tup es, ρ => escO (evE cl (.tup es) ρ) ρ
  | .lst es, ρ => escO (evE cl (.lst es) ρ) ρ
  | .ix a b, ρ => escO (evE cl (.ix a b) ρ) ρ
  | .slc a b c, ρ => escO (evE cl (.slc a b c) ρ) ρ
  | .call a b, ρ => escO (evE cl (.call a b) ρ) ρ
  | .bcall a b, ρ => escO (evE cl (.bcall a b) ρ) ρ
  | .callF a b, ρ => escO (evE cl (.callF a b) ρ) ρ
  | .bi a b, ρ => escO (evE cl (.bi a b) ρ) ρ
  | .mt a b c, ρ => escO (evE cl (.mt a b c) ρ) ρ
  | .lc a b c d e, ρ => escO (evE cl (.lc a b c d e) ρ) ρ
  | .dnew a, ρ => escO (evE cl (.dnew a) ρ) ρ
  | .disp a b c, ρ => escO (evE cl (.disp a b c) ρ) ρ
  | .fld a b c, ρ => escO (evE cl (.fld a b c) ρ) ρ
  | .make a b c, ρ => escO (evE cl (.make a b c) ρ) ρ
/-- arguments; those at js are lent: slots that own -/
def evXA : List Nat → Nat → List IE → Env → Option XA
  | _, _, [], ρ => some (.ok [] ρ)
  | js, n, e :: es, ρ => if js.contains n then
      match lentV ρ e with
      | none => none
      | some (j, _) => match evXA js (n + 1) es ρ with
          | none => none
          | some (.ex c) => some (.ex c)
          | some (.ok as ρ') => some (.ok (.inr j :: as) ρ')
    else match evX e ρ with
      | none => none
      | some (.ex c) => some (.ex c)
      | some (.ok d ρ') => match evXA js (n + 1) es ρ' with
        | none => none
        | some (.ex c) => some (.ex c)
        | some (.ok as ρ'') => some (.ok (.inl d :: as) ρ'')
end

inductive XT | ok (t : Bool) (ρ : Env) | ex (c : Str)
def truX : Option XO → Option XT
  | none => none
  | some (.ex c) => some (.ex c)
  | some (.ok d ρ) => match truD d with
    | none => none
    | some t => some (.ok t ρ)
def onTX (ρ : Env) : Option Bool → Option XT
  | none => none
  | some t => some (.ok t ρ)
/-- tests -/
def evXT : IE → Env → Option XT
  | .and a b, ρ => match evXT a ρ with
    | none => none
    | some (.ex c) => some (.ex c)
    | some (.ok true ρ') => evXT b ρ'
    | some (.ok false ρ') => some (.ok false ρ')
  | .or a b, ρ => match evXT a ρ with
    | none => none
    | some (.ex c) => some (.ex c)
    | some (.ok true ρ') => some (.ok true ρ')
    | some (.ok false ρ') => evXT b ρ'
  | .not a, ρ => match evXT a ρ with
    | none => none
    | some (.ex c) => some (.ex c)
    | some (.ok t ρ') => some (.ok (!t) ρ')
  | .callm f js es, ρ => truX (evX cl (.callm f js es) ρ)
  | .mcall cs m js o es, ρ => truX (evX cl (.mcall cs m js o es) ρ)
  | e, ρ => onTX ρ (onT (evE cl e ρ))

/-! ### statements -/
/-- a loop over items -/
def forRun (f : D → Env → Option Out) : List D → Env → Option Out
  | [], ρ => some (.nx ρ)
  | x :: xs, ρ => match f x ρ with
    | some (.nx ρ') => forRun f xs ρ'
    | some (.ct ρ') => forRun f xs ρ'
    | some (.bk ρ') => some (.nx ρ')
    | some (.rt k d) => some (.rt k d)
    | none => none
def whlRun (c : Env → Option Bool) (f : Env → Option Out) : Nat → Env → Option Out
  | 0, _ => none
  | n + 1, ρ => match c ρ with
    | none => none
    | some false => some (.nx ρ)
    | some true => match f ρ with
      | some (.nx ρ') => whlRun c f n ρ'
      | some (.ct ρ') => whlRun c f n ρ'
      | some (.bk ρ') => some (.nx ρ')
      | some (.rt k d) => some (.rt k d)
      | none => none
/-- turns of a while -/
abbrev WHL : Nat := 100000
def setR (g : Tg) (r : Kd × D) (ρ : Env) : Option Env := match g, r with
  | _, (.bo, _) => none
  | .nm i, (k, d) => if i < ρ.length then some (ρ.set i (some (k, d))) else none
  | .tp is, (_, .tup ds) => setMany is ds ρ
  | .tp _, _ => none
/-- an owned thing changed by a method -/
def msD : MS → D → List D → Option D
  | .append, .lst xs, [d] => if xs.length < LINE then some (.lst (xs ++ [d])) else none
  | .reverse, .lst xs, [] => some (.lst xs.reverse)
  | .insert, .lst xs, [.int i, d] => if xs.length < LINE ∧ 0 ≤ i ∧ i ≤ 1000000 then some (.lst (xs.take i.toNat ++ [d] ++ xs.drop i.toNat)) else none
  | .pop1, .lst xs, [.int i] => (ixN xs.length i).map fun j => .lst (xs.eraseIdx j)
  | _, _, _ => none
def setD : D → D → D → Option D
  | .lst xs, .int k, d => (ixN xs.length k).map fun j => .lst (xs.set j d)
  | .dk ks vs, k, d => if ks.length < LINE then (keyOf k).map fun q => .dk (putk ks q) (put ks vs q d) else none
  | .dt ks vs, .tup k, d => if ks.length < LINE then (keysOf k).map fun q => .dt (putk ks q) (put ks vs q d) else none
  | _, _, _ => none
def popD : D → Option (D × D)
  | .lst xs => match xs[xs.length - 1]? with
    | some y => some (y, .lst (xs.eraseIdx (xs.length - 1)))
    | none => none
  | _ => none
def lstD : D → Bool
  | .lst _ => true | .dk _ _ => true | .dt _ _ => true | _ => false
/-- a field is set: in its place, or behind -/
def fsetD (cs : List Str) (x : Str) (k : Kd) (d : D) : D → Option D
  | .ob c ns ks ds => if ¬ (k = .fz ∨ (k = .ow ∧ lstD d = true)) ∨ c ∉ cs then none else if ns.length < 900 ∧ ks.length = ns.length ∧ ds.length = ns.length then match ns.findIdx? (fun y => decide (y = x)) with
      | some j => some (.ob c ns (ks.set j (decide (k = .ow))) (ds.set j d))
      | none => some (.ob c (ns ++ [x]) (ks ++ [decide (k = .ow)]) (ds ++ [d]))
    else none
  | _ => none
/-- an owned field's thing is changed -/
def msfD (cs : List Str) (m : MS) (x : Str) (as : List D) : D → Option D
  | .ob c ns ks ds => if c ∉ cs then none else match ns.findIdx? (fun y => decide (y = x)) with
    | none => none
    | some j => if ks[j]? = some true then match ds[j]? with
        | none => none
        | some d => match msD m d as with
          | none => none
          | some d' => some (.ob c ns ks (ds.set j d'))
      else none
  | _ => none
def popAtD (i : Int) : D → Option (D × D)
  | .lst xs => match ixN xs.length i with
    | none => none
    | some j => match xs[j]? with
      | none => none
      | some y => some (y, .lst (xs.eraseIdx j))
  | _ => none
/-- the owned slots' things, of these slots -/
def outsOf (ρ : Env) : List Nat → Option (List D)
  | [] => some []
  | j :: js => match ownAt ρ j with
    | none => none
    | some d => match outsOf ρ js with
      | none => none
      | some ds => some (d :: ds)
/-- a tuple's items; those at js stay one's own -/
def evW (js : List Nat) : Nat → List IE → Env → Option (List D)
  | _, [], _ => some []
  | n, e :: es, ρ => if js.contains n then
      match (match lentV ρ e with
        | some (_, d) => some d
        | none => match evE cl e ρ with
          | some (.ow, d) => some d
          | _ => none) with
      | none => none
      | some d => if lstD d then match evW js (n + 1) es ρ with
          | none => none
          | some ds => some (d :: ds)
        else none
    else match evE cl e ρ with
      | none => none
      | some r => match esc r with
        | none => none
        | some d => match evW js (n + 1) es ρ with
          | none => none
          | some ds => some (d :: ds)
/-- slots that are handed on as they are -/
def wvars (js : List Nat) : Nat → List IE → List Nat
  | _, [] => []
  | n, .var i :: es => if js.contains n then i :: wvars js (n + 1) es else wvars js (n + 1) es
  | n, _ :: es => wvars js (n + 1) es
/-- what is seen of a tuple of one's own -/
def ioT : Option (Option (Kd × D)) → Option D
  | some (some (.ow, .io _ (.tup ds) _)) => some (.tup ds)
  | _ => none
/-- what hangs on nothing -/
def lone : Kd × D → Bool
  | (.fz, d) => flat d
  | (.ow, .lst ds) => ds.all flat
  | _ => false
mutual
def evS : IS → Env → Option Out
  | .set g e, ρ => match evE cl e ρ with
    | none => none
    | some r => match setR g r ρ with
      | none => none
      | some ρ' => some (.nx ρ')
  | .setix i k v, ρ => match evE cl v ρ with
    | none => none
    | some r => match esc r with
      | none => none
      | some d => match ownAt ρ i with
        | none => none
        | some o => match evE cl k ρ with
          | none => none
          | some (_, q) => match setD o q d with
            | none => none
            | some o' => some (.nx (ρ.set i (some (.ow, o'))))
  | .ms m i es, ρ => match ownAt ρ i with
    | none => none
    | some o => match evF cl es ρ with
      | none => none
      | some ds => match msD m o ds with
        | none => none
        | some o' => some (.nx (ρ.set i (some (.ow, o'))))
  | .msv g i, ρ => match ownAt ρ i with
    | none => none
    | some o => match popD o with
      | none => none
      | some (y, o') => match setTg g y (ρ.set i (some (.ow, o'))) with
        | none => none
        | some ρ' => some (.nx ρ')
  | .frz i, ρ => match ρ[i]? with
    | some (some (_, d)) => some (.nx (ρ.set i (some (.fz, d))))
    | _ => some (.nx ρ)
  | .ite c a b, ρ => match onT (evE cl c ρ) with
    | none => none
    | some true => evSs a ρ
    | some false => evSs b ρ
  | .for_ g k src body, ρ => match evF cl src ρ with
    | none => none
    | some ds => match srcD k ds with
      | none => none
      | some xs => forRun (fun x ρ1 => match setTg g x ρ1 with
        | none => none
        | some ρ2 => evSs body ρ2) xs ρ
  | .forq g i c e, ρ => match ownAt ρ i with
    | some (.lst xs) => if (tgS g).contains i then none else forRun (fun x ρ1 => match setTg g x ρ1 with
        | none => none
        | some ρ2 => match onT (evE cl c ρ2) with
          | none => none
          | some true => (match evE cl e ρ2 with
            | none => none
            | some (.fz, d) => some (.rt .fz d)
            | some (_, d) => some (.rt .ow d))
          | some false => some (.nx ρ2)) xs ρ
    | _ => none
  | .whl c body, ρ => whlRun (fun ρ1 => onT (evE cl c ρ1)) (fun ρ1 => evSs body ρ1) WHL ρ
  | .ret e, ρ => match evE cl e ρ with
    | none => none
    | some (.fz, d) => some (.rt .fz d)
    | some (_, d) => some (.rt .ow d)
  | .retn, _ => some (.rt .fz .non)
  | .brk, ρ => some (.bk ρ)
  | .cnt, ρ => some (.ct ρ)
  | .pass, ρ => some (.nx ρ)
  | .expr e, ρ => match evE cl e ρ with
    | none => none
    | some _ => some (.nx ρ)
  | .raise c, _ => some (.rt .bo (.exc c))
  | .xcall f es, ρ => match evF cl es ρ with
    | none => none
    | some ds => match cl f ds with
      | none => none
      | some (.bo, .exc c) => some (.rt .bo (.exc c))
      | some (.bo, _) => none
      | some _ => some (.nx ρ)
  | .tryx body rz t v en, ρ => match evSs body ρ with
    | some (.nx ρ') => some (.nx ρ')
    | some (.rt .bo (.exc c)) => if excC c ∈ rz ∧ excSub (excC c) t = some true ∧ v < ρ.length ∧ v ≠ en then some (.nx ((List.replicate ρ.length none).set v (some (.fz, .exc c)))) else none
    | _ => none
  | .raisev c e, ρ => match evE cl e ρ with
    | some (.fz, .int n) => if 0 ≤ n then some (.rt .bo (.exc (excN c n.toNat))) else none
    | _ => none
  | .tryat body c v en, ρ => match evSs body ρ with
    | some (.nx ρ') => some (.nx ρ')
    | some (.rt .bo (.exc x)) => match excP x with
      | some n => if excC x = c ∧ v < ρ.length ∧ v ≠ en then some (.nx ((List.replicate ρ.length none).set v (some (.fz, .int n)))) else none
      | none => none
    | _ => none
  | .stuck, _ => none
  | .setx g e, ρ => match evX cl e ρ with
    | none => none
    | some (.ex c) => some (.rt .bo (.exc c))
    | some (.ok d ρ') => match setTg g d ρ' with
      | none => none
      | some ρ'' => some (.nx ρ'')
  | .itex c a b, ρ => match evXT cl c ρ with
    | none => none
    | some (.ex x) => some (.rt .bo (.exc x))
    | some (.ok true ρ') => evSs a ρ'
    | some (.ok false ρ') => evSs b ρ'
  | .retx e, ρ => match evX cl e ρ with
    | none => none
    | some (.ex c) => some (.rt .bo (.exc c))
    | some (.ok d _) => some (.rt .fz d)
  | .rett js e, ρ => match evX cl e ρ with
    | none => none
    | some (.ex _) => none
    | some (.ok d ρ') => match outsOf ρ' js with
      | none => none
      | some ds => some (.rt .bo (.io js d ds))
  | .exprx e, ρ => match evX cl e ρ with
    | none => none
    | some (.ex c) => some (.rt .bo (.exc c))
    | some (.ok _ ρ') => some (.nx ρ')
  | .fset cs i x e, ρ => match evE cl e ρ with
    | none => none
    | some (k, d) => match ownAt ρ i with
      | none => none
      | some o => match fsetD cs x k d o with
        | none => none
        | some o' => some (.nx (ρ.set i (some (.ow, o'))))
  | .msf cs m i x es, ρ => match ownAt ρ i with
    | none => none
    | some o => match evF cl es ρ with
      | none => none
      | some ds => match msfD cs m x ds o with
        | none => none
        | some o' => some (.nx (ρ.set i (some (.ow, o'))))
  | .msvi g i e, ρ => match ownAt ρ i with
    | none => none
    | some o => match evE cl e ρ with
      | some (_, .int n) => match popAtD n o with
        | none => none
        | some (y, o') => match setTg g y (ρ.set i (some (.ow, o'))) with
          | none => none
          | some ρ' => some (.nx ρ')
      | _ => none
  | .setl is e, ρ => match evE cl e ρ with
    | some (.fz, .lst xs) => match setMany is xs ρ with
      | none => none
      | some ρ' => some (.nx ρ')
    | some (.ow, .lst xs) => match setMany is xs ρ with
      | none => none
      | some ρ' => some (.nx ρ')
    | _ => none
  | .retw js es, ρ => match evW cl js 0 es ρ with
    | none => none
    | some ds => if nodupB (wvars js 0 es) = true ∧ js.any (fun j => decide (j < ds.length)) = true ∧ ds.length ≤ LINE then some (.rt .ow (.io js (.tup ds) [])) else none
  | .lendq i c b, ρ => match ioT ρ[i]? with
    | none => none
    | some t => match onT (evE cl c (ρ.set i (some (.fz, t)))) with
      | none => none
      | some true => some (.rt .fz (.bl b))
      | some false => some (.nx ρ)
  | .lends k i e, ρ => match ioT ρ[i]? with
    | none => none
    | some t => match evE cl e (ρ.set i (some (.fz, t))) with
      | none => none
      | some r => if lone r = true then match setR (.nm k) r ρ with
          | none => none
          | some ρ' => some (.nx ρ')
        else none
  | .msk m i j es, ρ => match ownAt ρ i with
    | some (.io js (.tup ds) outs) => if js.contains j then match ds[j]? with
        | none => none
        | some d => match evF cl es ρ with
          | none => none
          | some as => match msD m d as with
            | none => none
            | some d' => some (.nx (ρ.set i (some (.ow, .io js (.tup (ds.set j d')) outs))))
      else none
    | _ => none
  | .mspop i j e, ρ => match ownAt ρ j with
    | none => none
    | some o => match evE cl e ρ with
      | some (_, .int n) => match popAtD n o with
        | none => none
        | some (y, o') => match ownAt (ρ.set j (some (.ow, o'))) i with
          | none => none
          | some oi => match msD .append oi [y] with
            | none => none
            | some oi' => some (.nx ((ρ.set j (some (.ow, o'))).set i (some (.ow, oi'))))
      | _ => none
def evSs : List IS → Env → Option Out
  | [], ρ => some (.nx ρ)
  | s :: ss, ρ => match evS s ρ with
    | some (.nx ρ') => evSs ss ρ'
    | r => r
end
end

/-- a def -/
structure Fn where
  np : Nat
  ns : Nat
  body : List IS
  io : List Nat := []
def start0 (fn : Fn) (ds : List D) : Env := ds.map (fun d => some (.fz, d)) ++ List.replicate (fn.ns - fn.np) none
def finD : Option Out → Option (Kd × D)
  | some (.nx _) => some (.fz, .non)
  | some (.rt .bo (.io _ _ _)) => none
  | some (.rt k d) => some (k, d)
  | _ => none
/-- .. of a def that changes what it is lent -/
def startIO (fn : Fn) (ds : List D) : Env := (ds.mapIdx fun i d => some (if fn.io.contains i then (Kd.ow, d) else (.fz, d))) ++ List.replicate (fn.ns - fn.np) none
def finIO (js : List Nat) : Option Out → Option (Kd × D)
  | some (.nx ρ) => match outsOf ρ js with
    | none => none
    | some ds => some (.bo, .io js .non ds)
  | some (.rt .bo (.io js' r outs)) => if js' = js then some (.bo, .io js r outs) else none
  | _ => none
def run (cl : Nat → List D → Option (Kd × D)) (fn : Fn) (ds : List D) : Option (Kd × D) :=
  if ds.length = fn.np then (if fn.io = [] then finD (evSs cl fn.body (start0 fn ds)) else finIO fn.io (evSs cl fn.body (startIO fn ds))) else none
/-- the defs by numbers; n: how deep calls go -/
def evFn (tbl : List (Nat × Fn)) : Nat → Nat → List D → Option (Kd × D)
  | 0, _, _ => none
  | n + 1, f, ds => match tbl.lookup f with
    | none => none
    | some fn => run (evFn tbl n) fn ds
/-! ### which terms are served -/
def keysPath : List IE → Bool
  | [.var _] => true
  | [.ix (.var _) (.int j)] => decide (j < 0)
  | _ => false
def glOk : D → Bool
  | .int _ => true | .bl _ => true | .non => true | .str y => okS y | _ => false
def biAr : BI → Nat → Bool
  | .max, n => n == 1 || n == 2
  | .min, n => n == 1 || n == 2
  | .tupRange, n => n == 1 || n == 2
  | .lstRange, n => n == 1 || n == 2
  | .len, n => n == 1
  | .tuple, n => n == 1
  | .list, n => n == 1
  | .dict, n => n == 1
  | .int, n => n == 1
  | .str, n => n == 1
  | .all, n => n == 1
  | .sum, n => n == 1
  | .isBool, n => n == 1
  | .isInt, n => n == 1
  | .isStr, n => n == 1
  | .isList, n => n == 1
  | .isTuple, n => n == 1
  | .lenset, n => n == 1
  | .sortedSet, n => n == 1
  | .maxd _, n => n == 1
  | .sorted, n => n == 1
  | .excAt _, n => n == 1
  | .fstr ps, n => n == (ps.filter Option.isNone).length && decide (2 ≤ ps.length)
  | .isExc tp _ cs, n => n == 1 && decide (cs.length ≤ LINE) && (tp || cs.length == 1)
  | _, _ => false
def mtAr : MI → Nat → Bool
  | .get, n => n == 2
  | .index, n => n == 1
  | .join, n => n == 1
  | .split, n => n == 1
  | .strip, n => n == 1
mutual
def okE : IE → Bool
  | .var _ => true
  | .int _ => true
  | .bl _ => true
  | .non => true
  | .str x => okS x
  | .glb _ d => glOk d
  | .bin _ a b => okE a && okE b
  | .cmp _ a b => okE a && okE b
  | .chain op op' a b c => okE a && okE b && okE c && op != .isin && op != .notin && op' != .isin && op' != .notin
  | .and a b => okE a && okE b
  | .or a b => okE a && okE b
  | .not a => okE a
  | .neg a => okE a
  | .ifx c a b => okT c && okE a && okE b
  | .tup es => okL es && decide (es.length ≤ LINE)
  | .lst es => okL es && decide (es.length ≤ LINE)
  | .ix a b => okE a && okE b
  | .slc a lo hi => okE a && okO lo && okO hi
  | .call _ es => okL es
  | .callF _ es => okL es
  | .bcall _ es => okL es
  | .bi b es => okL es && biAr b es.length
  | .mt m o es => okE o && okL es && mtAr m es.length
  | .lc elt _ k src ifs => okE elt && okL src && okI ifs && (k != .keys || keysPath src)
  | .dnew _ => true
  | .disp t ks vs => t && ks.length == 1 && vs.length == 1 && okL ks && okL vs
  | .fld _ o _ => okE o
  | .make _ _ es => okL es
  | .callm _ _ _ => false
  | .mcall _ _ _ _ _ => false
def okT : IE → Bool
  | .cmp _ a b => okE a && okE b
  | .chain op op' a b c => okE a && okE b && okE c && op != .isin && op != .notin && op' != .isin && op' != .notin
  | .and a b => okT a && okT b
  | .or a b => okT a && okT b
  | .not a => okT a
  | .var _ => true
  | .int _ => true
  | .bl _ => true
  | .ix a b => okE a && okE b
  | .call _ es => okL es
  | .bcall _ es => okL es
  | .bi b es => okL es && biAr b es.length
  | .fld _ o _ => okE o
  | _ => false
def okL : List IE → Bool
  | [] => true
  | e :: es => okE e && okL es
def okI : List IE → Bool
  | [] => true
  | [e] => okT e
  | _ :: _ :: _ => false
def okO : Option IE → Bool
  | none => true
  | some e => okE e
end
mutual
/-- .. that change, or raise -/
def okX : IE → Bool
  | .callm _ _ es => okXL es
  | .mcall cs _ _ o es => !cs.isEmpty && okX o && okXL es
  | .and a b => okX a && okX b
  | .or a b => okX a && okX b
  | .not a => okX a
  | .bin _ a b => okX a && okX b
  | .cmp op a b => okX a && okX b && op != .isin && op != .notin
  | .var _ => true
  | .int _ => true
  | .bl _ => true
  | .non => true
  | .str x => okS x
  | .glb _ d => glOk d
  | .chain a b c d e => okE (.chain a b c d e)
  | .neg a => okE a
  | .ifx a b c => okE (.ifx a b c)
  | .tup es => okE (.tup es)
  | .lst es => okE (.lst es)
  | .ix a b => okE (.ix a b)
  | .slc a b c => okE (.slc a b c)
  | .call a b => okE (.call a b)
  | .bcall a b => okE (.bcall a b)
  | .callF a b => okE (.callF a b)
  | .bi a b => okE (.bi a b)
  | .mt a b c => okE (.mt a b c)
  | .lc a b c d e => okE (.lc a b c d e)
  | .dnew a => okE (.dnew a)
  | .disp a b c => okE (.disp a b c)
  | .fld a b c => okE (.fld a b c)
  | .make a b c => okE (.make a b c)
def okXL : List IE → Bool
  | [] => true
  | e :: es => okX e && okXL es
end
def okXT : IE → Bool
  | .and a b => okXT a && okXT b
  | .or a b => okXT a && okXT b
  | .not a => okXT a
  | .callm f js es => okX (.callm f js es)
  | .mcall cs m js o es => okX (.mcall cs m js o es)
  | e => okT e
def msAr : MS → Nat → Bool
  | .insert, n => n == 2
  | .append, n => n == 1
  | .reverse, n => n == 0
  | .pop1, n => n == 1
  | _, _ => false
mutual
/-- nothing is raised by a statement of its own -/
def noX : IS → Bool
  | .ite _ a b => noXs a && noXs b
  | .for_ _ _ _ body => noXs body
  | .whl _ body => noXs body
  | .raise _ => false
  | .xcall _ _ => false
  | .tryx _ _ _ _ _ => false
  | .raisev _ _ => false
  | .tryat _ _ _ _ => false
  | .setx _ _ => false
  | .itex _ _ _ => false
  | .retx _ => false
  | .rett _ _ => false
  | .exprx _ => false
  | _ => true
def noXs : List IS → Bool
  | [] => true
  | s :: ss => noX s && noXs ss
end
mutual
/-- no slot of these is stored to, or frozen -/
def pinS (js : List Nat) : IS → Bool
  | .set g _ => (tgS g).all fun i => !js.contains i
  | .msv g _ => (tgS g).all fun i => !js.contains i
  | .msvi g _ _ => (tgS g).all fun i => !js.contains i
  | .setl is _ => is.all fun i => !js.contains i
  | .setx g _ => (tgS g).all fun i => !js.contains i
  | .frz i => !js.contains i
  | .ite _ a b => pinSs js a && pinSs js b
  | .itex _ a b => pinSs js a && pinSs js b
  | .for_ g _ _ body => ((tgS g).all fun i => !js.contains i) && pinSs js body
  | .forq g _ _ _ => (tgS g).all fun i => !js.contains i
  | .whl _ body => pinSs js body
  | .tryx body _ _ _ _ => js.isEmpty && pinSs js body
  | .tryat body _ _ _ => js.isEmpty && pinSs js body
  | .rett is _ => decide (is = js) && nodupB is
  | .lends k _ _ => !js.contains k
  | _ => true
def pinSs (js : List Nat) : List IS → Bool
  | [] => true
  | s :: ss => pinS js s && pinSs js ss
end
mutual
def okS1 : IS → Bool
  | .set _ e => okE e
  | .setix _ k v => okE k && okE v
  | .ms m _ es => okL es && msAr m es.length
  | .msv _ _ => true
  | .frz _ => true
  | .ite c a b => okT c && okSs a && okSs b
  | .for_ _ k src body => okL src && okSs body && (k != .keys || (keysPath src && noXs body))
  | .forq _ _ c e => okT c && okE e
  | .whl c body => okT c && okSs body
  | .ret e => okE e
  | .retn => true
  | .brk => true
  | .cnt => true
  | .pass => true
  | .expr e => okE e
  | .raise _ => true
  | .xcall _ es => okL es
  | .tryx body _ _ _ _ => okSs body
  | .raisev _ e => okE e
  | .tryat body _ _ _ => okSs body
  | .stuck => true
  | .setx _ e => okX e
  | .itex c a b => okXT c && okSs a && okSs b
  | .retx e => okX e
  | .rett _ e => okX e
  | .exprx e => okX e
  | .fset _ _ _ e => okE e
  | .msf _ m _ _ es => okL es && decide (m = .append) && es.length == 1
  | .msvi _ _ e => okE e
  | .setl _ e => okE e
  | .retw _ es => okE (.tup es)
  | .lendq _ c _ => okT c
  | .lends _ _ e => okE e
  | .msk m _ _ es => okL es && decide (m = .append) && es.length == 1
  | .mspop _ _ e => okE e
def okSs : List IS → Bool
  | [] => true
  | s :: ss => okS1 s && okSs ss
end
end R

set_option linter.all false
/-! How data lies in the heap; what a term's reading asks, from what it computes. -/
namespace R
open PySem L2

def isDic : HO → Bool
  | .dK _ => true
  | .dT _ => true
  | _ => false
/-- all that is frozen lies in the heap (a dict perhaps locked) -/
def Sub (I H : Hp) : Prop := ∀ b u, I b = some u → H b = some u ∨ (isDic u = true ∧ ∃ od, H b = some (.frz od u))
/-! classes of refusals -/
/-- where the class of this name is -/
def cA (K : PySem.W.Frag) (c : Str) : Addr := match PySem.W.nsIn K mainGlobals c with
  | some (some (.ref C)) => C
  | _ => 0
def cV (K : PySem.W.Frag) (d : Str) : Value := if d = "ValueError" then .type "ValueError" else .ref (cA K d)
def cVV (K : PySem.W.Frag) (d : Str) : V := if d = "ValueError" then .ty "ValueError" else .ref (cA K d)
/-- an exception that was caught -/
def ExHD (cls : Value) (d : Option Addr) (a : Addr) : HO := .ext fun h => ∃ (oe : Obj) (vs : Array Value), h.get? a = some oe ∧ Zc cls d oe ∧ oe.data = .fields vs
/-- how an exception stands: its class, its own dict -/
def ExAs (K : PySem.W.Frag) (H : Hp) (c : Str) (cls : Value) (d : Option Addr) : Prop := (excP c = none ∧ cls = .ref (cA K c) ∧ d = none) ∨
  ∃ (n : Nat) (dd : Addr), excP c = some n ∧ cls = .ref (cA K (excC c)) ∧ d = some dd ∧ H dd = some (.xd [(("at" : Str), .int n)])
theorem ExAs.cl {K : PySem.W.Frag} {H : Hp} {c : Str} {cls : Value} {d : Option Addr} (h : ExAs K H c cls d) : cls = .ref (cA K (excC c)) := by
  rcases h with ⟨h1, h2, _⟩ | ⟨n, dd, _, h2, _⟩
  · have : excC c = c := by unfold excC; rw [h1]
    rw [this]
    exact h2
  · exact h2
theorem ExAs.mono {K : PySem.W.Frag} {I I' : Hp} {c : Str} {cls : Value} {d : Option Addr} (ii : ∀ b o, I b = some o → I' b = some o) (h : ExAs K I c cls d) : ExAs K I' c cls d := by
  rcases h with h | ⟨n, dd, h1, h2, h3, h4⟩
  · exact .inl h
  · exact .inr ⟨n, dd, h1, h2, h3, ii _ _ h4⟩
section
variable (K : PySem.W.Frag) (I : Hp)
mutual
def Rep : D → V → Prop
  | .non, v => v = .non
  | .bl b, v => v = .bl b
  | .int i, v => v = .int i
  | .str x, v => v = .str x ∧ x.length ≤ LINE ∧ PyData.strOk x = true
  | .tup ds, v => ∃ a xs, v = .ref a ∧ I a = some (.tup xs) ∧ Reps ds xs ∧ ds.length ≤ LINE
  | .lst ds, v => ∃ a xs, v = .ref a ∧ I a = some (.lst xs) ∧ Reps ds xs ∧ ds.length ≤ LINE
  | .dk ks ws, v => ∃ a xs, v = .ref a ∧ I a = some (.dK (ks.zip xs)) ∧ Reps ws xs ∧ ks.length = xs.length ∧ ks.length ≤ LINE ∧ ks.all okK = true
  | .dt ks ws, v => ∃ a xs, v = .ref a ∧ I a = some (.dT (ks.zip xs)) ∧ Reps ws xs ∧ ks.length = xs.length ∧ ks.length ≤ LINE ∧ ks.all okKs = true
  | .scr ns, v => ∃ a, v = .ref a ∧ SqL K I a (ns.map V.int) ∧ ns.length ≤ LINE
  | .exc c, v => ∃ a cls d, v = .ref a ∧ ExAs K I c cls d ∧ I a = some (ExHD cls d a)
  | .ob c ns _ ds, v => ∃ a dx xs, v = .ref a ∧ I a = some (.ins (cA K c) dx (ns.zip xs)) ∧ Reps ds xs ∧ ns.length = xs.length
  | .io _ r _, v => (∃ ds, r = .tup ds) ∧ Rep r v
def Reps : List D → List V → Prop
  | [], xs => xs = []
  | d :: ds, xs => ∃ x r, xs = x :: r ∧ Rep d x ∧ Reps ds r
end
end
def nref : V → Bool
  | .ref _ => false
  | _ => true
/-- a tuple that holds no places -/
def isTup : HO → Bool
  | .tup xs => xs.all nref
  | .xd _ => true
  | _ => false
structure Ext (I H I' H' : Hp) : Prop where
  ii : ∀ b o, I b = some o → I' b = some o
  hh : ∀ b o, H b = some o → H' b = some o
  su : Sub I' H'
  fr : ∀ b o, H b = some o → isTup o = false → I' b = I b
theorem Ext.refl {I H : Hp} (s : Sub I H) : Ext I H I H := ⟨fun _ _ h => h, fun _ _ h => h, s, fun _ _ _ _ => rfl⟩
theorem Ext.trans {I H I1 H1 I2 H2 : Hp} (a : Ext I H I1 H1) (b : Ext I1 H1 I2 H2) : Ext I H I2 H2 :=
  ⟨fun c o h => b.ii c o (a.ii c o h), fun c o h => b.hh c o (a.hh c o h), b.su, fun c o h n => (b.fr c o (a.hh c o h) n).trans (a.fr c o h n)⟩
theorem Sub.there {I H : Hp} (s : Sub I H) {b : Addr} {u : HO} (h : I b = some u) : ∃ o, H b = some o := by
  rcases s b u h with q | ⟨_, od, q⟩
  · exact ⟨_, q⟩
  · exact ⟨_, q⟩
theorem Sub.fresh {I H : Hp} (s : Sub I H) {b : Addr} (h : H b = none) : I b = none := by
  cases q : I b with
  | none => rfl
  | some u =>
    obtain ⟨o, e⟩ := s.there q
    rw [h] at e
    cases e
/-- a new object, not frozen -/
theorem Ext.new {I H : Hp} (s : Sub I H) {p : Addr} {o : HO} (h : H p = none) : Ext I H I (upd H p o) := by
  refine ⟨fun _ _ q => q, fun b u q => ?_, fun b u q => ?_, fun _ _ _ _ => rfl⟩
  · rw [upd_ne (ne_of_none q h)]
    exact q
  · have : b ≠ p := fun e => by
      rw [e, s.fresh h] at q
      cases q
    rw [upd_ne this]
    exact s b u q
/-- something that was not there at first is frozen -/
theorem Ext.freeze {I H I1 H1 : Hp} (a : Ext I H I1 H1) {p : Addr} {o : HO} (hp : H1 p = some o) (h0 : H p = none) (hi : I1 p = none) : Ext I H (upd I1 p o) H1 := by
  refine ⟨fun b u q => ?_, a.hh, fun b u q => ?_, fun b u q n => ?_⟩
  · have q' := a.ii b u q
    rw [upd_ne (ne_of_none q' hi)]
    exact q'
  · by_cases e : b = p
    · rw [e, upd_same] at q
      cases q
      rw [e]
      exact .inl hp
    · rw [upd_ne e] at q
      exact a.su b u q
  · rw [upd_ne (ne_of_none q h0)]
    exact a.fr b u q n
/-- a tuple that is there is frozen -/
theorem Ext.freezeT {I H I1 H1 : Hp} (a : Ext I H I1 H1) {p : Addr} {xs : List V} (hp : H1 p = some (.tup xs)) (hn : xs.all nref = true) (hi : I1 p = none) : Ext I H (upd I1 p (.tup xs)) H1 := by
  refine ⟨fun b u q => ?_, a.hh, fun b u q => ?_, fun b u q n => ?_⟩
  · have q' := a.ii b u q
    rw [upd_ne (ne_of_none q' hi)]
    exact q'
  · by_cases e : b = p
    · rw [e, upd_same] at q
      cases q
      rw [e]
      exact .inl hp
    · rw [upd_ne e] at q
      exact a.su b u q
  · have : b ≠ p := fun e => by
      have q' := a.hh b u q
      rw [e, hp] at q'
      cases q'
      have n : xs.all nref = false := n
      rw [hn] at n
      cases n
    rw [upd_ne this]
    exact a.fr b u q n
/-- the dict of an exception is frozen -/
theorem Ext.freezeX {I H I1 H1 : Hp} (a : Ext I H I1 H1) {p : Addr} {fs : List (Str × V)} (hp : H1 p = some (.xd fs)) (hi : I1 p = none) : Ext I H (upd I1 p (.xd fs)) H1 := by
  refine ⟨fun b u q => ?_, a.hh, fun b u q => ?_, fun b u q n => ?_⟩
  · have q' := a.ii b u q
    rw [upd_ne (ne_of_none q' hi)]
    exact q'
  · by_cases e : b = p
    · rw [e, upd_same] at q
      cases q
      rw [e]
      exact .inl hp
    · rw [upd_ne e] at q
      exact a.su b u q
  · have : b ≠ p := fun e => by
      have q' := a.hh b u q
      rw [e, hp] at q'
      cases q'
      cases n
    rw [upd_ne this]
    exact a.fr b u q n
theorem exAs_frz {K : PySem.W.Frag} {I H : Hp} {c : Str} {cls : Value} {d : Option Addr} (su : Sub I H) (h : ExAs K H c cls d) : ∃ I1, Ext I H I1 H ∧ ExAs K I1 c cls d := by
  rcases h with h | ⟨n, dd, h1, h2, h3, h4⟩
  · exact ⟨I, Ext.refl su, .inl h⟩
  · cases e : I dd with
    | none => exact ⟨_, (Ext.refl su).freezeX h4 e, .inr ⟨n, dd, h1, h2, h3, upd_same⟩⟩
    | some u =>
      refine ⟨I, Ext.refl su, .inr ⟨n, dd, h1, h2, h3, ?_⟩⟩
      rcases su dd u e with q | ⟨_, od, q⟩
      · rw [h4] at q
        cases q
        exact e
      · rw [h4] at q
        cases q
/-- a new object, frozen at once -/
theorem Ext.newF {I H : Hp} (s : Sub I H) {p : Addr} {o : HO} (h : H p = none) : Ext I H (upd I p o) (upd H p o) :=
  (Ext.new s h).freeze upd_same h (s.fresh h)

section
variable {K : PySem.W.Frag} {I I' H H' : Hp}
theorem rd_mono (ii : ∀ b o, I b = some o → I' b = some o) {a : Addr} {xs : List V} (h : SqL K I a xs) : SqL K I' a xs := by
  rcases h with (h | ⟨o, h⟩) | h
  · exact .inl (.inl (ii _ _ h))
  · exact .inl (.inr ⟨o, ii _ _ h⟩)
  · exact .inr h
mutual
theorem Rep.mono (ii : ∀ b o, I b = some o → I' b = some o) : ∀ (d : D) (v : V), Rep K I d v → Rep K I' d v
  | .non, v, h => by simpa only [Rep] using h
  | .bl _, v, h => by simpa only [Rep] using h
  | .int _, v, h => by simpa only [Rep] using h
  | .str _, v, h => by simpa only [Rep] using h
  | .tup ds, v, h => by
    simp only [Rep] at h ⊢
    obtain ⟨a, xs, e, h1, h2, h3⟩ := h
    exact ⟨a, xs, e, ii _ _ h1, Reps.mono ii ds xs h2, h3⟩
  | .lst ds, v, h => by
    simp only [Rep] at h ⊢
    obtain ⟨a, xs, e, h1, h2, h3⟩ := h
    exact ⟨a, xs, e, ii _ _ h1, Reps.mono ii ds xs h2, h3⟩
  | .dk ks ws, v, h => by
    simp only [Rep] at h ⊢
    obtain ⟨a, xs, e, h1, h2, h3⟩ := h
    exact ⟨a, xs, e, ii _ _ h1, Reps.mono ii ws xs h2, h3⟩
  | .dt ks ws, v, h => by
    simp only [Rep] at h ⊢
    obtain ⟨a, xs, e, h1, h2, h3⟩ := h
    exact ⟨a, xs, e, ii _ _ h1, Reps.mono ii ws xs h2, h3⟩
  | .scr ns, v, h => by
    simp only [Rep] at h ⊢
    obtain ⟨a, e, h1, h2⟩ := h
    exact ⟨a, e, rd_mono ii h1, h2⟩
  | .exc c, v, h => by
    simp only [Rep] at h ⊢
    obtain ⟨a, cls, d, e, h0, h1⟩ := h
    exact ⟨a, cls, d, e, h0.mono ii, ii _ _ h1⟩
  | .ob c ns ks ds, v, h => by
    simp only [Rep] at h ⊢
    obtain ⟨a, dx, xs, e, h1, h2, h3⟩ := h
    exact ⟨a, dx, xs, e, ii _ _ h1, Reps.mono ii ds xs h2, h3⟩
  | .io _ r _, v, h => by
    simp only [Rep] at h ⊢
    exact ⟨h.1, Rep.mono ii r v h.2⟩
theorem Reps.mono (ii : ∀ b o, I b = some o → I' b = some o) : ∀ (ds : List D) (xs : List V), Reps K I ds xs → Reps K I' ds xs
  | [], xs, h => by simpa only [Reps] using h
  | d :: ds, xs, h => by
    simp only [Reps] at h ⊢
    obtain ⟨x, r, e, h1, h2⟩ := h
    exact ⟨x, r, e, Rep.mono ii d x h1, Reps.mono ii ds r h2⟩
end
theorem Reps.len : ∀ {ds : List D} {xs : List V}, Reps K I ds xs → xs.length = ds.length
  | [], xs, h => by
    simp only [Reps] at h
    rw [h]
    rfl
  | d :: ds, xs, h => by
    simp only [Reps] at h
    obtain ⟨x, r, e, h1, h2⟩ := h
    rw [e, List.length_cons, List.length_cons, Reps.len h2]
theorem Reps.get : ∀ {ds : List D} {xs : List V} {i : Nat} {d : D}, Reps K I ds xs → ds[i]? = some d → ∃ x, xs[i]? = some x ∧ Rep K I d x
  | [], _, _, _, _, h => by simp at h
  | d :: ds, xs, 0, d', h, e => by
    simp only [Reps] at h
    obtain ⟨x, r, rfl, h1, h2⟩ := h
    cases (Option.some.inj e : d = d')
    exact ⟨x, rfl, h1⟩
  | d :: ds, xs, i + 1, d', h, e => by
    simp only [Reps] at h
    obtain ⟨x, r, rfl, h1, h2⟩ := h
    exact Reps.get (i := i) h2 e
theorem Reps.app : ∀ {ds es : List D} {xs ys : List V}, Reps K I ds xs → Reps K I es ys → Reps K I (ds ++ es) (xs ++ ys)
  | [], _, xs, _, h, g => by
    simp only [Reps] at h
    subst h
    exact g
  | d :: ds, es, xs, ys, h, g => by
    simp only [Reps] at h
    obtain ⟨x, r, rfl, h1, h2⟩ := h
    show Reps K I (d :: (ds ++ es)) (x :: (r ++ ys))
    simp only [Reps]
    exact ⟨x, _, rfl, h1, Reps.app h2 g⟩
theorem Reps.cons {d : D} {ds : List D} {x : V} {xs : List V} (h : Rep K I d x) (g : Reps K I ds xs) : Reps K I (d :: ds) (x :: xs) := by
  simp only [Reps]
  exact ⟨x, xs, rfl, h, g⟩
theorem Reps.nil : Reps K I [] [] := by simp only [Reps]
theorem Reps.take : ∀ {ds : List D} {xs : List V} (n : Nat), Reps K I ds xs → Reps K I (ds.take n) (xs.take n)
  | _, _, 0, _ => by simp only [List.take_zero, Reps]
  | [], xs, n + 1, h => by
    simp only [Reps] at h
    subst h
    exact Reps.nil
  | d :: ds, xs, n + 1, h => by
    simp only [Reps] at h
    obtain ⟨x, r, rfl, h1, h2⟩ := h
    exact Reps.cons h1 (Reps.take n h2)
theorem Reps.drop : ∀ {ds : List D} {xs : List V} (n : Nat), Reps K I ds xs → Reps K I (ds.drop n) (xs.drop n)
  | _, _, 0, h => h
  | [], xs, n + 1, h => by
    simp only [Reps] at h
    subst h
    exact Reps.nil
  | d :: ds, xs, n + 1, h => by
    simp only [Reps] at h
    obtain ⟨x, r, rfl, h1, h2⟩ := h
    exact Reps.drop n h2
theorem Reps.cut {ds : List D} {xs : List V} (h : Reps K I ds xs) (lo hi : Option Int) : Reps K I (R.cut ds lo hi) (cutV xs lo hi) := by
  unfold R.cut cutV
  rw [h.len]
  exact (h.drop _).take _
theorem Reps.rev : ∀ {ds : List D} {xs : List V}, Reps K I ds xs → Reps K I ds.reverse xs.reverse
  | [], xs, h => by
    simp only [Reps] at h
    subst h
    exact Reps.nil
  | d :: ds, xs, h => by
    simp only [Reps] at h
    obtain ⟨x, r, rfl, h1, h2⟩ := h
    rw [List.reverse_cons, List.reverse_cons]
    exact (Reps.rev h2).app (Reps.cons h1 Reps.nil)
theorem Reps.erase : ∀ {ds : List D} {xs : List V} (i : Nat), Reps K I ds xs → Reps K I (ds.eraseIdx i) (xs.eraseIdx i)
  | [], xs, i, h => by
    simp only [Reps] at h
    subst h
    exact Reps.nil
  | e :: ds, xs, 0, h => by
    simp only [Reps] at h
    obtain ⟨y, r, rfl, h1, h2⟩ := h
    exact h2
  | e :: ds, xs, i + 1, h => by
    simp only [Reps] at h
    obtain ⟨y, r, rfl, h1, h2⟩ := h
    exact Reps.cons h1 (Reps.erase i h2)
theorem Reps.set : ∀ {ds : List D} {xs : List V} {d : D} {x : V} (i : Nat), Reps K I ds xs → Rep K I d x → Reps K I (ds.set i d) (xs.set i x)
  | [], xs, d, x, i, h, _ => by
    simp only [Reps] at h
    subst h
    exact Reps.nil
  | e :: ds, xs, d, x, 0, h, g => by
    simp only [Reps] at h
    obtain ⟨y, r, rfl, h1, h2⟩ := h
    exact Reps.cons g h2
  | e :: ds, xs, d, x, i + 1, h, g => by
    simp only [Reps] at h
    obtain ⟨y, r, rfl, h1, h2⟩ := h
    exact Reps.cons h1 (Reps.set i h2 g)
theorem reps_ints : ∀ ns : List Int, Reps K I (ns.map .int) (ns.map V.int)
  | [] => Reps.nil
  | n :: ns => Reps.cons (by simp only [Rep]) (reps_ints ns)
theorem Reps.at {ds : List D} {xs : List V} {i : Int} {d : D} (h : Reps K I ds xs) (e : atI ds i = some d) : ∃ x, atI xs i = some x ∧ Rep K I d x := by
  unfold atI at e ⊢
  rw [h.len]
  cases q : ixN ds.length i with
  | none => rw [q] at e; cases e
  | some j =>
    rw [q] at e
    exact h.get e

/-- what a frame must leave as it is; slots that keep what they were handed -/
structure Bd where
  b : Addr → Prop
  pins : List (Nat × Addr)
instance : CoeFun Bd fun _ => Addr → Prop := ⟨Bd.b⟩
def Bd.np (B : Bd) : Bd := ⟨B.b, []⟩
/-- an object of one's own: tracked, not frozen -/
def OwnC1 (K : PySem.W.Frag) (I H : Hp) (p : Addr) : D → Prop
  | .lst ds => ∃ xs, H p = some (.lst xs) ∧ Reps K I ds xs ∧ ds.length ≤ LINE
  | .dk ks ws => ∃ xs, H p = some (.dK (ks.zip xs)) ∧ Reps K I ws xs ∧ ks.length = xs.length ∧ ks.length ≤ LINE ∧ ks.all okK = true
  | .dt ks ws => ∃ xs, H p = some (.dT (ks.zip xs)) ∧ Reps K I ws xs ∧ ks.length = xs.length ∧ ks.length ≤ LINE ∧ ks.all okKs = true
  | _ => False
/-- the fields of an instance: of its own, or frozen -/
def OwnFs (K : PySem.W.Frag) (I H : Hp) : List Bool → List D → List V → Prop
  | [], [], [] => True
  | true :: ks, d :: ds, x :: xs => (∃ q, x = .ref q ∧ I q = none ∧ OwnC1 K I H q d) ∧ OwnFs K I H ks ds xs
  | false :: ks, d :: ds, x :: xs => Rep K I d x ∧ OwnFs K I H ks ds xs
  | _, _, _ => False
def kidsOf : List Bool → List V → List Addr
  | true :: ks, .ref q :: xs => q :: kidsOf ks xs
  | _ :: ks, _ :: xs => kidsOf ks xs
  | _, _ => []
/-- which items of a tuple are one's own -/
def flg (js : List Nat) : Nat → List D → List Bool
  | _, [] => []
  | n, _ :: ds => js.contains n :: flg js (n + 1) ds
def flgT (js : List Nat) : D → List Bool
  | .tup ds => flg js 0 ds
  | _ => []
def kids (H : Hp) (p : Addr) : D → List Addr
  | .ob _ _ ks _ => match H p with
    | some (.ins _ _ fs) => kidsOf ks (fs.map (·.2))
    | _ => []
  | .io js r _ => match H p with
    | some (.tup xs) => kidsOf (flgT js r) xs
    | _ => []
  | _ => []
def foot (H : Hp) (p : Addr) (d : D) : List Addr := p :: kids H p d
def OwnC (K : PySem.W.Frag) (I H : Hp) (p : Addr) : D → Prop
  | .ob c ns ks ds => ∃ dx xs, H p = some (.ins (cA K c) dx (ns.zip xs)) ∧ ns.length = xs.length ∧ OwnFs K I H ks ds xs ∧ (kidsOf ks xs).Nodup ∧ ns.length ≤ 900
  | .io js r _ => ∃ ds xs, r = .tup ds ∧ H p = some (.tup xs) ∧ OwnFs K I H (flg js 0 ds) ds xs ∧ (kidsOf (flg js 0 ds) xs).Nodup ∧ kidsOf (flg js 0 ds) xs ≠ [] ∧ ds.length ≤ LINE
  | d => OwnC1 K I H p d
def Own (K : PySem.W.Frag) (I H : Hp) (d : D) (v : V) : Prop := ∃ p, v = .ref p ∧ I p = none ∧ OwnC K I H p d
/-- what may be looked at -/
def See (K : PySem.W.Frag) (I H : Hp) (d : D) (v : V) : Prop := Rep K I d v ∨ Own K I H d v
def RK (K : PySem.W.Frag) (B : Bd) (Hs I H : Hp) : Kd → D → V → Prop
  | .fz, d, v => Rep K I d v
  | .ow, d, v => Own K I H d v ∧ ∃ p, v = .ref p ∧ ∀ a ∈ foot H p d, Hs a = none
  | .bo, d, v => Own K I H d v ∧ ∃ p, v = .ref p ∧ ∀ a ∈ foot H p d, ¬ B a
theorem RK.see {B : Bd} {Hs : Hp} {k : Kd} {d : D} {v : V} (h : RK K B Hs I H k d v) : See K I H d v := by
  cases k with
  | fz => exact .inl h
  | ow => exact .inr h.1
  | bo => exact .inr h.1
theorem foot_self {p : Addr} {d : D} : p ∈ foot H p d := List.mem_cons_self
theorem foot_lst {p : Addr} {ds : List D} : foot H p (.lst ds) = [p] := rfl
theorem foot_one {p a : Addr} {d : D} (n : ∀ H p, kids H p d = []) (h : a ∈ foot H p d) : a = p := by
  unfold foot at h
  rw [n] at h
  exact List.mem_singleton.mp h
theorem kids_io {p : Addr} {js : List Nat} {ds outs : List D} {xs : List V} (h : H p = some (.tup xs)) : kids H p (.io js (.tup ds) outs) = kidsOf (flg js 0 ds) xs := by
  unfold kids
  rw [h]
  rfl
theorem kid_ref : ∀ {ks : List Bool} {xs : List V} {q : Addr}, q ∈ kidsOf ks xs → V.ref q ∈ xs
  | [], xs, q, m => by cases xs <;> cases m
  | k :: ks, [], q, m => by cases k <;> cases m
  | true :: ks, x :: xs, q, m => by
    cases x with
    | ref q' =>
      rcases List.mem_cons.mp m with e | e
      · rw [e]; exact List.mem_cons_self
      · exact List.mem_cons_of_mem _ (kid_ref e)
    | _ => exact List.mem_cons_of_mem _ (kid_ref (ks := ks) m)
  | false :: ks, x :: xs, q, m => by
    cases x <;> exact List.mem_cons_of_mem _ (kid_ref (ks := ks) m)
theorem kid_nref {ks : List Bool} {xs : List V} (h : kidsOf ks xs ≠ []) : isTup (.tup xs) = false := by
  show xs.all nref = false
  cases e : kidsOf ks xs with
  | nil => exact absurd e h
  | cons q qs =>
    have m : V.ref q ∈ xs := kid_ref (ks := ks) (by rw [e]; exact List.mem_cons_self)
    cases z : xs.all nref with
    | false => rfl
    | true =>
      have := List.all_eq_true.mp z _ m
      cases this
theorem zip_snd {α β : Type} : ∀ {xs : List α} {ys : List β}, xs.length = ys.length → (xs.zip ys).map (·.2) = ys
  | [], [], _ => rfl
  | [], _ :: _, h => by simp at h
  | _ :: _, [], h => by simp at h
  | x :: xs, y :: ys, h => by
    rw [List.zip_cons_cons, List.map_cons, zip_snd (by simpa using h)]
theorem kids_ob {p dx C : Addr} {c : Str} {ns : List Str} {ks : List Bool} {ds : List D} {xs : List V} (h : H p = some (.ins C dx (ns.zip xs))) (l : ns.length = xs.length) : kids H p (.ob c ns ks ds) = kidsOf ks xs := by
  unfold kids
  rw [h]
  show kidsOf ks ((ns.zip xs).map (·.2)) = _
  rw [zip_snd l]
theorem OwnC1.there {p : Addr} {d : D} (h : OwnC1 K I H p d) : ∃ o, H p = some o ∧ isTup o = false ∧ (∀ C dx fs, o ≠ .ins C dx fs) := by
  cases d with
  | lst _ => obtain ⟨xs, e, _⟩ := h; exact ⟨_, e, rfl, fun _ _ _ z => nomatch z⟩
  | dk _ _ => obtain ⟨xs, e, _⟩ := h; exact ⟨_, e, rfl, fun _ _ _ z => nomatch z⟩
  | dt _ _ => obtain ⟨xs, e, _⟩ := h; exact ⟨_, e, rfl, fun _ _ _ z => nomatch z⟩
  | _ => exact False.elim h
theorem OwnFs.kid : ∀ {ks : List Bool} {ds : List D} {xs : List V} {q : Addr}, OwnFs K I H ks ds xs → q ∈ kidsOf ks xs → I q = none ∧ ∃ d, OwnC1 K I H q d
  | [], ds, xs, q, h, m => by cases xs <;> cases m
  | true :: ks, [], _, q, h, m => by cases h
  | false :: ks, [], _, q, h, m => by cases h
  | true :: ks, _ :: _, [], q, h, m => by cases h
  | false :: ks, _ :: _, [], q, h, m => by cases h
  | true :: ks, d :: ds, x :: xs, q, h, m => by
    obtain ⟨⟨q', rfl, h1, h2⟩, h3⟩ := h
    rcases List.mem_cons.mp m with e | e
    · subst e
      exact ⟨h1, d, h2⟩
    · exact OwnFs.kid h3 e
  | false :: ks, d :: ds, x :: xs, q, h, m => by
    obtain ⟨h1, h3⟩ := h
    have m' : q ∈ kidsOf ks xs := by
      cases x <;> exact m
    exact OwnFs.kid h3 m'
theorem OwnC.ft {p : Addr} {d : D} (hp : I p = none) (h : OwnC K I H p d) : ∀ a ∈ foot H p d, I a = none ∧ ∃ o, H a = some o ∧ isTup o = false := by
  intro a m
  cases d with
  | ob c ns ks ds =>
    obtain ⟨dx, xs, e, l, f, n, z⟩ := h
    rcases List.mem_cons.mp m with q | q
    · subst q
      exact ⟨hp, _, e, rfl⟩
    · rw [kids_ob e l] at q
      obtain ⟨h1, d', h2⟩ := f.kid q
      obtain ⟨o, h3, h4, _⟩ := h2.there
      exact ⟨h1, o, h3, h4⟩
  | io js r outs =>
    obtain ⟨ds, xs, rfl, e, f, n, ne, z⟩ := h
    rcases List.mem_cons.mp m with q | q
    · subst q
      exact ⟨hp, _, e, kid_nref ne⟩
    · rw [kids_io e] at q
      obtain ⟨h1, d', h2⟩ := f.kid q
      obtain ⟨o, h3, h4, _⟩ := h2.there
      exact ⟨h1, o, h3, h4⟩
  | lst _ =>
    have := List.mem_singleton.mp m
    subst this
    obtain ⟨o, h3, h4, _⟩ := OwnC1.there (show OwnC1 K I H a (.lst _) from h)
    exact ⟨hp, o, h3, h4⟩
  | dk _ _ =>
    have := List.mem_singleton.mp m
    subst this
    obtain ⟨o, h3, h4, _⟩ := OwnC1.there (show OwnC1 K I H a (.dk _ _) from h)
    exact ⟨hp, o, h3, h4⟩
  | dt _ _ =>
    have := List.mem_singleton.mp m
    subst this
    obtain ⟨o, h3, h4, _⟩ := OwnC1.there (show OwnC1 K I H a (.dt _ _) from h)
    exact ⟨hp, o, h3, h4⟩
  | _ => exact False.elim h
theorem OwnC.there {p : Addr} {d : D} (h : OwnC K I H p d) : ∃ o, H p = some o ∧ isTup o = false := by
  cases d with
  | ob c ns ks ds =>
    obtain ⟨dx, xs, e, _⟩ := h
    exact ⟨_, e, rfl⟩
  | io js r outs =>
    obtain ⟨ds, xs, rfl, e, f, n, ne, z⟩ := h
    exact ⟨_, e, kid_nref ne⟩
  | lst _ => obtain ⟨xs, e, _⟩ := h; exact ⟨_, e, rfl⟩
  | dk _ _ => obtain ⟨xs, e, _⟩ := h; exact ⟨_, e, rfl⟩
  | dt _ _ => obtain ⟨xs, e, _⟩ := h; exact ⟨_, e, rfl⟩
  | _ => exact False.elim h
theorem OwnC1.same {p : Addr} {d : D} (h : OwnC1 K I H p d) (ii : ∀ b o, I b = some o → I' b = some o) (hp : H' p = H p) : OwnC1 K I' H' p d := by
  cases d with
  | lst _ => obtain ⟨xs, e, r, z⟩ := h; exact ⟨xs, hp.trans e, r.mono ii _ _, z⟩
  | dk _ _ => obtain ⟨xs, e, r, z⟩ := h; exact ⟨xs, hp.trans e, r.mono ii _ _, z⟩
  | dt _ _ => obtain ⟨xs, e, r, z⟩ := h; exact ⟨xs, hp.trans e, r.mono ii _ _, z⟩
  | _ => exact False.elim h
theorem OwnFs.same (ii : ∀ b o, I b = some o → I' b = some o) : ∀ {ks : List Bool} {ds : List D} {xs : List V}, OwnFs K I H ks ds xs → (∀ a ∈ kidsOf ks xs, H' a = H a ∧ I' a = none) → OwnFs K I' H' ks ds xs
  | [], [], [], h, m => trivial
  | [], [], _ :: _, h, m => by cases h
  | [], _ :: _, _, h, m => by cases h
  | true :: ks, [], _, h, m => by cases h
  | false :: ks, [], _, h, m => by cases h
  | true :: ks, _ :: _, [], h, m => by cases h
  | false :: ks, _ :: _, [], h, m => by cases h
  | true :: ks, d :: ds, x :: xs, h, m => by
    obtain ⟨⟨q', rfl, h1, h2⟩, h3⟩ := h
    obtain ⟨m1, m2⟩ := m q' List.mem_cons_self
    exact ⟨⟨q', rfl, m2, h2.same ii m1⟩, OwnFs.same ii h3 fun a ha => m a (List.mem_cons_of_mem _ ha)⟩
  | false :: ks, d :: ds, x :: xs, h, m => by
    obtain ⟨h1, h3⟩ := h
    exact ⟨h1.mono ii _ _, OwnFs.same ii h3 fun a ha => m a (by cases x <;> exact ha)⟩
theorem OwnC.same {p : Addr} {d : D} (h : OwnC K I H p d) (ii : ∀ b o, I b = some o → I' b = some o) (hh : ∀ a ∈ foot H p d, H' a = H a) (hi : ∀ a ∈ foot H p d, I' a = none) : OwnC K I' H' p d ∧ foot H' p d = foot H p d := by
  have hp := hh p foot_self
  cases d with
  | ob c ns ks ds =>
    obtain ⟨dx, xs, e, l, f, n, z⟩ := h
    have e' := hp.trans e
    refine ⟨⟨dx, xs, e', l, f.same ii fun a m => ?_, n, z⟩, ?_⟩
    · rw [← kids_ob (c := c) (ks := ks) (ds := ds) e l] at m
      exact ⟨hh a (List.mem_cons_of_mem _ m), hi a (List.mem_cons_of_mem _ m)⟩
    · unfold foot
      rw [kids_ob e l, kids_ob e' l]
  | io js r outs =>
    obtain ⟨ds, xs, rfl, e, f, n, ne, z⟩ := h
    have e' := hp.trans e
    refine ⟨⟨ds, xs, rfl, e', f.same ii fun a m => ?_, n, ne, z⟩, ?_⟩
    · rw [← kids_io (outs := outs) e] at m
      exact ⟨hh a (List.mem_cons_of_mem _ m), hi a (List.mem_cons_of_mem _ m)⟩
    · unfold foot
      rw [kids_io e, kids_io e']
  | lst _ => exact ⟨OwnC1.same (d := .lst _) h ii hp, rfl⟩
  | dk _ _ => exact ⟨OwnC1.same (d := .dk _ _) h ii hp, rfl⟩
  | dt _ _ => exact ⟨OwnC1.same (d := .dt _ _) h ii hp, rfl⟩
  | _ => exact False.elim h
theorem OwnC.ext {p : Addr} {d : D} (hp : I p = none) (h : OwnC K I H p d) (e : Ext I H I' H') : OwnC K I' H' p d ∧ foot H' p d = foot H p d ∧ I' p = none := by
  have ft := h.ft hp
  have hi : ∀ a ∈ foot H p d, I' a = none := fun a m => by
    obtain ⟨i0, o, ho, nt⟩ := ft a m
    exact (e.fr a o ho nt).trans i0
  obtain ⟨q1, q2⟩ := h.same e.ii (fun a m => by
    obtain ⟨_, o, ho, _⟩ := ft a m
    rw [ho]
    exact e.hh a o ho) hi
  exact ⟨q1, q2, hi p foot_self⟩
theorem Own.ext {d : D} {v : V} (h : Own K I H d v) (e : Ext I H I' H') : Own K I' H' d v := by
  obtain ⟨p, rfl, hp, c⟩ := h
  obtain ⟨q1, _, q3⟩ := c.ext hp e
  exact ⟨p, rfl, q3, q1⟩
theorem See.ext {d : D} {v : V} (h : See K I H d v) (e : Ext I H I' H') : See K I' H' d v := by
  rcases h with h | h
  · exact .inl (h.mono e.ii _ _)
  · exact .inr (h.ext e)
theorem RK.ext {B : Bd} {Hs : Hp} {k : Kd} {d : D} {v : V} (h : RK K B Hs I H k d v) (e : Ext I H I' H') : RK K B Hs I' H' k d v := by
  cases k with
  | fz => exact Rep.mono e.ii _ _ h
  | ow =>
    obtain ⟨⟨p, rfl, hp, c⟩, p', e1, z⟩ := h
    cases e1
    obtain ⟨q1, q2, q3⟩ := c.ext hp e
    exact ⟨⟨p, rfl, q3, q1⟩, p, rfl, by rw [q2]; exact z⟩
  | bo =>
    obtain ⟨⟨p, rfl, hp, c⟩, p', e1, z⟩ := h
    cases e1
    obtain ⟨q1, q2, q3⟩ := c.ext hp e
    exact ⟨⟨p, rfl, q3, q1⟩, p, rfl, by rw [q2]; exact z⟩
theorem OwnC1.rep {p : Addr} {d : D} (h : OwnC1 K I H p d) (ii : ∀ b o, I b = some o → I' b = some o) (hp : I' p = H p) : Rep K I' d (.ref p) := by
  cases d with
  | lst _ =>
    obtain ⟨xs, e, r, z⟩ := h
    simp only [Rep]
    exact ⟨p, xs, rfl, hp.trans e, r.mono ii _ _, z⟩
  | dk _ _ =>
    obtain ⟨xs, e, r, z⟩ := h
    simp only [Rep]
    exact ⟨p, xs, rfl, hp.trans e, r.mono ii _ _, z⟩
  | dt _ _ =>
    obtain ⟨xs, e, r, z⟩ := h
    simp only [Rep]
    exact ⟨p, xs, rfl, hp.trans e, r.mono ii _ _, z⟩
  | _ => exact False.elim h
theorem OwnFs.reps (ii : ∀ b o, I b = some o → I' b = some o) : ∀ {ks : List Bool} {ds : List D} {xs : List V}, OwnFs K I H ks ds xs → (∀ a ∈ kidsOf ks xs, I' a = H a) → Reps K I' ds xs
  | [], [], [], h, m => Reps.nil
  | [], [], _ :: _, h, m => by cases h
  | [], _ :: _, _, h, m => by cases h
  | true :: ks, [], _, h, m => by cases h
  | false :: ks, [], _, h, m => by cases h
  | true :: ks, _ :: _, [], h, m => by cases h
  | false :: ks, _ :: _, [], h, m => by cases h
  | true :: ks, d :: ds, x :: xs, h, m => by
    obtain ⟨⟨q', rfl, h1, h2⟩, h3⟩ := h
    exact Reps.cons (h2.rep ii (m q' List.mem_cons_self)) (OwnFs.reps ii h3 fun a ha => m a (List.mem_cons_of_mem _ ha))
  | false :: ks, d :: ds, x :: xs, h, m => by
    obtain ⟨h1, h3⟩ := h
    exact Reps.cons (h1.mono ii _ _) (OwnFs.reps ii h3 fun a ha => m a (by cases x <;> exact ha))
/-- what was of one's own is frozen, with all its parts -/
theorem OwnC.freeze {p : Addr} {d : D} (s : Sub I H) (hp : I p = none) (h : OwnC K I H p d) : ∃ I', (∀ b o, I b = some o → I' b = some o) ∧ Sub I' H ∧ Rep K I' d (.ref p) ∧ (∀ b, b ∉ foot H p d → I' b = I b) ∧ ∀ b ∈ foot H p d, I' b = H b := by
  have ft := h.ft hp
  have ii : ∀ b o, I b = some o → (fun b => if b ∈ foot H p d then H b else I b) b = some o := fun b o q => by
    show (if b ∈ foot H p d then H b else I b) = some o
    rw [if_neg fun m => by rw [(ft b m).1] at q; cases q]
    exact q
  have at_ : ∀ b ∈ foot H p d, (fun b => if b ∈ foot H p d then H b else I b) b = H b := fun b m => by
    show (if b ∈ foot H p d then H b else I b) = H b
    rw [if_pos m]
  refine ⟨fun b => if b ∈ foot H p d then H b else I b, ii, fun b u q => ?_, ?_, fun b m => if_neg m, at_⟩
  · have q : (if b ∈ foot H p d then H b else I b) = some u := q
    split at q
    · exact .inl q
    · exact s b u q
  · cases d with
    | ob c ns ks ds =>
      obtain ⟨dx, xs, e, l, f, n, z⟩ := h
      simp only [Rep]
      refine ⟨p, dx, xs, rfl, (at_ p foot_self).trans e, f.reps ii fun a m => at_ a ?_, l⟩
      unfold foot
      rw [kids_ob e l]
      exact List.mem_cons_of_mem _ m
    | io js r outs =>
      obtain ⟨ds, xs, rfl, e, f, n, ne, z⟩ := h
      simp only [Rep]
      refine ⟨⟨ds, rfl⟩, p, xs, rfl, (at_ p foot_self).trans e, f.reps ii fun a m => at_ a ?_, z⟩
      unfold foot
      rw [kids_io e]
      exact List.mem_cons_of_mem _ m
    | lst _ => exact OwnC1.rep (d := .lst _) h ii (at_ p foot_self)
    | dk _ _ => exact OwnC1.rep (d := .dk _ _) h ii (at_ p foot_self)
    | dt _ _ => exact OwnC1.rep (d := .dt _ _) h ii (at_ p foot_self)
    | _ => exact False.elim h
theorem Ext.freezeF {I H I1 H1 I2 : Hp} (a : Ext I H I1 H1) {F : List Addr} (h0 : ∀ b ∈ F, H b = none) (ii : ∀ b o, I1 b = some o → I2 b = some o) (su : Sub I2 H1) (out : ∀ b, b ∉ F → I2 b = I1 b) : Ext I H I2 H1 :=
  ⟨fun b o q => ii b o (a.ii b o q), a.hh, su, fun b o q n => (out b fun m => by rw [h0 b m] at q; cases q).trans (a.fr b o q n)⟩

/-- the slots -/
structure SR (K : PySem.W.Frag) (B : Bd) (I H : Hp) (σ : List (Option V)) (ρ : List (Option (Kd × D))) : Prop where
  len : σ.length = ρ.length
  fz : ∀ (i : Nat) (d : D), ρ[i]? = some (some (Kd.fz, d)) → ∃ v, σ[i]? = some (some v) ∧ Rep K I d v
  ow : ∀ (i : Nat) (d : D), ρ[i]? = some (some (Kd.ow, d)) → ∃ p, σ[i]? = some (some (V.ref p)) ∧ I p = none ∧ OwnC K I H p d ∧ ∀ a ∈ foot H p d, ¬ B a
  bo : ∀ (i : Nat) (d : D), ρ[i]? ≠ some (some (Kd.bo, d))
  ne : ∀ (i j : Nat) (d e : D) (p q : Addr), i ≠ j → ρ[i]? = some (some (Kd.ow, d)) → ρ[j]? = some (some (Kd.ow, e)) → σ[i]? = some (some (V.ref p)) → σ[j]? = some (some (V.ref q)) → ∀ a ∈ foot H p d, a ∉ foot H q e
/-- a state -/
structure Sta (K : PySem.W.Frag) (B : Bd) (I H : Hp) (σ : List (Option V)) (ρ : List (Option (Kd × D))) : Prop where
  su : Sub I H
  ba : ∀ b, B b → ∃ o, H b = some o
  pn : ∀ (j : Nat) (p : Addr), (j, p) ∈ B.pins → σ[j]? = some (some (V.ref p)) ∧ ∃ d, ρ[j]? = some (some (Kd.ow, d))
  sl : SR K B I H σ ρ
theorem Sta.ext {B : Bd} {σ : L2.St} {ρ : Env} (s : Sta K B I H σ ρ) (e : Ext I H I' H') : Sta K B I' H' σ ρ := by
  have ft : ∀ (i : Nat) (d : D) (p : Addr), ρ[i]? = some (some (Kd.ow, d)) → σ[i]? = some (some (V.ref p)) → foot H' p d = foot H p d := fun i d p h hp => by
    obtain ⟨p', h1, h2, h3, h4⟩ := s.sl.ow i d h
    rw [hp] at h1
    cases h1
    exact (h3.ext h2 e).2.1
  refine ⟨e.su, fun b hb => ?_, s.pn, s.sl.len, fun i d h => ?_, fun i d h => ?_, s.sl.bo, fun i j d d' p q n h1 h2 h3 h4 => ?_⟩
  · obtain ⟨o, q⟩ := s.ba b hb
    exact ⟨o, e.hh b o q⟩
  · obtain ⟨v, h1, h2⟩ := s.sl.fz i d h
    exact ⟨v, h1, h2.mono e.ii _ _⟩
  · obtain ⟨p, h1, h2, h3, h4⟩ := s.sl.ow i d h
    obtain ⟨q1, q2, q3⟩ := h3.ext h2 e
    exact ⟨p, h1, q3, q1, by rw [q2]; exact h4⟩
  · rw [ft i d p h1 h3, ft j d' q h2 h4]
    exact s.sl.ne i j d d' p q n h1 h2 h3 h4
theorem Sta.np {B : Bd} {σ : L2.St} {ρ : Env} (s : Sta K B I H σ ρ) : Sta K B.np I H σ ρ := ⟨s.su, s.ba, (fun _ _ m => nomatch m), s.sl.len, s.sl.fz, s.sl.ow, s.sl.bo, s.sl.ne⟩

/-- what a list's looking at gives -/
theorem See.lst {ds : List D} {v : V} (h : See K I H (.lst ds) v) (s : Sub I H) : ∃ a xs, v = .ref a ∧ H a = some (.lst xs) ∧ Reps K I ds xs ∧ ds.length ≤ LINE := by
  rcases h with h | ⟨p, rfl, hp, xs, e, r, z⟩
  · simp only [Rep] at h
    obtain ⟨a, xs, e, h1, h2, h3⟩ := h
    rcases s a _ h1 with q | ⟨q, _⟩
    · exact ⟨a, xs, e, q, h2, h3⟩
    · cases q
  · exact ⟨p, xs, rfl, e, r, z⟩
theorem See.tup {ds : List D} {v : V} (h : See K I H (.tup ds) v) (s : Sub I H) : ∃ a xs, v = .ref a ∧ H a = some (.tup xs) ∧ I a = some (.tup xs) ∧ Reps K I ds xs ∧ ds.length ≤ LINE := by
  rcases h with h | ⟨p, rfl, hp, c⟩
  · simp only [Rep] at h
    obtain ⟨a, xs, e, h1, h2, h3⟩ := h
    rcases s a _ h1 with q | ⟨q, _⟩
    · exact ⟨a, xs, e, q, h1, h2, h3⟩
    · cases q
  · exact False.elim c
theorem sql_sub {a : Addr} {xs : List V} (s : Sub I H) (h : SqL K I a xs) : SqL K H a xs := by
  rcases h with (h | ⟨o, h⟩) | h
  · rcases s a _ h with q | ⟨q, _⟩
    · exact .inl (.inl q)
    · cases q
  · rcases s a _ h with q | ⟨q, _⟩
    · exact .inl (.inr ⟨o, q⟩)
    · cases q
  · exact .inr h
theorem See.scr {ns : List Int} {v : V} (h : See K I H (.scr ns) v) (s : Sub I H) : ∃ a, v = .ref a ∧ SqL K H a (ns.map V.int) ∧ ns.length ≤ LINE := by
  rcases h with h | ⟨p, rfl, hp, c⟩
  · simp only [Rep] at h
    obtain ⟨a, e, h1, h2⟩ := h
    exact ⟨a, e, sql_sub s h1, h2⟩
  · exact False.elim c
theorem See.exc {c : Str} {v : V} (h : See K I H (.exc c) v) (s : Sub I H) : ∃ a cls d, v = .ref a ∧ ExAs K H c cls d ∧ H a = some (ExHD cls d a) := by
  rcases h with h | ⟨p, rfl, hp, c⟩
  · simp only [Rep] at h
    obtain ⟨a, cls, d, e, h0, h1⟩ := h
    rcases s a _ h1 with q | ⟨q, _⟩
    · refine ⟨a, cls, d, e, ?_, q⟩
      rcases h0 with h0 | ⟨n, dd, g1, g2, g3, g4⟩
      · exact .inl h0
      · rcases s dd _ g4 with q4 | ⟨q4, _⟩
        · exact .inr ⟨n, dd, g1, g2, g3, q4⟩
        · cases q4
    · cases q
  · exact False.elim c
theorem See.dk {ks : List Key} {ws : List D} {v : V} (h : See K I H (.dk ks ws) v) (s : Sub I H) : ∃ a xs, v = .ref a ∧ Rd H a (.dK (ks.zip xs)) ∧ Reps K I ws xs ∧ ks.length = xs.length ∧ ks.length ≤ LINE ∧ ks.all okK = true := by
  rcases h with h | ⟨p, rfl, hp, xs, e, r, z⟩
  · simp only [Rep] at h
    obtain ⟨a, xs, e, h1, h2, h3⟩ := h
    rcases s a _ h1 with q | ⟨_, od, q⟩
    · exact ⟨a, xs, e, .inl q, h2, h3⟩
    · exact ⟨a, xs, e, .inr ⟨od, q⟩, h2, h3⟩
  · exact ⟨p, xs, rfl, .inl e, r, z⟩
theorem See.dt {ks : List (List Key)} {ws : List D} {v : V} (h : See K I H (.dt ks ws) v) (s : Sub I H) : ∃ a xs, v = .ref a ∧ Rd H a (.dT (ks.zip xs)) ∧ Reps K I ws xs ∧ ks.length = xs.length ∧ ks.length ≤ LINE ∧ ks.all okKs = true := by
  rcases h with h | ⟨p, rfl, hp, xs, e, r, z⟩
  · simp only [Rep] at h
    obtain ⟨a, xs, e, h1, h2, h3⟩ := h
    rcases s a _ h1 with q | ⟨_, od, q⟩
    · exact ⟨a, xs, e, .inl q, h2, h3⟩
    · exact ⟨a, xs, e, .inr ⟨od, q⟩, h2, h3⟩
  · exact ⟨p, xs, rfl, .inl e, r, z⟩
theorem See.ob {c : Str} {ns : List Str} {ks : List Bool} {ds : List D} {v : V} (h : See K I H (.ob c ns ks ds) v) (s : Sub I H) : ∃ a dx xs, v = .ref a ∧ H a = some (.ins (cA K c) dx (ns.zip xs)) ∧ ns.length = xs.length ∧ ds.length = xs.length ∧ ∀ (j : Nat) (d : D), ds[j]? = some d → ∃ x, xs[j]? = some x ∧ See K I H d x := by
  rcases h with h | ⟨p, rfl, hp, dx, xs, e, l, f, n, z⟩
  · simp only [Rep] at h
    obtain ⟨a, dx, xs, e, h1, h2, h3⟩ := h
    refine ⟨a, dx, xs, e, ?_, h3, h2.len.symm, fun j d hj => ?_⟩
    · rcases s a _ h1 with q | ⟨q, _⟩
      · exact q
      · cases q
    · obtain ⟨x, q1, q2⟩ := h2.get hj
      exact ⟨x, q1, .inl q2⟩
  · have key : ∀ (ks : List Bool) (ds : List D) (xs : List V), OwnFs K I H ks ds xs → ds.length = xs.length ∧ ∀ (j : Nat) (d : D), ds[j]? = some d → ∃ x, xs[j]? = some x ∧ See K I H d x := fun ks => by
      induction ks with
      | nil =>
        intro ds xs f
        cases ds <;> cases xs <;> first | (cases f; done) | skip
        exact ⟨rfl, fun j d hj => by simp at hj⟩
      | cons k ks ih =>
        intro ds xs f
        cases ds with
        | nil => cases k <;> cases f
        | cons d ds =>
          cases xs with
          | nil => cases k <;> cases f
          | cons x xs =>
            cases k with
            | true =>
              obtain ⟨⟨q, rfl, h1, h2⟩, h3⟩ := f
              obtain ⟨i1, i2⟩ := ih ds xs h3
              refine ⟨by rw [List.length_cons, List.length_cons, i1], fun j e hj => ?_⟩
              cases j with
              | zero =>
                cases hj
                refine ⟨_, rfl, .inr ⟨q, rfl, h1, ?_⟩⟩
                cases d <;> first | exact h2 | exact False.elim h2
              | succ j => exact i2 j e hj
            | false =>
              obtain ⟨h1, h3⟩ := f
              obtain ⟨i1, i2⟩ := ih ds xs h3
              refine ⟨by rw [List.length_cons, List.length_cons, i1], fun j e hj => ?_⟩
              cases j with
              | zero =>
                cases hj
                exact ⟨_, rfl, .inl h1⟩
              | succ j => exact i2 j e hj
    obtain ⟨q1, q2⟩ := key ks ds xs f
    exact ⟨p, dx, xs, rfl, e, l, q1, q2⟩
theorem See.int {i : Int} {v : V} (h : See K I H (.int i) v) : v = .int i := by
  rcases h with h | ⟨p, _, _, c⟩
  · simpa only [Rep] using h
  · exact False.elim c
theorem See.bl {i : Bool} {v : V} (h : See K I H (.bl i) v) : v = .bl i := by
  rcases h with h | ⟨p, _, _, c⟩
  · simpa only [Rep] using h
  · exact False.elim c
theorem See.non {v : V} (h : See K I H .non v) : v = .non := by
  rcases h with h | ⟨p, _, _, c⟩
  · simpa only [Rep] using h
  · exact False.elim c
theorem See.str {x : Str} {v : V} (h : See K I H (.str x) v) : v = .str x ∧ x.length ≤ LINE ∧ PyData.strOk x = true := by
  rcases h with h | ⟨p, _, _, c⟩
  · simpa only [Rep] using h
  · exact False.elim c
theorem rep_int {i : Int} : Rep K I (.int i) (.int i) := by simp only [Rep]
theorem rep_bl {i : Bool} : Rep K I (.bl i) (.bl i) := by simp only [Rep]
theorem rep_non : Rep K I .non .non := by simp only [Rep]
end
end R

set_option linter.all false
set_option maxRecDepth 100000
/-! enumerate over a tuple. -/
namespace PySem
open Sem (wp)
open AutoSeq1 (wpAny_loadPart')
theorem meets_enumT (l : Addr) (items : Array Value) (n : Nat) (dct : Option Addr) (sl : Array (Option Value)) :
    Meets (Builtin.«enumerate.__new__» ⟨[.type "enumerate", .ref l], []⟩) (fun _ R s => s.heap.get? l = some { cls := .type "tuple", dict := dct, data := .seq items n, slots := sl } ∧
      R (.ok (.ret (.ref (s.heap.push { cls := .type "tuple_iterator", data := .fields #[.ref l, .int 0 0] }).objs.size)))
        { s with heap := (s.heap.push { cls := .type "tuple_iterator", data := .fields #[.ref l, .int 0 0] }).push { cls := .type "enumerate", data := .fields #[.none, .bool false, .ref s.heap.objs.size, rawInt 0, .none, .none] } }) :=
  .of_wp fun prog w A R s h => by
    obtain ⟨hp, g, d, tk, os⟩ := s
    obtain ⟨hl, h⟩ := h
    have isub := sub_enumerate
    have hL : Heap.IsTuple (Shared.heap ⟨hp, g, d, tk, os⟩) l items := ⟨_, hl, rfl, n, rfl⟩
    wp_walk using AutoSeq1.wpAny_loadPart' hl
    refine wpAny_stack_any fun st => wpAny_pure ?_
    split
    · rename_i c _ _ _ _ _
      cases (c == Value.type "enumerate")
      · wp_walk using AutoSeq1.wpAny_loadPart' hl, wpAny_pyIter_tuple hL
        exact ⟨_, rfl, h⟩
      · wp_walk using AutoSeq1.wpAny_loadPart' hl, wpAny_pyIter_tuple hL
        exact ⟨_, rfl, h⟩
    · wp_walk using AutoSeq1.wpAny_loadPart' hl, wpAny_pyIter_tuple hL
      exact ⟨_, rfl, h⟩
theorem wpAny_pyNext_enum_endT {prog : Program} {w : World} {A : Around} {E : Value → Shared → Prop} {s : Shared} {e it t : Addr} {items : Array Value} {j : Nat} {i : Int} {old : Value} {Q : Option Value → Shared → Prop}
    (hh : A.handled = none) (he : IsEnum s.heap e it i old) (hit : s.heap.IsTupleIter it t j) (ht : s.heap.IsTuple t items) (hx : items[j]? = none)
    (hQ : ∀ h', Heap.ExtBut it s.heap h' → Q none { s with heap := h' }) : wpAny (model prog w) A (pyNext (.ref e)) Q E s := by
  have hT : s.TypeIs (.ref e) "enumerate" := ⟨_, he, rfl⟩
  unfold pyNext
  refine wpAny_bind (wpAny_attempt (wpAny_callSpecial?_slot (name := Str.ofString "__next__") hT F.slot_enumerate_next
    (wpAny_call_entry F.slot_enumerate_next hT F.entry_enumerate_next ?_ (F.args_enumerate_next_1 _))))
  show wpAny _ _ (field (.ref e) 2 >>= _) _ _ _
  refine wpAny_bind (wpAny_field he rfl (x := .ref it) rfl ?_)
  refine wpAny_bind (wpAny_nextOf_tuple_end (A := A.in1) hh hit ht hx fun h' x he' hx' => ?_)
  obtain ⟨o, ho, hc⟩ := hx'
  refine wpAny_bind (wpAny_isInstance (T := "StopIteration") (b := true) ⟨o, ho, hc⟩ isSubtype_stop ?_)
  exact wpAny_pure (hQ _ he')
theorem call_enumT {prog : Program} {w : World} {A : Around} {E : Value → Shared → Prop} {s : Shared} {l : Addr} {items : Array Value} {Q : Value → Shared → Prop} (hL : s.heap.IsTuple l items)
    (h : ∀ h', IsEnum h' (s.heap.objs.size + 1) s.heap.objs.size 0 .none → h'.IsTupleIter s.heap.objs.size l 0 → h'.objs.size = s.heap.objs.size + 2 →
      (∀ b o, s.heap.get? b = some o → h'.get? b = some o) → Q (.ref (s.heap.objs.size + 1)) { s with heap := h' }) :
    wpAny (model prog w) A (call (.type "enumerate") [.ref l]) Q E s := by
  obtain ⟨⟨c, dct, dt, sl⟩, hl, hc, n, hd⟩ := hL
  replace hc : c = .type "tuple" := hc
  replace hd : dt = .seq items n := hd
  subst hc hd
  refine callType_new F.called_enumerate (by decide) (F.typeCall_enumerate_1 _) (F.newCall_enumerate_1 _) (fun obj => F.args_object_init_2 obj _) F.entry_enumerate_new
    (meets_enumT l items n dct sl) ⟨hl, ?_⟩
  generalize hi : ({ cls := .type "tuple_iterator", data := .fields #[.ref l, .int 0 0] } : Obj) = io
  generalize ho : ({ cls := .type "enumerate", data := .fields #[.none, .bool false, .ref s.heap.objs.size, rawInt 0, .none, .none] } : Obj) = eo
  have fi : io.isFreed = false := by rw [← hi]; rfl
  have fo : eo.isFreed = false := by rw [← ho]; rfl
  have hz : (s.heap.push io).objs.size = s.heap.objs.size + 1 := Heap.size_push ..
  show _ ∧ _
  rw [hz]
  have he : ((s.heap.push io).push eo).get? (s.heap.objs.size + 1) = some eo := by
    have := Heap.get?_push_size (s.heap.push io) (o := eo) fo
    rw [hz] at this
    exact this
  have k : ∀ b o, s.heap.get? b = some o → ((s.heap.push io).push eo).get? b = some o := fun b o x => Heap.get?_push_of_some _ (Heap.get?_push_of_some _ x)
  have q := h ((s.heap.push io).push eo) (by rw [← ho] at he ⊢; exact he) ⟨io, Heap.get?_push_of_some _ (Heap.get?_push_size _ fi), by rw [← hi], by rw [← hi]; rfl⟩ (by rw [Heap.size_push, hz]) k
  exact ⟨⟨eo, he, by rw [← ho]⟩, q⟩
end PySem
namespace R
open PySem PySem.Spec PyProof.Rows L2
/-- the items of the tuple at a, each in a new pair -/
def IteT (K : PySem.W.Frag) (a : Addr) : It :=
  ⟨fun i H => ∃ (xs : List V) (x : V), SqT K H a xs ∧ xs[i]? = some x, fun i H v H' => ∃ T x, v = .ref T ∧ H T = none ∧ H' = upd H T (.tup [.int (i : Nat), x]) ∧ ∀ xs, SqT K H a xs → xs[i]? = some x, fun i H => ∃ xs : List V, SqT K H a xs ∧ xs.length ≤ i⟩
theorem turn_enumT {P : Program} {w : World} {K : PySem.W.Frag} {elts : List Expr} {kk : Nat} {tpos : Pos} (a e it : Addr) :
    Turn P w K (.Tuple elts kk tpos) (IteT K a) [e, it] e (fun i h => ((∃ old, IsEnum h e it ((i : Nat) : Int) old) ∧ h.IsTupleIter it a i ∧ e ≠ it ∧ a ≠ it) ∧ e ≠ a) where
  mem := by simp
  obj := fun i h st b hb => by
    obtain ⟨⟨⟨old, he⟩, ⟨o, ho, hc, hd⟩, _⟩, _⟩ := st
    have e' : b = e ∨ b = it := by simpa using hb
    rcases e' with z | z
    · rw [z]; exact ⟨_, he, fun v q => nomatch q⟩
    · rw [z]; exact ⟨o, ho, fun v q => by rw [hd] at q; cases q⟩
  keep := fun i h h' st k => by
    obtain ⟨⟨⟨old, he⟩, hi, n1, n2⟩, n3⟩ := st
    exact ⟨⟨⟨old, k e (by simp) _ he⟩, hi.at fun o q => k it (by simp) o q, n1, n2⟩, n3⟩
  item := by
    intro X hP hw hK hc i pins s σ H E I hf st hg
    subst hP hw hK
    obtain ⟨⟨⟨old, he⟩, hit, hne, hna⟩, hea⟩ := st
    obtain ⟨xs, x, hq, hx⟩ := hg
    obtain ⟨its, rv, p, hz⟩ := I.tuple hq
    obtain ⟨u, hu, ru⟩ := rv.get hx
    have hel : e < s.heap.objs.size := Heap.lt_size he
    have hil : it < s.heap.objs.size := by obtain ⟨_, q, _⟩ := hit; exact Heap.lt_size q
    have D := Draws.tuple (prog := X.prog) (w := X.w) (A := X.A.in1) (show X.A.in1.handled = none from I.ok.hd hc) it a hna its.toArray
    have lt : i < its.toArray.size := by
      have := (List.getElem?_eq_some_iff.mp hu).1
      simpa using this
    refine wpAny_pyNext_enum_itemC D he ⟨hit, p⟩ lt hne (by simp; exact ⟨hne, hea⟩) fun u' h' tk hu' ho hst hT hsz hk => ?_
    have : u' = u := by
      have z : its.toArray[i]? = some u := by simpa using hu
      rw [z] at hu'
      exact (Option.some.inj hu').symm
    subst this
    refine ⟨_, rfl, wpAny_letOwnedTupleGo_enum (s := { s with heap := h', toks := tk + 1 }) ho fun h'' he' sb => ?_⟩
    have hT2 : h''.get? s.heap.objs.size = some { cls := .type "tuple", data := .seq #[.int i tk, u'] } := (sb.2 _ (Nat.ne_of_gt hel)).trans hT
    have new : ObjOk X.prog X.w (upd H s.heap.objs.size (.tup [.int (i : Nat), x])) h'' s.heap.objs.size (.tup [.int (i : Nat), x]) :=
      ⟨by show 2 ≤ sizeLine; decide, [.int i tk, u'], .cons ⟨_, rfl⟩ (.cons ru .nil), ⟨_, hT2, rfl, _, rfl⟩⟩
    have I1 : Inv X pins σ (upd H s.heap.objs.size (.tup [.int (i : Nat), x])) { s with heap := h'', toks := tk + 1 } :=
      I.turnedNew (ch := [e, it]) (fun b ob hb q => (sb.2 b (fun z => hb (by simp [z]))).trans (hk b ob (fun z => hb (by simp [z])) (fun z => hb (by simp [z])) q)) hf (Nat.le_refl _) new
    refine ⟨.ref s.heap.objs.size, _, I1, rfl, ⟨_, x, rfl, I.hok.fresh (Nat.le_refl _), rfl, fun ys hy => by rw [I.tuple_inj hy hq]; exact hx⟩, ⟨⟨⟨u', ?_⟩, hst.1.at fun o q => (sb.2 it (Ne.symm hne)).trans q, hne, hna⟩, hea⟩, fun b hb => ?_⟩
    · have e1 : ((i + 1 : Nat) : Int) = (i : Int) + 1 := by omega
      rw [e1]; exact he'
    · have hb' : b < s.heap.objs.size := by
        have e' : b = e ∨ b = it := by simpa using hb
        rcases e' with z | z
        · rw [z]; exact hel
        · rw [z]; exact hil
      rw [upd_ne (Nat.ne_of_lt hb')]
      exact (hf b hb).1
  done := by
    intro X hP hw hK hc i pins s σ H E I hf st hg
    subst hP hw hK
    obtain ⟨⟨⟨old, he⟩, hit, hne, hna⟩, hea⟩ := st
    obtain ⟨xs, hq, hx⟩ := hg
    obtain ⟨its, rv, p, hz⟩ := I.tuple hq
    obtain ⟨f0, f1, f2, f3, f4, f5⟩ := hf it (by simp)
    have hl := rv.length
    exact wpAny_pyNext_enum_endT (I.ok.hd hc) he hit p (by simp; omega) fun h' eb => ⟨rfl, I.turned (t' := s.toks) (fun b o hb q => eb b o hb q) f0 f1 f3 f4 f5⟩
  self := fun A i s Q E st h => by
    obtain ⟨⟨⟨_, he⟩, _⟩, _⟩ := st
    exact wpAny_pyIter_enum he h
def iEnumT (K : PySem.W.Frag) (ta : TA) : TI := fun σ H R => ta σ H fun vs H1 => ∃ a xs, vs = [.ref a] ∧ SqT K H1 a xs ∧ R (IteT K a) H1
theorem pi_enumT {X : Cx} {e : Expr} {ta : TA} {p pos tpos : Pos} {elts : List Expr} {kk : Nat} (hg : Gl X "enumerate") (hm : X.mg "enumerate" = none) (ha : PA X [e] ta) (hs : starEach [e] X.env = [(false, eval e X.env)] := by rfl) :
    PI X (.Tuple elts kk tpos) (.Call (.Name "enumerate" p) [e] [] pos) (iEnumT X.K ta) := by
  refine ⟨fun pins s σ H R I h => ?_⟩
  refine Call_ (ld_blt I hg hm boot_enumerate (PyProof.Rows.callWith_type1 (thn (ha.run pos pins s σ H _ I h) fun us s1 ⟨vs, H1, I1, r1, q1⟩ => ?_) hs rfl))
  obtain ⟨a, xs, ex, hq, q⟩ := q1
  subst ex
  cases r1 with
  | cons r rr =>
    cases rr
    cases r
    obtain ⟨its, rv, p', hz⟩ := I1.tuple hq
    have hal : a < s1.heap.objs.size := by obtain ⟨_, q, _⟩ := p'; exact Heap.lt_size q
    refine call_enumT p' fun h' he hit hsz hk => wpAny_pyIter_enum he ?_
    have I2 : Inv X pins σ H1 { s1 with heap := h' } := I1.kept (t' := s1.toks) hk
    refine ⟨s1.heap.objs.size + 1, [s1.heap.objs.size + 1, s1.heap.objs.size], _, _, H1, rfl, I2, turn_enumT a (s1.heap.objs.size + 1) s1.heap.objs.size, ⟨⟨⟨.none, he⟩, hit, Nat.succ_ne_self _, Nat.ne_of_lt hal⟩, ?_⟩, fun b hb => ?_, q⟩
    · intro z
      rw [← z] at hal
      exact Nat.not_succ_lt_self hal
    have e' : b = s1.heap.objs.size + 1 ∨ b = s1.heap.objs.size := by simpa using hb
    have hle : s1.heap.objs.size ≤ b := by
      rcases e' with z | z
      · rw [z]; exact Nat.le_add_right _ _
      · rw [z]; exact Nat.le_refl _
    exact I1.fpOk hle (I1.hok.fresh hle)
end R

set_option linter.all false
set_option maxRecDepth 100000
set_option maxHeartbeats 4000000
/-! tuple * int, any int. -/
namespace L2
open PySem PySem.Spec PyProof.Rows
theorem tuple_mul0 (l : Addr) (items : Array Value) (n : Nat) (dd : Option Addr) (sl : Array (Option Value)) (x : Int) (u : Tok) (c0 : (decide (x < -(2 ^ 63)) || decide (x ≥ 2 ^ 63)) = false) (c1 : (items.isEmpty || x == 1) = false) (c2 : (decide (x ≤ 0) || items.isEmpty) = true) :
    Meets (Builtin.«tuple.__mul__» ⟨[.ref l, .int x u], []⟩) (fun _ R s => s.heap.get? l = some { cls := .type "tuple", dict := dd, data := .seq items n, slots := sl } ∧
      R (.ok (.ret (Value.ref s.heap.objs.size))) { s with heap := s.heap.push { cls := Value.type "tuple", data := Data.seq #[] }, toks := s.toks }) :=
  .of_wp fun prog w A R s h => by
    obtain ⟨hp, g, d, tk, os⟩ := s
    obtain ⟨hl, h⟩ := h
    have f1 := AutoSeq1.idx_int
    wp_walk using wpAny_loadPart' hl
    repeat (first
      | (refine wpAny_ite_false (decide_eq_false (by rw [c0]; exact Bool.false_ne_true)) ?_; wp_walk using wpAny_loadPart' hl)
      | (refine wpAny_ite_false (decide_eq_false (by rw [c1]; exact Bool.false_ne_true)) ?_; wp_walk using wpAny_loadPart' hl)
      | (refine wpAny_ite_true (decide_eq_true (by rw [c2])) ?_; wp_walk using wpAny_loadPart' hl))
    exact ⟨_, rfl, h⟩
theorem tuple_mul1 (l : Addr) (items : Array Value) (n : Nat) (dd : Option Addr) (sl : Array (Option Value)) (x : Int) (u : Tok) (c0 : (decide (x < -(2 ^ 63)) || decide (x ≥ 2 ^ 63)) = false) (c1 : (items.isEmpty || x == 1) = true) :
    Meets (Builtin.«tuple.__mul__» ⟨[.ref l, .int x u], []⟩) (fun _ R s => s.heap.get? l = some { cls := .type "tuple", dict := dd, data := .seq items n, slots := sl } ∧
      R (.ok (.ret (Value.ref l))) s) :=
  .of_wp fun prog w A R s h => by
    obtain ⟨hp, g, d, tk, os⟩ := s
    obtain ⟨hl, h⟩ := h
    have f1 := AutoSeq1.idx_int
    wp_walk using wpAny_loadPart' hl
    repeat (first
      | (refine wpAny_ite_false (decide_eq_false (by rw [c0]; exact Bool.false_ne_true)) ?_; wp_walk using wpAny_loadPart' hl)
      | (refine wpAny_ite_true (decide_eq_true (by rw [c1])) ?_; wp_walk using wpAny_loadPart' hl))
    exact ⟨_, rfl, h⟩
def rMulT (K : PySem.W.Frag) : R2 := fun x y H Q => ∃ l k xs, x = .ref l ∧ y = .int k ∧ SqT K H l xs ∧ xs ≠ [] ∧ -1000 ≤ k ∧ k ≤ 1000 ∧ xs.length ≤ 1000 ∧ (k = 1 → Q (.ref l) H) ∧ (k ≠ 1 → ∀ p, H p = none → Q (.ref p) (upd H p (.tup (List.replicate k.toNat xs).flatten)))
section
variable {X : Cx}
theorem op_mulT : OpR X (binaryOp .Mult) (rMulT X.K) := by
  intro pins s σ H x y v u Q I rx ry h
  obtain ⟨l, k, xs, rfl, rfl, hT, hne, h1, h2, hz, q1, q2⟩ := h
  rcases Int.lt_or_le 1 k with hk | hk
  · exact op_repT pins s σ H (.ref l) (.int k) v u Q I rx ry ⟨l, k, xs, rfl, rfl, hT, hne, by omega, h2, hz, q2 (by omega)⟩
  cases rx
  obtain ⟨t, rfl⟩ := ry
  obtain ⟨its, r, ⟨⟨cls, dd, data, sl⟩, ho, hc, n, hd⟩, hs⟩ := I.tuple hT
  simp only at hc hd
  subst hc hd
  have hle : its.length = xs.length := r.length.symm
  have hn : its ≠ [] := fun e => hne (by
    rw [e] at hle
    exact List.eq_nil_of_length_eq_zero hle.symm)
  have hi : its.toArray.isEmpty = false := by
    cases its with
    | nil => exact absurd rfl hn
    | cons a b => rfl
  have c0 : (decide (k < -(2 ^ 63)) || decide (k ≥ 2 ^ 63)) = false := by
    rw [decide_eq_false (by omega), decide_eq_false (by omega)] <;> rfl
  by_cases k1 : k = 1
  · have c1 : (its.toArray.isEmpty || k == 1) = true := by
      rw [k1, Bool.or_eq_true]
      exact .inr rfl
    refine wpAny_binaryOp_repeat_ref (T := "tuple") (U := "int") (by decide) ⟨_, ho, rfl⟩ (fun s' => typeIs_int s' k t) noFill_tuple_mul F.fills_int_mul F.slot_int_rmul repeat_tuple F.slot_int_index.lookup
      (call_meets F.slot_int_rmul (typeIs_int s k t) F.entry_int_rmul (F.args_int_rmul_2 _ _) (int_rmul_tuple k t l its.toArray n dd sl)
        ⟨ho, rfl, ⟨_, ho, rfl⟩, call_meets F.slot_tuple_mul ⟨_, ho, rfl⟩ F.entry_tuple_mul (F.args_tuple_mul_2 _ _) (tuple_mul1 l its.toArray n dd sl k t c0 c1) ⟨ho, ?_⟩⟩)
    exact ⟨.ref l, H, I, rfl, q1 k1⟩
  · have c1 : (its.toArray.isEmpty || k == 1) = false := by
      rw [hi, Bool.false_or]
      exact beq_eq_false_iff_ne.mpr k1
    have c2 : (decide (k ≤ 0) || its.toArray.isEmpty) = true := by
      rw [decide_eq_true (by omega)]
      rfl
    refine wpAny_binaryOp_repeat_ref (T := "tuple") (U := "int") (by decide) ⟨_, ho, rfl⟩ (fun s' => typeIs_int s' k t) noFill_tuple_mul F.fills_int_mul F.slot_int_rmul repeat_tuple F.slot_int_index.lookup
      (call_meets F.slot_int_rmul (typeIs_int s k t) F.entry_int_rmul (F.args_int_rmul_2 _ _) (int_rmul_tuple k t l its.toArray n dd sl)
        ⟨ho, rfl, ⟨_, ho, rfl⟩, call_meets F.slot_tuple_mul ⟨_, ho, rfl⟩ F.entry_tuple_mul (F.args_tuple_mul_2 _ _) (tuple_mul0 l its.toArray n dd sl k t c0 c1 c2) ⟨ho, ?_⟩⟩)
    have e0 : (List.replicate k.toNat xs).flatten = [] := by
      rw [show k.toNat = 0 by omega]
      rfl
    rw [e0] at q2
    refine ⟨.ref s.heap.objs.size, _, I.laid (t' := s.toks) (o := .tup []) (fun b ob q => Heap.get?_push_of_some _ q) (Nat.le_refl _) ?_, rfl, q2 k1 _ (I.hok.fresh (Nat.le_refl _))⟩
    exact ⟨by show 0 ≤ sizeLine; exact Nat.zero_le _, [], .nil, IsTup.new _ _⟩
end
/-! ### max(xs, default=d) -/
theorem reads_ints {h : Heap} : ∀ {ns : List Int} {us : List Value}, Vals (ns.map V.int) us → ∃ as, ReadsAll h us (ns.map PyData.int) as
  | [], _, .nil => ⟨_, .nil⟩
  | n :: ns, _, .cons r t => by
    obtain ⟨u, rfl⟩ := r
    obtain ⟨as, h2⟩ := reads_ints t
    exact ⟨_, .cons (.int n u) h2⟩
theorem alike_ints (ns : List Int) : PySem.W.AlikeAll (ns.map PyData.int) := by
  refine ⟨fun x hx y hy => ?_, fun x hx => ?_⟩
  · obtain ⟨i, _, rfl⟩ := List.mem_map.mp hx
    obtain ⟨j, _, rfl⟩ := List.mem_map.mp hy
    simp [PySem.W.alike]
  · obtain ⟨i, _, rfl⟩ := List.mem_map.mp hx
    exact fun e => by cases e
theorem depth_ints : ∀ ns : List Int, PyData.depthAll (ns.map PyData.int) = 0
  | [] => by simp [PyData.depthAll]
  | n :: ns => by
    rw [List.map_cons, PyData.depthAll, depth_ints ns]
    simp [PyData.depth]
def rMaxDef (K : PySem.W.Frag) : List V → List V → Hp → VK → Prop := fun vs zs H Q => ∃ (a : Addr) (ns : List Int) (d : Int), vs = [V.ref a] ∧ zs = [.int d] ∧ SqL K H a (ns.map V.int) ∧ Q (.int (R.maxDI d ns)) H
theorem cr_maxDef {X : Cx} (hc : X.calm = true) (hu : X.A.units + 65 < cLine) : CallRK X (.builtin "max") [Str.ofString "default"] (rMaxDef X.K) := by
  intro pins s σ H vs zs us ws Q I r rz h
  obtain ⟨a, ns, d, rfl, rfl, hs, q⟩ := h
  obtain rfl := Vals.ref1 r
  obtain ⟨w1, rfl, e1⟩ := vals1 rz
  obtain ⟨t, rfl⟩ := e1
  obtain ⟨its, rv, p, hz⟩ := I.list hs
  obtain ⟨as, hr⟩ := reads_ints (h := s.heap) rv
  have hv : its.toArray.toList = its := by simp
  refine PySem.W.max_list_default (I.ok.hd hc) p.isList (by rw [hv]; exact hr) (alike_ints ns) (by rw [depth_ints]; omega) (fun e h' tk k => ?_) fun y ys i v h' tk bs e hi rd k => ?_
  · have : ns = [] := by
      cases ns with
      | nil => rfl
      | cons _ _ => cases e
    subst this
    exact ⟨.int d, H, I.kept (t' := tk) k, ⟨t, rfl⟩, q⟩
  · cases ns with
    | nil => cases e
    | cons n ns =>
      rw [List.map_cons] at e
      obtain ⟨rfl, rfl⟩ := List.cons.inj e
      rw [PySem.W.maxD_ints] at rd
      cases rd with
      | int i t2 => exact ⟨.int _, H, I.kept (t' := tk) k, ⟨t2, rfl⟩, q⟩
end L2
namespace L2
open PySem PySem.Spec PyProof.Rows
/-- {k: v}, k a tuple -/
def tDispT (tk tv : TE) : TE := fun σ H Q => ∀ p, H p = none → tk σ (upd H p (.dT [])) fun x H1 => tv σ H1 fun y H2 => H2 p = some (.dT []) ∧ ∃ (b : Addr) (k : List Key), x = .ref b ∧ H2 b = some (.tup (k.map kV)) ∧ Q (.ref p) (upd H2 p (.dT [(k, y)]))
theorem pe_dispT {X : Cx} {ek ev : Expr} {tk tv : TE} {pos : Pos} (hu : X.A.units + 1 < cLine) (hk : PE X ek tk) (hv : PE X ev tv) : PE X (.Dict [some ek] [ev] pos) (tDispT tk tv) := by
  refine ⟨fun pins s σ H Q I q => ?_⟩
  have hn := I.hok.fresh (Nat.le_refl s.heap.objs.size)
  have I1 := I.laid (a := s.heap.objs.size) (o := .dT []) (h' := s.heap.push { cls := .type "dict", data := .dict #[] }) (t' := s.toks) (fun _ _ q => Heap.get?_push_of_some _ q) (Nat.le_refl _) (dt_empty s.heap I.big)
  have hlen := pairTrees_length [some ek] [ev] X.env pos rfl rfl
  have hlen : (pairTrees [some ek] [ev] X.env pos).length = 1 := hlen
  rw [arm_eval_Dict, zip_pairTrees [some ek] [ev] X.env pos rfl rfl, dictDisplay_pairs (pairTrees [some ek] [ev] X.env pos) (fun e => by rw [e] at hlen; cases hlen) (by omega)]
  refine wpAny_bind (wpAny_standAt (wpAny_bind ?_))
  unfold subDict
  refine wpAny_bind (wpAny_alloc ?_)
  refine wpAny_bind (wpAny_holding ?_)
  rw [if_pos (by omega)]
  have hE : wpAny (model X.prog X.w) X.A (evalPairs (pairTrees [some ek] [ev] X.env pos)) (fun vs s1 => ∃ u w x y H2, vs = [(u, w)] ∧ Inv X pins σ H2 s1 ∧ RelV x u ∧ RelV y w ∧ H2 s.heap.objs.size = some (.dT []) ∧ ∃ (b : Addr) (k : List Key), x = .ref b ∧ H2 b = some (.tup (k.map kV)) ∧ Q (.ref s.heap.objs.size) (upd H2 s.heap.objs.size (.dT [(k, y)]))) X.xe
      { s with heap := s.heap.push { cls := .type "dict", data := .dict #[] } } :=
    pairTrees_cons_walk (thn (hk.run pins _ σ _ _ I1 (q _ hn)) fun u s1 ⟨x, H1, J1, rx, q1⟩ => thn (hv.run pins s1 σ H1 _ J1 q1) fun w s2 ⟨y, H2, J2, ry, q2⟩ => pairTrees_nil_walk ⟨u, w, x, y, H2, rfl, J2, rx, ry, q2⟩)
  refine wpAny_bind (wpAny_mono hE (fun vs s1 h1 => ?_) fun _ _ e => e)
  obtain ⟨u, w, x, y, H2, rfl, J, rx, ry, e, b, k, rfl, eb, q2⟩ := h1
  cases (show u = Value.ref b from rx)
  obtain ⟨z, hd, xs, rel, dd⟩ := dt_of J.hok e
  cases rel
  refine wpAny_holding (wpAny_bind ?_)
  rw [List.forIn_cons]
  refine wpAny_bind (wpAny_bind (wpAny_dictSet_heap (knd := tupleKind (mixKind X.prog X.w)) (hsz := Nat.zero_le _) (Nat.lt_of_succ_lt hu) (key_of J.hok eb) dd fun h' dd' hs => wpAny_pure ?_))
  dsimp only
  rw [List.forIn_nil]
  refine wpAny_pure (wpAny_pure (wpAny_pure (wpAny_pure ?_)))
  obtain ⟨o, es, ep, hq, h2, h3, h4, _, h5⟩ := dd'
  have rel1 : KT H2 [] [] := .nil
  refine ⟨.ref s.heap.objs.size, _, d_write (ob := .dT [(k, y)]) J (by rw [e]; exact True.intro) hs ⟨o, hq⟩ ⟨by show 1 ≤ sizeLine; decide, hd, _, (rel1.put k eb ry).keeps fun c ys ec => ?_, o, es, ep, hq, h2, h3, h4, h5⟩, rfl, q2⟩
  rw [upd_ne (ne_of ec e (fun z => nomatch z))]
  exact ec
end L2

set_option linter.all false
set_option maxRecDepth 100000
set_option maxHeartbeats 4000000
/-! None in a list of dicts, is of truths, list < list. -/
namespace L2
open PySem PySem.Spec PyProof.Rows
theorem rc_dict_none {A : Around} {s : Shared} {a : Addr} (hT : s.TypeIs (.ref a) "dict") (hu : A.units < cLine) : SeqAt.RcAt A s (.ref a) .none false := fun prog w E Q h => by
  refine SeqAt.rc_eq_decline_or (k := false) hT rfl (by decide) F.sub_NoneType_dict F.slot_dict_eq F.slot_NoneType_eq_refl (fun Q' hq => ?_)
    (fun _ hq => call_gives F.slot_NoneType_eq_refl rfl F.entry_NoneType_eq (F.args_NoneType_eq_2 _ _) (SeqAt.NoneType___eq___none_ref_0 a) hq)
    (fun _ hq => wpAny_of_eq (rfl : isSame (.ref a) .none = pure false) hq) (.inr hu) h
  refine wpAny_call_entry F.slot_dict_eq hT F.entry_dict_eq ?_ (F.args_dict_eq_2 _ _)
  show wpAny _ _ (Builtin.Dict.dictSlotArgs "__eq__" ⟨[.ref a, .none], []⟩ >>= _) _ _ s
  refine wpAny_bind ?_
  unfold Builtin.Dict.dictSlotArgs
  refine wpAny_bind (wpAny_notOrdered_dict hT ?_)
  show wpAny _ _ (pure (Value.ref a, Value.none)) _ _ s
  refine wpAny_pure ?_
  refine wpAny_bind (wpAny_isInstance (T := "NoneType") (show s.TypeIs .none "NoneType" from rfl) F.sub_NoneType_dict ?_)
  simp only [Bool.not_false, if_true]
  exact wpAny_bind (wpAny_rule (wpAny_pure ⟨_, rfl, hq⟩))
theorem eqAt_dict_none {A : Around} {s : Shared} {a : Addr} (hT : s.TypeIs (.ref a) "dict") (hu : A.units < cLine) : SeqAt.EqAt A s (.ref a) .none false := fun prog w E Q h => by
  unfold eqBool
  refine wpAny_holding ?_
  refine wpAny_ite_split (fun hab => absurd (eq_of_beq hab) nofun) (fun _ => ?_)
  exact wpAny_bind (rc_dict_none hT hu prog w E _ (wpAny_truthy_bool h))
/-- None, or a dict -/
def NonD (H : Hp) (z : V) : Prop := z = .non ∨ ∃ a, z = .ref a ∧ ((∃ kvs, Rd H a (.dK kvs)) ∨ ∃ kvs, Rd H a (.dT kvs))
theorem nonD_none {z : V} {u : Value} {H : Hp} (r : RelV z u) (f : NonD H z) : PySem.Numpy.isNone u = isNon z := by
  rcases f with rfl | ⟨a, rfl, _⟩
  · cases r; rfl
  · cases r; rfl
theorem anyD_non {H : Hp} : ∀ {xs : List V} {us : List Value}, Vals xs us → (∀ z ∈ xs, NonD H z) → us.any PySem.Numpy.isNone = xs.any isNon
  | _, _, .nil, _ => rfl
  | y :: xs, u :: us, .cons r t, f => by
    rw [List.any_cons, List.any_cons, nonD_none r (f y (List.mem_cons_self ..)), anyD_non t fun z hz => f z (List.mem_cons_of_mem _ hz)]
section
variable {X : Cx}
theorem nonD_eq {A : Around} {pins : List (Addr × Obj)} {σ : St} {H : Hp} {s : Shared} (I : Inv X pins σ H s) (hu : A.units < cLine) {z : V} {u : Value} (r : RelV z u) (f : NonD H z) : SeqAt.EqAt A s u .none (PySem.Numpy.isNone u) := by
  rcases f with rfl | ⟨a, rfl, ⟨kvs, h⟩ | ⟨kvs, h⟩⟩
  · cases r
    exact SeqAt.EqAt.same _
  · cases r
    obtain ⟨_, _, vs, _, d⟩ := dk_rd I.hok h
    exact eqAt_dict_none d.typeIs hu
  · cases r
    obtain ⟨_, _, vs, _, d⟩ := dt_rd I.hok h
    exact eqAt_dict_none (PySem.Heap.DictOfH.typeIs d) hu
theorem memD_non {A : Around} {pins : List (Addr × Obj)} {σ : St} {H : Hp} {s : Shared} (I : Inv X pins σ H s) (hu : A.units < cLine) : ∀ {xs : List V} {us : List Value}, Vals xs us → (∀ z ∈ xs, NonD H z) → ∀ u ∈ us, SeqAt.EqAt A s u .none (PySem.Numpy.isNone u)
  | _, _, .nil, _ => fun u hu' => by cases hu'
  | y :: xs, u :: us, .cons r t, f => fun u' hu' => by
    rcases List.mem_cons.mp hu' with e | hu'
    · subst e
      exact nonD_eq I hu r (f y (List.mem_cons_self ..))
    · exact memD_non I hu t (fun z hz => f z (List.mem_cons_of_mem _ hz)) u' hu'
def rNonD (K : PySem.W.Frag) (neg : Bool) : R2 := fun x y H Q => ∃ p xs, x = .non ∧ y = .ref p ∧ SqL K H p xs ∧ (∀ z ∈ xs, NonD H z) ∧ Q (.bl (if neg then !xs.any isNon else xs.any isNon)) H
theorem op_nonD (hu : X.A.units + 64 < cLine) : OpR X (compareOp .In) (rNonD X.K false) := by
  intro pins s σ H x y v u Q I rx ry h
  obtain ⟨p, xs, rfl, rfl, hq, f, q⟩ := h
  cases rx
  cases ry
  obtain ⟨its, rv, hl, _⟩ := I.list hq
  have hu1 : X.A.in1.units < cLine := by show X.A.units + 1 < cLine; omega
  refine SeqAt.in_listAt PySem.Numpy.isNone hl.isList (fun z hz => memD_non I hu1 rv f z (by simpa using hz)) ⟨.bl _, H, I, rfl, ?_⟩
  rw [show its.toArray.any PySem.Numpy.isNone = its.any PySem.Numpy.isNone by simp, anyD_non rv f]
  exact q
theorem op_nonDnot (hu : X.A.units + 64 < cLine) : OpR X (compareOp .NotIn) (rNonD X.K true) := by
  intro pins s σ H x y v u Q I rx ry h
  obtain ⟨p, xs, rfl, rfl, hq, f, q⟩ := h
  cases rx
  cases ry
  obtain ⟨its, rv, hl, _⟩ := I.list hq
  have hu1 : X.A.in1.units < cLine := by show X.A.units + 1 < cLine; omega
  refine SeqAt.notIn_listAt PySem.Numpy.isNone hl.isList (fun z hz => memD_non I hu1 rv f z (by simpa using hz)) ⟨.bl _, H, I, rfl, ?_⟩
  rw [show its.toArray.any PySem.Numpy.isNone = its.any PySem.Numpy.isNone by simp, anyD_non rv f]
  exact q
end
/-! ### lists of ints, in order -/
theorem first_ltIL : ∀ (ns ms : List Int) (k : Nat) (e r : Nat → Bool), (∀ j, j < min ns.length ms.length → e (k + j) = decide (ns.getD j 0 = ms.getD j 0) ∧ r (k + j) = decide (ns.getD j 0 < ms.getD j 0)) →
    SeqAt.firstLt e r (decide (ns.length < ms.length)) (List.range' k (min ns.length ms.length)) = R.ltIL ns ms
  | [], [], k, e, r, _ => rfl
  | _ :: _, [], k, e, r, _ => by simp [SeqAt.firstLt, R.ltIL]
  | [], _ :: _, k, e, r, _ => by simp [SeqAt.firstLt, R.ltIL]
  | a :: as, b :: bs, k, e, r, h => by
    have h0 := h 0 (by simp only [List.length_cons]; omega)
    simp only [Nat.add_zero, List.getD_cons_zero] at h0
    have m : min (a :: as).length (b :: bs).length = min as.length bs.length + 1 := by simp only [List.length_cons]; omega
    rw [m, List.range'_succ]
    by_cases c : a = b
    · rw [SeqAt.firstLt_yes (by rw [h0.1, decide_eq_true c])]
      have ih := first_ltIL as bs (k + 1) e r fun j hj => by
        have := h (j + 1) (by rw [m]; omega)
        simp only [List.getD_cons_succ] at this
        rw [show k + 1 + j = k + (j + 1) by omega]
        exact this
      rw [show (decide ((a :: as).length < (b :: bs).length)) = decide (as.length < bs.length) by simp, ih]
      show _ = if a = b then R.ltIL as bs else decide (a < b)
      rw [if_pos c]
    · rw [SeqAt.firstLt_no (by rw [h0.1, decide_eq_false c]), h0.2]
      rw [R.ltIL, if_neg c]
theorem vals_intsL : ∀ {ns : List Int} {us : List Value}, Vals (ns.map V.int) us → ∀ j (h : j < us.length), ∃ t, us[j] = .int (ns.getD j 0) t
  | [], _, .nil => fun j h => by cases h
  | n :: ns, _ :: us, .cons r t => fun j h => by
    cases j with
    | zero =>
      obtain ⟨tk, e⟩ := r
      exact ⟨tk, e⟩
    | succ j => exact vals_intsL t j (Nat.lt_of_succ_lt_succ h)
def rLtL (K : PySem.W.Frag) : R2 := fun x y H Q => ∃ p q ns ms, x = .ref p ∧ y = .ref q ∧ SqL K H p (ns.map V.int) ∧ SqL K H q (ms.map V.int) ∧ Q (.bl (R.ltIL ns ms)) H
theorem op_ltL {X : Cx} (hu : X.A.units + 64 < cLine) : OpR X (compareOp .Lt) (rLtL X.K) := by
  intro pins s σ H x y v u Q I rx ry h
  obtain ⟨p, q, ns, ms, rfl, rfl, h1, h2, fin⟩ := h
  cases rx
  cases ry
  obtain ⟨its, rv, hl, _⟩ := I.list h1
  obtain ⟨its2, rv2, hl2, _⟩ := I.list h2
  have e1 : its.length = ns.length := by rw [← rv.length, List.length_map]
  have e2 : its2.length = ms.length := by rw [← rv2.length, List.length_map]
  have key := SeqAt.RcLt.lists (A := X.A) (s := s) (e := fun j => decide (ns.getD j 0 = ms.getD j 0)) (r := fun j => decide (ns.getD j 0 < ms.getD j 0)) hl.isList hl2.isList (by omega)
    (fun j j1 j2 => by
      obtain ⟨t, e⟩ := vals_intsL rv j (by simpa using j1)
      obtain ⟨t', e'⟩ := vals_intsL rv2 j (by simpa using j2)
      simp only [List.getElem_toArray, e, e']
      exact SeqAt.EqAt.int_int _ _ _ _) (fun j j1 j2 _ => by
      obtain ⟨t, e⟩ := vals_intsL rv j (by simpa using j1)
      obtain ⟨t', e'⟩ := vals_intsL rv2 j (by simpa using j2)
      simp only [List.getElem_toArray, e, e']
      exact fun _ _ _ _ h => PyProof.Rows.lt_int h)
  have e3 := first_ltIL ns ms 0 (fun j => decide (ns.getD j 0 = ms.getD j 0)) (fun j => decide (ns.getD j 0 < ms.getD j 0)) fun j _ => ⟨by rw [Nat.zero_add], by rw [Nat.zero_add]⟩
  rw [← List.range_eq_range'] at e3
  simp only [List.size_toArray, e1, e2, e3] at key
  exact key _ _ _ _ ⟨.bl _, H, I, rfl, fin⟩
end L2

set_option linter.all false
set_option maxRecDepth 100000
set_option maxHeartbeats 4000000
/-! dict(d) where the keys are pairs of small numbers; in a tuple of data of any depth. -/
namespace PySem
section
variable {prog : Program} {w : World} {K : Type} [DecidableEq K] {knd : HeapKind prog w K} {A : Around} {E : Value → Shared → Prop} {s : Shared}
theorem rfl_call_dictH (st : knd.Stays) {o : Addr} {more : List (K × Addr × Value)} {Q : Value → Shared → Prop} (hu : knd.room A.in1.in1) (hoS : (o == sysModules) = false) (ho : s.heap.DictOfH knd o more) (hap : (more.map fun x => knd.hash x.1).Nodup) (hsz : more.length ≤ sizeLine)
    (h : ∀ h', h'.DictOfH knd s.heap.objs.size more → Heap.SameBut s.heap.objs.size (s.heap.push { cls := .type "dict", data := .dict #[] }) h' → Q (.ref s.heap.objs.size) { s with heap := h' }) :
    wpAny (model prog w) A (call (.type "dict") [.ref o]) Q E s := by
  refine callType_codes (Q₁ := fun obj s₁ => obj = .ref s.heap.objs.size ∧ s₁ = { s with heap := s.heap.push { cls := .type "dict", data := .dict #[] } }) F.kt_called_dict (F.kt_typeCall_dict_1 _) F.entry_dict_init (kt_code_dict_new _ ⟨rfl, rfl⟩) ?_
  rintro obj s₁ ⟨rfl, rfl⟩
  have hnew : (s.heap.push { cls := .type "dict", data := .dict #[] }).DictOfH knd s.heap.objs.size [] := Heap.DictOfH.new s.heap
  have kp : ∀ b q, s.heap.get? b = some q → (s.heap.push { cls := .type "dict", data := .dict #[] }).get? b = some q := fun b q e => Heap.get?_push_of_some _ e
  have ho' : (s.heap.push { cls := .type "dict", data := .dict #[] }).DictOfH knd o more := by
    obtain ⟨oo, es, ep, h1, h2, h3, h4, h5, h6⟩ := ho
    exact ⟨oo, es, ep, kp _ _ h1, h2, h3, h4, fun x hx => st.stays (fun b o _ _ e _ => kp b o e) (h5 x hx), h6⟩
  have hdo : s.heap.objs.size ≠ o := by
    obtain ⟨_, _, _, hg, _⟩ := ho
    exact fun e => absurd (Heap.lt_size hg) (by rw [e]; exact Nat.lt_irrefl _)
  have hty := keyed_apart (s := { s with heap := s.heap.push { cls := .type "dict", data := .dict #[] } }) st ho'
  refine ⟨hnew.typeIs, F.args_dict_init_2 _ _, ?_⟩
  unfold Builtin.«dict.__init__»
  refine wpAny_bind ?_
  unfold Builtin.Dict.selfAndRest
  refine wpAny_bind (wpAny_notOrdered_dict hnew.typeIs ?_)
  show wpAny _ _ (pure (s.heap.objs.size, [Value.ref o])) _ _ _
  refine wpAny_pure ?_
  show wpAny _ _ (Builtin.Dict.updateFrom "dict.__init__" s.heap.objs.size (.ref o) [] .none) _ _ _
  refine updateFrom_dictH (s := { s with heap := s.heap.push { cls := .type "dict", data := .dict #[] } }) .none hu hdo hoS hnew ho' (.inr ⟨hty, hap⟩) (by simpa using hsz) fun h' hd' _ hs' => ?_
  rw [storedAllH_nil_of_nodup more ho.nodup] at hd'
  exact ⟨rfl, h h' hd' hs'⟩
end
end PySem
namespace L2
open PySem PySem.Spec PyProof.Rows
/-- keys that are pairs of small numbers hash unlike -/
def hPr (n : Nat) : Int := reduceHash (Builtin.Tuple.tupleHashOf [hashInt ((n / 12 : Nat) : Int), hashInt ((n % 12 : Nat) : Int)])
theorem hPr_tab : ((List.range 144).map hPr).Nodup := by decide +kernel
theorem hash_sqK {P : Program} {w : World} {k : List Key} (h : R.sqK k = true) : ∃ n, n < 144 ∧ k = [.inl ((n / 12 : Nat) : Int), .inl ((n % 12 : Nat) : Int)] ∧ (tupleKind (mixKind P w)).hash k = hPr n := by
  match k, h with
  | [.inl i, .inl j], h =>
    simp only [R.sqK, Bool.and_eq_true, decide_eq_true_eq] at h
    obtain ⟨⟨⟨i0, i1⟩, j0⟩, j1⟩ := h
    have e1 : ((((i.toNat * 12 + j.toNat) / 12 : Nat) : Nat) : Int) = i := by omega
    have e2 : ((((i.toNat * 12 + j.toNat) % 12 : Nat) : Nat) : Int) = j := by omega
    refine ⟨i.toNat * 12 + j.toNat, by omega, ?_, ?_⟩
    · rw [e1, e2]
    · unfold hPr
      rw [e1, e2]
      rfl
theorem hash_nodup {P : Program} {w : World} {α : Type} : ∀ {L : List (List Key × α)}, (L.map (·.1)).Nodup → (L.map (·.1)).all R.sqK = true → (L.map fun x => (tupleKind (mixKind P w)).hash x.1).Nodup := fun {L} nd al => by
  unfold List.Nodup at nd ⊢
  rw [List.pairwise_map] at nd ⊢
  rw [List.all_eq_true] at al
  refine nd.imp_of_mem fun {x y} hx hy ne e => ne ?_
  obtain ⟨n, n1, n2, n3⟩ := hash_sqK (P := P) (w := w) (al x.1 (List.mem_map.mpr ⟨x, hx, rfl⟩))
  obtain ⟨m, m1, m2, m3⟩ := hash_sqK (P := P) (w := w) (al y.1 (List.mem_map.mpr ⟨y, hy, rfl⟩))
  rw [n3, m3] at e
  have : n = m := by
    have h1 : ((List.range 144).map hPr)[n]? = some (hPr n) := by rw [List.getElem?_map, List.getElem?_range n1]; rfl
    have h2 : ((List.range 144).map hPr)[m]? = some (hPr m) := by rw [List.getElem?_map, List.getElem?_range m1]; rfl
    exact (List.getElem?_inj (by rw [List.length_map, List.length_range]; exact n1) hPr_tab).mp (by rw [h1, h2, e])
  rw [n2, m2, this]
def rDictT : List V → Hp → VK → Prop := fun xs H Q => ∃ (a : Addr) (kvs : List (List Key × V)), xs = [.ref a] ∧ Rd H a (.dT kvs) ∧ (kvs.map (·.1)).all R.sqK = true ∧ ∀ p, H p = none → Q (.ref p) (upd H p (.dT kvs))
theorem KT.keys {H : Hp} : ∀ {kvs : List (List Key × V)} {xs : List (List Key × Addr × Value)}, KT H kvs xs → xs.map (·.1) = kvs.map (·.1)
  | _, _, .nil => rfl
  | _, _, .cons h t => by
    rw [List.map_cons, List.map_cons, KT.keys t, h.1]
theorem call_dictT {X : Cx} (hu : X.A.units + 2 < cLine) : CallR X (.type "dict") rDictT := by
  intro pins s σ H xs us Q I r q
  obtain ⟨a, kvs, ex, hd, sm, q⟩ := q
  subst ex
  obtain ⟨u, eu, rx⟩ := vals1 r
  subst eu
  cases rx
  obtain ⟨z, lo, ls, rel, dd⟩ := dt_rd I.hok hd
  have ek := rel.keys
  have nd := dd.nodup
  refine rfl_call_dictH tupleKind_stays (by show X.A.in1.in1.units < cLine; exact Nat.lt_of_le_of_lt (Nat.le_refl _) hu) lo dd (hash_nodup nd (by rw [ek]; exact sm)) (by rw [← Paired.length rel]; exact z) fun h' d' hs => ?_
  have hm : (s.heap.objs.size == sysModules) = false := beq_eq_false_iff_ne.mpr (Nat.ne_of_gt I.big)
  have hp := I.hok.fresh (Nat.le_refl s.heap.objs.size)
  obtain ⟨o, es, ep, h1, h2, h3, h4, _, h6⟩ := d'
  exact ⟨.ref s.heap.objs.size, upd H s.heap.objs.size (.dT kvs), I.laid (t' := s.toks) (fun b u e => (hs.2 b (Nat.ne_of_lt (Heap.lt_size e))).trans (Heap.get?_push_of_some _ e)) (Nat.le_refl _)
    (show ObjOk X.prog X.w _ _ _ (.dT kvs) from ⟨z, hm, ls, rel.keeps fun c ys ec => by rw [upd_ne (ne_of_none ec hp)]; exact ec, o, es, ep, h1, h2, h3, h4, h6⟩), rfl, q _ hp⟩
/-- list(d): the keys, in their order -/
def rListK : List V → Hp → VK → Prop := fun xs H Q => ∃ p kvs, xs = [.ref p] ∧ Rd H p (.dK kvs) ∧ ∀ q, H q = none → Q (.ref q) (upd H q (.lst (kvs.map fun kv => kV kv.1)))
theorem call_listK {X : Cx} (hc : X.calm = true) : CallR X (.type "list") rListK := by
  intro pins s σ H xs us Q I r h
  obtain ⟨p, kvs, rfl, hd, q⟩ := h
  obtain ⟨u, rfl, rx⟩ := vals1 r
  cases rx
  obtain ⟨z, lo, vs, rk, dd⟩ := (show ObjOk X.prog X.w H s.heap p (.dK kvs) from hd.ok I.hok)
  obtain ⟨ep, da⟩ := dd.dictAt
  have hl : kvs.length = vs.length := Paired.length rk
  refine PySem.W.kdl_call (PySem.W.kdl_dict (knd := mixKind X.prog X.w) (kvs := vs) (ep := ep) lo) (I.ok.hd hc) da (by omega) fun h' tk acc c' hk hS it => ?_
  have rv : Vals (kvs.map fun kv => kV kv.1) acc.toList := by
    refine vals_of_at ?_ fun j x w h1 h2 => ?_
    · rw [List.length_map, hl, Array.length_toList]
      exact it.1.symm
    · obtain ⟨k, y, h3, h4⟩ := it.2 j w (by rw [← Array.getElem?_toList]; exact h2)
      have h5 : (kvs.map (·.1))[j]? = some k := by
        rw [KV.keys rk, List.getElem?_map, h3]
        rfl
      rw [List.getElem?_map] at h1 h5
      cases e : kvs[j]? with
      | none => rw [e] at h5; cases h5
      | some kv =>
        rw [e] at h1 h5
        cases h1
        have h5 : some kv.1 = some k := h5
        show RelV (kV kv.1) w
        rw [Option.some.inj h5]
        exact keyIs_rel h4
  exact ⟨.ref s.heap.objs.size, upd H s.heap.objs.size (.lst (kvs.map fun kv => kV kv.1)), I.laid (t' := tk) hk (Nat.le_refl _)
    (show ObjOk X.prog X.w _ _ _ (.lst (kvs.map fun kv => kV kv.1)) from ⟨by rw [List.length_map]; exact z, acc.toList, c', rv, by rw [Array.toArray_toList]; exact hS⟩), rfl, q _ (I.hok.fresh (Nat.le_refl _))⟩
/-- x in t, x not in t: a tuple of data -/
def rInTD (K : PySem.W.Frag) (neg : Bool) : R2 := fun x y H Q => ∃ d ds, Dp K H x d ∧ Dp K H y (.tuple ds) ∧ SeqAt.shaped d = true ∧ SeqAt.shaped (.tuple ds) = true ∧ Q (.bl (if neg then !(ds.any fun z => PyData.eqv z d) else ds.any fun z => PyData.eqv z d)) H
theorem op_inTD {X : Cx} (hu : X.A.units + 65 < cLine) : OpR X (compareOp .In) (rInTD X.K false) := by
  intro pins s σ H x y v u Q I rx ry h
  obtain ⟨d, ds, hd, he, sd, se, q⟩ := h
  obtain ⟨as, r1⟩ := Dp.reads I d x v hd rx
  obtain ⟨bs, r2⟩ := Dp.reads I (.tuple ds) y u he ry
  exact SeqAt.in_tuple_reads r2 r1 (SeqAt.canLay_of_shaped se) (SeqAt.canLay_of_shaped sd) (room_in_shaped sd hu) ⟨.bl _, H, I, rfl, q⟩
theorem op_notInTD {X : Cx} (hu : X.A.units + 65 < cLine) : OpR X (compareOp .NotIn) (rInTD X.K true) := by
  intro pins s σ H x y v u Q I rx ry h
  obtain ⟨d, ds, hd, he, sd, se, q⟩ := h
  obtain ⟨as, r1⟩ := Dp.reads I d x v hd rx
  obtain ⟨bs, r2⟩ := Dp.reads I (.tuple ds) y u he ry
  exact SeqAt.notIn_tuple_reads r2 r1 (SeqAt.canLay_of_shaped se) (SeqAt.canLay_of_shaped sd) (room_in_shaped sd hu) ⟨.bl _, H, I, rfl, q⟩
end L2

set_option linter.all false
set_option maxRecDepth 100000
set_option maxHeartbeats 4000000
/-! len(set(t)), t.index(x) of a tuple of ints. -/
namespace L2
open PySem PySem.Spec PyProof.Rows
theorem dedupF : ∀ (ns acc : List Int), acc.Nodup → (ns.foldl step_dedup acc).Nodup ∧ (∀ k, k ∈ ns.foldl step_dedup acc ↔ k ∈ acc ∨ k ∈ ns) ∧ (ns.foldl step_dedup acc).length ≤ acc.length + ns.length
  | [], acc, h => ⟨h, fun k => by simp, Nat.le_refl _⟩
  | n :: ns, acc, h => by
    have e : step_dedup acc n = if acc.any (· == n) then acc else acc ++ [n] := rfl
    by_cases c : acc.any (· == n) = true
    · have c' : n ∈ acc := by simpa using c
      have e' : step_dedup acc n = acc := by rw [e, if_pos c]
      obtain ⟨q1, q2, q3⟩ := dedupF ns acc h
      rw [List.foldl_cons, e']
      refine ⟨q1, fun k => ?_, by rw [List.length_cons]; omega⟩
      rw [q2 k, List.mem_cons]
      constructor
      · rintro (z | z)
        · exact .inl z
        · exact .inr (.inr z)
      · rintro (z | z | z)
        · exact .inl z
        · exact .inl (z ▸ c')
        · exact .inr z
    · have c' : n ∉ acc := by simpa using c
      have e' : step_dedup acc n = acc ++ [n] := by rw [e, if_neg c]
      have nd : (acc ++ [n]).Nodup := List.nodup_append.mpr ⟨h, by simp, fun a m b m' => by
        rw [List.mem_singleton.mp m']
        intro z
        exact c' (z ▸ m)⟩
      obtain ⟨q1, q2, q3⟩ := dedupF ns (acc ++ [n]) nd
      rw [List.foldl_cons, e']
      refine ⟨q1, fun k => ?_, by rw [List.length_append, List.length_singleton] at q3; rw [List.length_cons]; omega⟩
      rw [q2 k, List.mem_append, List.mem_singleton, List.mem_cons]
      constructor
      · rintro ((z | z) | z)
        · exact .inl z
        · exact .inr (.inl z)
        · exact .inr (.inr z)
      · rintro (z | z | z)
        · exact .inl (.inl z)
        · exact .inl (.inr z)
        · exact .inr z
theorem nodup_len {xs ys : List Int} (h1 : xs.Nodup) (h2 : ys.Nodup) (e : ∀ k, k ∈ xs ↔ k ∈ ys) : xs.length = ys.length :=
  Nat.le_antisymm (h1.length_le_of_subset fun k m => (e k).mp m) (h2.length_le_of_subset fun k m => (e k).mpr m)
/-- len(set(t)), t a tuple of ints -/
def tLenSetT (K : PySem.W.Frag) (ta : TE) : TE := fun σ H Q => ta σ H fun x H1 => ∃ (l : Addr) (ns : List Int), x = .ref l ∧ SqT K H1 l (ns.map V.int) ∧ ns.length ≤ 4000 ∧ Q (.int ((ns.foldl step_dedup []).length : Nat)) H1
theorem pe_lenSetT {X : Cx} {a : Expr} {ta : TE} {p p2 q pos : Pos} (hc : X.calm = true) (hg : Gl X "len") (hm : X.mg "len" = none) (hg2 : Gl X "set") (hm2 : X.mg "set" = none) (ha : PE X a ta)
    (na : starEach [a] X.env = (false, eval a X.env) :: starEach [] X.env) : PE X (.Call (.Name "len" p) [.Call (.Name "set" p2) [a] [] q] [] pos) (tLenSetT X.K ta) := by
  refine ⟨fun pins s σ H Q I hw => PyProof.Rows.Call_ (ld_blt I hg hm PySem.boot_len (PyProof.Rows.callWith_builtin1 (PyProof.Rows.args_cons ?_ rfl) rfl rfl))⟩
  refine PyProof.Rows.Call_ (ld_blt I hg2 hm2 PyProof.Rows.boot_set (PyProof.Rows.callWith_type1 (PyProof.Rows.args_cons (thn (ha.run pins s σ H _ I hw) ?_) na) na rfl))
  intro v s1 w1
  obtain ⟨x, H1, J, rx, l, ns, rfl, sq, small, fin⟩ := w1
  refine PyProof.Rows.args_nil ?_
  cases rx
  obtain ⟨vs, rv, isl, _⟩ := J.tuple sq
  have sb : ns.length + 1 < scanBound := by unfold PySem.scanBound; omega
  refine call_set_tupI ns (J.ok.hd hc) isl (by simpa using rv.ints) sb ?_
  intro h' tk c S hc' keep
  obtain ⟨o, es, ep, t, ho, hex, hd, hgood, hnd, hS, hb, hf, hn, _⟩ := S
  obtain ⟨d1, d2, d3⟩ := dedupF ns [] List.nodup_nil
  have ec : c = (ns.foldl step_dedup []).length := by
    rw [← hn]
    have := nodup_len hnd d1 fun k => by
      rw [← hS k, d2 k]
      simp
    rw [← this, List.length_map, Array.length_toList]
  have J2 : Inv X pins σ H1 { s1 with heap := h', toks := tk } := J.kept keep
  exact PyProof.Rows.args_nil (PySem.call_len_set ho hex hd hf (by rw [hn] <;> omega) ⟨.int ((ns.foldl step_dedup []).length : Nat), H1, J2.tok _, ⟨_, by rw [hn, ec]⟩, fin⟩)
end L2

set_option linter.all false
set_option maxRecDepth 100000
set_option maxHeartbeats 8000000
/-! sorted(set(xs)) of a list of ints: the members, rising. -/
namespace L2
open PySem PySem.Spec PyProof.Rows
/-- a new set's object -/
abbrev sob (w : World) : Obj := { cls := .type "set", dict := none, data := .set #[] 0 (.fresh 0 0 (!w.params.followText "set-order")) }
section
variable {P : Program} {w : World} {A : Around} {E : Value → Shared → Prop} {s : Shared}
theorem set_ofList {l : Addr} {items : Array Value} (ns : List Int) {Q : Value → Shared → Prop} (hh : A.handled = none) (hl : s.heap.IsList l items) (hit : IntsAre items.toList ns) (hb : ns.length + 1 < scanBound)
    (h : ∀ (g : Heap) (tk c : Nat), SetR w g s.heap.objs.size (fun j => decide (j ∈ ns)) c → c ≤ ns.length → (∀ b o, s.heap.get? b = some o → g.get? b = some o) → Q (.ref s.heap.objs.size) { s with heap := g, toks := tk }) :
    wpAny (model P w) A (call (.type "set") [.ref l]) Q E s := by
  have isz : items.size = ns.length := by
    have z := IntsAre.length hit
    rwa [Array.length_toList] at z
  obtain ⟨mc, ml, mro⟩ := F.called_set.mro
  have m1 := F.called_set.made
  have m2 := F.called_set.sub
  apply wpAny_call
  apply codeAny_of_tree
  show wpAny _ _ (callAny (.type "set") _) _ _ _
  refine wpAny_pure ⟨Code.quiet_builtin _ (by decide +kernel), codeAny_builtin F.entry_type_call ?_⟩
  rw [Around.under_plain (weight_type_call_type "set" [.ref l] []) rfl]
  have m3 := F.called_set.notType
  have m4 := F.called_set.canCreate
  have m5 := F.typeCall_set_1 (.ref l)
  repeat (any_goals (first | assumption | wp_step))
  refine codeAny_mono (code_set_led1 (.ref l) (E := E) (Q₁ := fun y t => y = .ref s.heap.objs.size ∧ t = { s with heap := s.heap.push (sob w) }) ⟨rfl, rfl⟩) fun r t hr => ?_
  cases r with
  | error e => exact hr
  | ok fl =>
    cases fl with
    | ret y =>
      obtain ⟨rfl, rfl⟩ := hr
      have g1 : (s.heap.push (sob w)).get? s.heap.objs.size = some (sob w) := Heap.get?_push_size _ rfl
      have t1 : Shared.TypeIs { s with heap := s.heap.push (sob w) } (.ref s.heap.objs.size) "set" := ⟨_, g1, rfl⟩
      have i1 := F.called_set.init.lookup
      have i2 := F.called_set.init.bind (.ref s.heap.objs.size)
      repeat (any_goals (first | assumption | wp_step))
      refine codeAny_mono (codeAny_call_builtin (R := wants (fun r u => r = .none ∧ ∃ g tk c, u = { s with heap := g, toks := tk } ∧ SetR w g s.heap.objs.size (fun j => decide (j ∈ ns)) c ∧ c ≤ ns.length ∧
          ∀ b o, s.heap.get? b = some o → g.get? b = some o) E) F.called_set.init.plain F.entry_set_init (check_set_init_1 t1 ?_)) fun r2 u hr2 => ?_
      · obtain ⟨ol, hol, hcl, nl, hdl⟩ := hl
        obtain ⟨ocls, odict, odata, oslots⟩ := ol
        simp only at hcl hdl
        subst hcl
        subst hdl
        have g2 : (s.heap.push (sob w)).get? l = some { cls := .type "list", dict := odict, data := .seq items nl, slots := oslots } := Heap.get?_push_of_some _ hol
        have u1 := F.sub_list_set
        have u2 := F.sub_list_frozenset
        have u3 : (Value.type "list" == Value.type "dict") = false := by decide
        have l1 : (s.heap.push (sob w)).IsList l items := ⟨_, g2, rfl, nl, rfl⟩
        unfold Builtin.«set.__init__» noKeywords Builtin.Frozenset.updateFrom
        generalize hPI : pyIter = PI
        wp_walk
        subst hPI
        refine wpAny_pyIter_list l1 ?_
        refine wpAny_bind (wpAny_runValue ?_)
        have ls : l < s.heap.objs.size := Heap.lt_size hol
        have h3 : A.in1.in1.in1.handled = none := by simp [hh]
        have sz : (s.heap.push (sob w)).objs.size = s.heap.objs.size + 1 := Heap.size_push ..
        have n1 : l ≠ (s.heap.push (sob w)).objs.size := by rw [sz]; exact Nat.ne_of_lt (Nat.lt_succ_of_lt ls)
        have n2 : s.heap.objs.size ∉ [(s.heap.push (sob w)).objs.size, l] := by
          rw [sz]
          intro m
          rcases List.mem_cons.mp m with z | z
          · exact absurd z (Nat.ne_of_lt (Nat.lt_succ_self _))
          · exact absurd (List.mem_singleton.mp z) (Nat.ne_of_gt ls)
        have val : ∀ (i : Nat) (v : Value), items[i]? = some v → ∃ k t, ns[i]? = some k ∧ v = .int k t := fun i v hv => by
          have hi : i < ns.length := by rw [← isz]; exact (Array.getElem?_eq_some_iff.mp hv).1
          obtain ⟨t, e⟩ := PyProof.Rows.IntsAre.int_at hit i v (by rw [Array.getElem?_toList]; exact hv)
          refine ⟨ns[i], t, List.getElem?_eq_getElem hi, ?_⟩
          rw [e, List.getD_eq_getElem?_getD, List.getElem?_eq_getElem hi] <;> rfl
        refine set_update_ints ((Walks.list h3 _ l n1 items).toS) s.heap.objs.size n2 ns isz hb val (items.size - 0) 0 _ (by omega) (Nat.zero_le _) ⟨⟨_, Heap.get?_push_size _ rfl, rfl, rfl⟩, (l1.push _)⟩ ?S0 ?SR
        case S0 => exact ⟨0, Nat.le_refl 0, setR_new_at (Heap.get?_push_of_some _ g1)⟩
        case SR =>
          intro u c' hm hc' hS'
          obtain ⟨g, g3, d3, k3, o3⟩ := u
          have eg : g3 = s.gens := hm.gens
          have ed : d3 = s.drawn := hm.drawn
          have eo : o3 = s.os := hm.os
          subst eg
          subst ed
          subst eo
          show wpAny _ _ _ _ _ _
          refine wpAny_pure ?_
          show wpAny _ _ (ret Value.none) _ _ _
          rw [isz] at hc'
          refine wpAny_pure ⟨rfl, g, k3, c', rfl, hS', hc', fun b o e => ?_⟩
          have b0 : b < s.heap.objs.size := Heap.lt_size e
          refine hm.heap b o (fun m => ?_) (Heap.get?_push_of_some _ (Heap.get?_push_of_some _ e))
          simp only [List.mem_cons, List.not_mem_nil, or_false] at m
          rw [sz] at m
          rcases m with z | z
          · exact absurd z (Nat.ne_of_lt b0)
          · exact absurd z (Nat.ne_of_lt (Nat.lt_succ_of_lt b0))
      · cases r2 with
        | error e => exact hr2
        | ok f2 =>
          cases f2 with
          | ret y2 =>
            obtain ⟨rfl, g, tk, c, rfl, q1, q2, q3⟩ := hr2
            repeat (any_goals (first | assumption | wp_step))
            exact h g tk c q1 q2 q3
          | _ => exact hr2
    | _ => exact hr
end
/-- sorted(set(xs)) -/
def tSortSet (K : PySem.W.Frag) (ta : TE) : TE := fun σ H Q => ta σ H fun x H1 => ∃ (l : Addr) (ns : List Int), x = .ref l ∧ SqL K H1 l (ns.map V.int) ∧ ns.length ≤ 4000 ∧ (ns.foldl step_dedup []).length < 64 ∧
  ∀ (ms : List Int) (p : Addr), ms.Pairwise (· < ·) → (∀ k : Int, k ∈ ms ↔ k ∈ ns) → H1 p = none → Q (.ref p) (upd H1 p (.lst (ms.map V.int)))
theorem pe_sortSet {X : Cx} {a : Expr} {ta : TE} {p p2 q pos : Pos} (hc : X.calm = true) (hg : Gl X "sorted") (hm : X.mg "sorted" = none) (hg2 : Gl X "set") (hm2 : X.mg "set" = none) (ha : PE X a ta)
    (na : starEach [a] X.env = (false, eval a X.env) :: starEach [] X.env) : PE X (.Call (.Name "sorted" p) [.Call (.Name "set" p2) [a] [] q] [] pos) (tSortSet X.K ta) := by
  refine ⟨fun pins s σ H Q I hw => PyProof.Rows.Call_ (ld_blt I hg hm (by rfl) (PyProof.Rows.callWith_builtin1 (PyProof.Rows.args_cons ?_ rfl) rfl rfl))⟩
  refine PyProof.Rows.Call_ (ld_blt I hg2 hm2 PyProof.Rows.boot_set (PyProof.Rows.callWith_type1 (PyProof.Rows.args_cons (thn (ha.run pins s σ H _ I hw) ?_) na) na rfl))
  intro v s1 w1
  obtain ⟨x, H1, J, rx, l, ns, rfl, sq, small, few, fin⟩ := w1
  refine PyProof.Rows.args_nil ?_
  cases rx
  obtain ⟨vs, rv, isl, _⟩ := J.list sq
  refine set_ofList ns (J.ok.hd hc) isl.isList (by simpa using rv.ints) (by unfold PySem.scanBound; omega) ?_
  intro g tk c S hc' keep
  have J2 : Inv X pins σ H1 { s1 with heap := g, toks := tk } := J.kept keep
  have c64 : c < 64 := by
    obtain ⟨o, es, ep, t, ho, hex, hd, hgood, hnd, hS, hb, hf, hn, _⟩ := S
    obtain ⟨d1, d2, d3⟩ := dedupF ns [] List.nodup_nil
    have := nodup_len hnd d1 fun k => by
      rw [← hS k, d2 k]
      simp
    rw [List.length_map, Array.length_toList, hn] at this
    omega
  have S2 : SetR X.w ({ s1 with heap := g, toks := tk } : Shared).heap s1.heap.objs.size (fun j => decide (j ∈ ns)) c := S
  generalize ({ s1 with heap := g, toks := tk } : Shared) = s2 at J2 S2 ⊢
  refine PyProof.Rows.args_nil (sorted_set S2 (J2.ok.hd hc) c64 fun u r out n ms k1 k2 k3 hp hr hi hs hm hl => ?_)
  have z : (ms.map V.int).length ≤ sizeLine := by rw [List.length_map, hl, sizeLine_eq]; omega
  have fr : H1 r = none := J2.hok.fresh hp
  have J3 : Inv X pins σ (upd H1 r (.lst (ms.map V.int))) { s2 with heap := u.heap, gens := u.gens, drawn := u.drawn, toks := u.toks } :=
    J2.call (ch := []) (Un.laid k1 hp fr) (J2.hok.laid k1 hp ⟨z, out.toList, n, vals_of_ints hi, hr⟩) (by rw [k2]; exact J2.bare) (fun _ z => nomatch z)
  have e : u = { s2 with heap := u.heap, gens := u.gens, drawn := u.drawn, toks := u.toks } := by
    cases u
    cases s2
    cases k3
    rfl
  rw [e]
  exact ⟨.ref r, _, J3, rfl, fin ms r hs (fun k => by rw [hm k, decide_eq_true_eq]) fr⟩
end L2

set_option linter.all false
set_option maxRecDepth 100000
set_option maxHeartbeats 8000000
/-! sorted(xs), xs tuples of ints of any lengths, the first of them empty. -/
namespace TlS
open PySem PySem.Spec PySem.W PyProof.Rows
section
variable {prog : Program} {w : World} {A : Around} {E : Value → Shared → Prop} {s : Shared}
theorem call_lt {a b : Addr} {dd dd2 : Option Addr} {items items2 : Array Value} {n n2 : Nat} {sl sl2 : Array (Option Value)} {ns ms : List Int} {Q : Value → Shared → Prop} (ga : s.heap.get? a = some { cls := .type "tuple", dict := dd, data := .seq items n, slots := sl })
    (gb : s.heap.get? b = some { cls := .type "tuple", dict := dd2, data := .seq items2 n2, slots := sl2 }) (ia : IntsAre items.toList ns) (ib : IntsAre items2.toList ms) (h : Q (.bool (HT.lexLt ns ms)) s) : wpAny (model prog w) A (call (.builtin "tuple.__lt__") [.ref a, .ref b]) Q E s := by
  refine wpAny_call (codeAny_call_builtin PySem.F.slot_tuple_lt.plain PySem.F.entry_tuple_lt (PySem.F.slot_tuple_lt.check _ _ _ _ _ _ _ _ ⟨_, ga, rfl⟩ (PySem.F.args_tuple_lt_2 _ _) ?_))
  refine wpAny_mono (HT.tuple_lt_ints a b items items2 n n2 dd dd2 sl sl2 ns ms ia ib prog w _ (wants Q E) s ⟨ga, gb, h⟩) (fun fin s' q => ?_) fun _ _ z => z
  cases fin with
  | done f => exact q
  | again c => exact q
theorem lt_tups {v u : Value} {ns ms : List Int} {Q : Bool → Shared → Prop} (hu : A.units < cLine) (hv : TS.TupInts s.heap v ns) (hw : TS.TupInts s.heap u ms) (h : Q (HT.lexLt ns ms) s) : wpAny (model prog w) A (keyLt' oneType' v u) Q E s := by
  obtain ⟨a, xs, rfl, ⟨⟨cls, dd, data, sl⟩, ho, hc, n, hd⟩, ia⟩ := hv
  obtain ⟨b, ys, rfl, ⟨⟨cls2, dd2, data2, sl2⟩, ho2, hc2, n2, hd2⟩, ib⟩ := hw
  simp only at hc hd hc2 hd2
  subst hc hd hc2 hd2
  have tv : Looks (model prog w) s.heap (typeOf (.ref a)) (.type "tuple") := (Looks.ld ho).andThen .now
  have sp : Looks (model prog w) s.heap (specialOf (.ref a) "__lt__") (some (.builtin "tuple.__lt__")) := tv.andThen (Looks.of_pure PySem.F.slot_tuple_lt.lookup)
  rw [keyLt'_oneType, oneLt'_eq]
  simp only [if_true]
  refine wpAny_bind (wpAny_cRoomFor hu ?_)
  refine wpAny_bind (NtL.csib (E := E) sp (PySem.F.slot_tuple_lt.bind _) ?_)
  refine call_lt ho ho2 ia ib ?_
  exact wpAny_truthy_bool h
theorem first_none {M : Model} {v : Value} {ns : List Int} {Q : Option Value → Shared → Prop} (hv : TS.TupInts s.heap v ns) (h : ∀ o, (ns = [] → o = none) → Q o s) : wpAny M A (firstOfTuple' v) Q E s := by
  obtain ⟨a, xs, rfl, ⟨o, ho, hc, n, hd⟩, ia⟩ := hv
  rw [kas_first_eq]
  refine wpAny_bind (Looks.here (show Looks M s.heap (typeOf (.ref a)) o.cls from (Looks.ld ho).andThen .now) ?_)
  rw [hc, if_neg (by first | decide | simp)]
  refine wpAny_bind (listItems_at ho hd (wpAny_pure (h _ fun e => ?_)))
  subst e
  have : xs.toList = [] := by
    have := ia.length
    simpa using this
  have e : xs = #[] := by
    apply Array.ext'
    simpa using this
  rw [e]
  rfl
theorem firsts {M : Model} : ∀ {vs : List Value} {Q : List (Option Value) → Shared → Prop}, (∀ v ∈ vs, ∃ ns, TS.TupInts s.heap v ns) → (∀ os : List (Option Value), os.length = vs.length → Q os s) → wpAny M A (vs.mapM firstOfTuple') Q E s
  | [], Q, _, h => by rw [List.mapM_nil]; exact wpAny_pure (h [] rfl)
  | v :: vs, Q, hv, h => by
    rw [List.mapM_cons]
    obtain ⟨ns, x⟩ := hv v List.mem_cons_self
    refine wpAny_bind (first_none x fun o _ => wpAny_bind (firsts (fun u m => hv u (List.mem_cons_of_mem _ m)) fun os e => wpAny_pure (h _ (by rw [List.length_cons, List.length_cons, e]))))
theorem kind_tups {v0 : Value} {vs : List Value} {Q : SortKind → Shared → Prop} (h0 : TS.TupInts s.heap v0 []) (hv : ∀ v ∈ vs, ∃ ns, TS.TupInts s.heap v ns) (h : Q oneType' s) : wpAny (model prog w) A (keyKind' (v0 :: vs).toArray) Q E s := by
  rw [keyKind'_eq, List.mapM_toArray, map_eq_pure_bind, List.mapM_cons]
  refine wpAny_bind (wpAny_bind (wpAny_bind (first_none h0 fun o eo => ?_)))
  rw [eo rfl]
  refine wpAny_bind (firsts hv fun os _ => wpAny_pure (wpAny_pure ?_))
  have hall : ((none :: os).toArray.all fun x : Option Value => x.isSome) = false := by simp
  rw [hall, if_neg Bool.false_ne_true]
  have hz : ((none :: os).toArray[0]?.bind id : Option Value).isSome = false := by simp
  rw [hz, if_neg Bool.false_ne_true, oneTypeOnly'_eq, List.mapM_toArray, map_eq_pure_bind]
  have ty : ∀ v ∈ v0 :: vs, Looks (model prog w) s.heap (typeOf v) (.type "tuple") := fun v hm => by
    obtain ⟨ns, a, xs, rfl, ⟨o, ho, hc, _⟩, _⟩ : ∃ ns, TS.TupInts s.heap v ns := by
      rcases List.mem_cons.mp hm with rfl | hm
      · exact ⟨_, h0⟩
      · exact hv v hm
    rw [← hc]
    exact (Looks.ld ho).andThen .now
  refine wpAny_bind (wpAny_bind (wpAny_bind (kas_mapM (r := Value.type "tuple") _ (fun v hv Q' hq => (ty v hv).here hq) (wpAny_pure ?_))))
  have hall2 : ((List.map (fun _ => Value.type "tuple") (v0 :: vs)).toArray.all fun x => x == Value.type "tuple") = true := by
    simp only [List.all_toArray, List.all_map, List.all_eq_true]
    intro _ _
    rfl
  have h00 : (List.map (fun _ => Value.type "tuple") (v0 :: vs)).toArray[0]? = some (Value.type "tuple") := by simp
  rw [h00]
  simp only [hall2, if_true]
  exact wpAny_pure (wpAny_pure h)
theorem tups_sortable {a : Addr} {v0 : Value} {vs : List Value} {k : Value → List Int} (hu : A.units < cLine) (hp : ∀ v ∈ v0 :: vs, TS.TupInts s.heap v (k v)) (h0 : k v0 = []) (ha : ∀ o, s.heap.get? a = some o → o.cls ≠ .type "tuple") : SrtO.SortableO prog w A s a (v0 :: vs) fun v u => HT.lexLt (k v) (k u) := by
  intro h' keep
  have hp' : ∀ v ∈ v0 :: vs, TS.TupInts h' v (k v) := fun v hm => (hp v hm).keeps fun b o e c => keep b o (fun z => by subst z; exact ha o e c) e
  refine ⟨oneType', fun Q E hq => kind_tups (s := { s with heap := h' }) (by have := hp' v0 List.mem_cons_self; rw [h0] at this; exact this) (fun v m => ⟨_, hp' v (List.mem_cons_of_mem _ m)⟩) hq, ?_⟩
  intro p q hm hm'
  exact lt_tups (s := { s with heap := h' }) (Q := fun r s' => s' = { s with heap := h' } ∧ r = HT.lexLt (k p.1) (k q.1)) (E := fun _ _ => False) hu (hp' _ hm) (hp' _ hm') ⟨rfl, rfl⟩
theorem sorted_tupsO {l : Addr} {v0 : Value} {vs : List Value} {k : Value → List Int} {Q : Value → Shared → Prop} (hu : A.in1.in1.units < cLine) (hl : s.heap.IsList l (v0 :: vs).toArray) (hz : (v0 :: vs).length ≤ sizeLine) (hp : ∀ v ∈ v0 :: vs, TS.TupInts s.heap v (k v)) (h0 : k v0 = [])
    (h : ∀ (h' : Heap) (d : Addr) (out : List Value), SrtO.Srtd (fun v u => HT.lexLt (k v) (k u)) out → SrtO.Stb (fun v u => HT.lexLt (k v) (k u)) out (v0 :: vs) → (∀ b o, s.heap.get? b = some o → h'.get? b = some o) → s.heap.objs.size ≤ d → (∃ n, h'.get? d = some (seqObj "list" out.toArray n)) → Q (.ref d) { s with heap := h' }) :
    wpAny (model prog w) A (call (.builtin "sorted") [.ref l]) Q E s := by
  refine SrtO.sorted_ord (NtL.swo_lexL k) hl hz (fun h2 h₁ a ha kk => ?_) fun out hs hb => ?_
  · refine tups_sortable (s := { s with heap := h₁ }) hu (fun v hm => (hp v hm).keeps fun b o e _ => (kk b o e).2) h0 fun o e => ?_
    have e' : some o = some (seqObj "list" (v0 :: vs).toArray 0) := e.symm.trans ha
    cases e'
    intro c
    exact absurd (Value.type.inj c) (by decide)
  · exact h _ _ out hs hb (fun b o e => sortedAll_old e) (Nat.le_succ _) (sortedAll_at s.heap (v0 :: vs) out.toArray)
end
end TlS
namespace L2
open PySem PySem.Spec PyProof.Rows
abbrev ltTL (k : V → List Int) (x y : V) : Bool := HT.lexLt (k x) (k y)
/-- sorted(xs), xs a list of tuples of ints (k says which), the first empty: a new list, sorted, equal ones in their order -/
def rSortedTL (K : PySem.W.Frag) : List V → Hp → VK → Prop := fun vs H Q => ∃ (a : Addr) (x0 : V) (xs : List V) (k : V → List Int), vs = [V.ref a] ∧ SqL K H a (x0 :: xs) ∧ k x0 = [] ∧ (∀ x ∈ x0 :: xs, ∃ t, x = V.ref t ∧ SqT K H t ((k x).map V.int)) ∧
  ∀ ys p, SrtO.Srtd (ltTL k) ys → SrtO.Stb (ltTL k) ys (x0 :: xs) → H p = none → Q (.ref p) (upd H p (.lst ys))
theorem cr_sortedTL {X : Cx} (hu : X.A.units + 64 < cLine) : CallR X (.builtin "sorted") (rSortedTL X.K) := by
  intro pins s σ H vs us Q I r h
  obtain ⟨a, x0, xs, k, rfl, hs, hk0, hx, q⟩ := h
  obtain ⟨its, rv, hl, hz⟩ := I.list hs
  obtain ⟨u, rfl, ru⟩ := vals1 r
  obtain rfl : u = Value.ref a := ru
  obtain ⟨e1, e2⟩ := refs_back rv fun x m => by
    obtain ⟨t, e, _⟩ := hx x m
    exact ⟨t, e⟩
  cases its with
  | nil => cases e1
  | cons v0 vs =>
    have e0 : x0 = backV v0 := by
      rw [List.map_cons] at e1
      exact (List.cons.inj e1).1
    refine TlS.sorted_tupsO (k := fun u => k (backV u)) (by show X.A.units + 2 < cLine; omega) hl.isList (by rw [← rv.length]; exact hz) (fun v hv => ?_) (by rw [← e0]; exact hk0) fun h' d out h1 h2 kp hd hn => ?_
    · obtain ⟨t, rfl⟩ := e2 v hv
      have hm : V.ref t ∈ x0 :: xs := by rw [e1]; exact List.mem_map.mpr ⟨_, hv, rfl⟩
      obtain ⟨t', e, ht⟩ := hx _ hm
      cases e
      exact tupI_raw I ht
    · have h3 : ∀ u ∈ out, ∃ a, u = Value.ref a := fun u hu => e2 u (h2.perm.mem_iff.mp hu)
      obtain ⟨n, hn⟩ := hn
      have hb : SrtO.Stb (ltTL k) (out.map backV) (x0 :: xs) := by
        rw [e1]
        exact SrtO.Stb.map (NtL.swo_lexL k) backV h2
      refine ⟨.ref d, upd H d (.lst (out.map backV)), I.laid (t' := s.toks) kp hd ⟨?_, out, n, vals_back h3, hn⟩, rfl, q _ d (SrtO.srtd_map h1) hb (I.hok.fresh hd)⟩
      rw [hb.len]
      exact hz
/-- list(d), d a dict whose keys are tuples: the keys, in their order -/
def rListDT : List V → Hp → VK → Prop := fun xs H Q => ∃ d kvs, xs = [V.ref d] ∧ Rd H d (.dT kvs) ∧ ∀ p bs, H p = none → IsKeys H kvs bs → Q (.ref p) (upd H p (.lst (bs.map V.ref)))
end L2

set_option linter.all false
set_option maxRecDepth 100000
set_option maxHeartbeats 8000000
/-! len(set(x)) of a text, or of a list of texts. -/
namespace R
open PySem
theorem onceS_snoc (l : List Str) (k : Str) : onceS (l ++ [k]) = if k ∈ onceS l then onceS l else onceS l ++ [k] := by
  unfold onceS
  rw [List.foldl_append, List.foldl_cons, List.foldl_nil]
theorem onceF : ∀ (l acc : List Str), acc.Nodup → (l.foldl (fun acc k => if k ∈ acc then acc else acc ++ [k]) acc).Nodup ∧ ∀ q, q ∈ l.foldl (fun acc k => if k ∈ acc then acc else acc ++ [k]) acc ↔ q ∈ acc ∨ q ∈ l
  | [], acc, h => ⟨h, fun q => by simp⟩
  | k :: l, acc, h => by
    rw [List.foldl_cons]
    by_cases c : k ∈ acc
    · rw [if_pos c]
      obtain ⟨a, b⟩ := onceF l acc h
      refine ⟨a, fun q => ?_⟩
      rw [b q, List.mem_cons]
      constructor
      · rintro (z | z)
        · exact .inl z
        · exact .inr (.inr z)
      · rintro (z | z | z)
        · exact .inl z
        · exact .inl (z ▸ c)
        · exact .inr z
    · rw [if_neg c]
      obtain ⟨a, b⟩ := onceF l (acc ++ [k]) (List.nodup_append.mpr ⟨h, by simp, fun x m y m' e => by
        rw [List.mem_singleton.mp m'] at e
        exact c (e ▸ m)⟩)
      refine ⟨a, fun q => ?_⟩
      rw [b q, List.mem_append, List.mem_singleton, List.mem_cons]
      constructor
      · rintro ((z | z) | z)
        · exact .inl z
        · exact .inr (.inl z)
        · exact .inr (.inr z)
      · rintro (z | z | z)
        · exact .inl (.inl z)
        · exact .inl (.inr z)
        · exact .inr z
theorem mem_onceS {l : List Str} {q : Str} : q ∈ onceS l ↔ q ∈ l := by
  have := (onceF l [] List.nodup_nil).2 q
  simpa [onceS] using this
theorem nodup_onceS (l : List Str) : (onceS l).Nodup := (onceF l [] List.nodup_nil).1
theorem len_onceS (l : List Str) : (onceS l).length ≤ l.length := (nodup_onceS l).length_le_of_subset fun q m => mem_onceS.mp m
theorem once_nd {l : List Str} (h : l.Nodup) : (onceS l).length = l.length := Nat.le_antisymm (len_onceS l) (h.length_le_of_subset fun q m => mem_onceS.mpr m)
end R
namespace L2
open PySem PySem.Spec PyProof.Rows R
section
variable {P : Program} {w : World} {A : Around} {E : Value → Shared → Prop} {s : Shared}
theorem strIs (k : Str) (t : Tok) : (PySem.strKind P w).is k (.str k t) = true := by
  show (k == k) = true
  exact beq_self_eq_true k
theorem setK_at {h h' : Heap} {a : Addr} {S : Str → Bool} {n : Nat} (r : h.SetOf (PySem.strKind P w) a S n) (keep : ∀ o, h.get? a = some o → h'.get? a = some o) : h'.SetOf (PySem.strKind P w) a S n := by
  obtain ⟨o, es, ep, t, ho, more⟩ := r
  exact ⟨o, es, ep, t, keep o ho, more⟩
/-- the loop that puts texts into a set -/
theorem into_strs {I : Addr} {fp wr : List Addr} {G : Array GenState → Array GenState → Prop} {n : Nat} {Pv : Nat → Value → Prop} {St : Nat → Shared → Prop} {R0 : Result → Shared → Prop} (W : WalksS P w A.in1 I fp wr G n Pv St) (T : Addr) (out : T ∉ fp) (ks : List Str)
    (en : n = ks.length) (room : ks.length + 1 < scanBound) (val : ∀ i v, Pv i v → ∃ k t, ks[i]? = some k ∧ v = .str k t) :
    ∀ (m i : Nat) (s : Shared), n - i = m → i ≤ n → St i s → s.heap.SetOf (PySem.strKind P w) T (fun j => decide (j ∈ ks.take i)) (onceS (ks.take i)).length →
      (∀ u, Moved (T :: wr) G s u → u.heap.SetOf (PySem.strKind P w) T (fun j => decide (j ∈ ks)) (onceS ks).length → R0 (.ok (.ret .none)) u) →
      codeAny (model P w) A (.builtin "set.update.loop" ⟨[.ref T, .ref I], []⟩) R0 s := by
  have outw : T ∉ wr := fun h => out (W.sub _ h)
  have sub : ∀ b ∈ wr, b ∈ T :: wr := fun b hb => List.mem_cons_of_mem _ hb
  intro m
  induction m with
  | zero =>
    intro i s em hi st r fin
    obtain rfl : i = n := by omega
    refine codeAny_builtin PyProof.Rows.F.entry_set_update_loop ?_
    rw [Around.under_plainId PyProof.Rows.F.plain_set_update_loop _]
    show wpAny _ A.in1 (pyNext (.ref I) >>= _) _ _ s
    refine wpAny_bind (W.done s _ _ st fun u mv => ?_)
    show wpAny _ A.in1 (ret Value.none) _ _ u
    rw [show ks.take i = ks from List.take_of_length_le (by omega)] at r
    exact wpAny_pure (fin u (mv.mono sub) (setK_at r fun o e => mv.heap T o outw e))
  | succ m ih =>
    intro i s em hi st r fin
    have lt : i < n := by omega
    refine codeAny_builtin PyProof.Rows.F.entry_set_update_loop ?_
    rw [Around.under_plainId PyProof.Rows.F.plain_set_update_loop _]
    show wpAny _ A.in1 (pyNext (.ref I) >>= _) _ _ s
    refine wpAny_bind (W.item i s _ _ lt st fun v u pv st' mv => ?_)
    obtain ⟨z, t, ez, rfl⟩ := val i v pv
    have r' : u.heap.SetOf (PySem.strKind P w) T (fun j => decide (j ∈ ks.take i)) (onceS (ks.take i)).length := setK_at r fun o e => mv.heap T o outw e
    have few : (onceS (ks.take i)).length ≤ i := by
      have := len_onceS (ks.take i)
      rw [List.length_take] at this
      omega
    show wpAny _ A.in1 (holding [Value.str z t] (setAdd T (.str z t)) >>= _) _ _ u
    refine wpAny_bind (wpAny_holding ?_)
    unfold setAdd
    refine wpAny_holding (wpAny_bind ((PySem.strKind P w).pyHash (k := z) (strIs _ _) ?_))
    refine wpAny_setAddHashed_of (knd := PySem.strKind P w) (s := { u with toks := u.toks + 1 }) (strIs z t) rfl r' (by omega) fun g sb r2 => ?_
    have tk : ks.take (i + 1) = ks.take i ++ [z] := by rw [List.take_add_one, ez]; rfl
    have r3 : g.SetOf (PySem.strKind P w) T (fun j => decide (j ∈ ks.take (i + 1))) (onceS (ks.take (i + 1))).length := by
      refine PyProof.Rows.SetOf_congr r2 (fun j => ?_) ?_
      · rw [tk]
        simp [List.mem_append]
      · rw [tk, onceS_snoc]
        by_cases c : z ∈ ks.take i
        · rw [if_pos (decide_eq_true c), if_pos (mem_onceS.mpr c)]
        · rw [if_neg (fun e => c (of_decide_eq_true e)), if_neg (fun e => c (mem_onceS.mp e)), List.length_append]
          rfl
    refine wpAny_pure ⟨plainId_quiet PyProof.Rows.F.plain_set_update_loop _, ih (i + 1) _ (by omega) lt (W.frame _ u _ _ st' (Nat.le_succ _) fun b hb o e => ?_) r3 fun u2 mv2 r4 => ?_⟩
    · rw [sb.2 b fun h : b = T => out (h ▸ hb)]; exact e
    · refine fin u2 (Moved.trans W.gtrans ((mv.mono sub).then_heap (Nat.le_succ _) fun b o hb e => ?_) mv2) r4
      rw [sb.2 b fun h : b = T => hb (h ▸ List.mem_cons_self)]; exact e
/-- what set(..) comes to, once its items are put in -/
abbrev MadeS (P : Program) (w : World) (s : Shared) (ks : List Str) (Q : Value → Shared → Prop) : Prop :=
  ∀ (g : Heap) (tk : Nat), g.SetOf (PySem.strKind P w) s.heap.objs.size (fun j => decide (j ∈ ks)) (onceS ks).length → (∀ b o, s.heap.get? b = some o → g.get? b = some o) → Q (.ref s.heap.objs.size) { s with heap := g, toks := tk }
theorem set_call1 {v : Value} (ks : List Str) {Q : Value → Shared → Prop} (hh : A.handled = none) (fin : MadeS P w s ks Q)
    (init : ∀ (R2 : PySem.Fin → Shared → Prop) (E2 : Value → Shared → Prop), (∀ (g : Heap) (tk : Nat), g.SetOf (PySem.strKind P w) s.heap.objs.size (fun j => decide (j ∈ ks)) (onceS ks).length → (∀ b o, s.heap.get? b = some o → g.get? b = some o) → R2 (.done (.ret .none)) { s with heap := g, toks := tk }) →
      wpAny (model P w) A.in1.in1 (Builtin.«set.__init__» ⟨[.ref s.heap.objs.size, v], []⟩) R2 E2 { s with heap := s.heap.push (sob w) }) :
    wpAny (model P w) A (call (.type "set") [v]) Q E s := by
  obtain ⟨mc, ml, mro⟩ := F.called_set.mro
  have m1 := F.called_set.made
  have m2 := F.called_set.sub
  apply wpAny_call
  apply codeAny_of_tree
  show wpAny _ _ (callAny (.type "set") _) _ _ _
  refine wpAny_pure ⟨Code.quiet_builtin _ (by decide +kernel), codeAny_builtin F.entry_type_call ?_⟩
  rw [Around.under_plain (weight_type_call_type "set" [v] []) rfl]
  have m3 := F.called_set.notType
  have m4 := F.called_set.canCreate
  have m5 := F.typeCall_set_1 v
  repeat (any_goals (first | assumption | wp_step))
  refine codeAny_mono (code_set_led1 v (E := E) (Q₁ := fun y t => y = .ref s.heap.objs.size ∧ t = { s with heap := s.heap.push (sob w) }) ⟨rfl, rfl⟩) fun r t hr => ?_
  cases r with
  | error e => exact hr
  | ok fl =>
    cases fl with
    | ret y =>
      obtain ⟨rfl, rfl⟩ := hr
      have g1 : (s.heap.push (sob w)).get? s.heap.objs.size = some (sob w) := Heap.get?_push_size _ rfl
      have t1 : Shared.TypeIs { s with heap := s.heap.push (sob w) } (.ref s.heap.objs.size) "set" := ⟨_, g1, rfl⟩
      have i1 := F.called_set.init.lookup
      have i2 := F.called_set.init.bind (.ref s.heap.objs.size)
      repeat (any_goals (first | assumption | wp_step))
      refine codeAny_mono (codeAny_call_builtin (R := wants (fun r u => r = .none ∧ ∃ g tk, u = { s with heap := g, toks := tk } ∧ g.SetOf (PySem.strKind P w) s.heap.objs.size (fun j => decide (j ∈ ks)) (onceS ks).length ∧
          ∀ b o, s.heap.get? b = some o → g.get? b = some o) E) F.called_set.init.plain F.entry_set_init (check_set_init_1 t1 ?_)) fun r2 u hr2 => ?_
      · exact init _ _ fun g tk q1 q2 => ⟨rfl, g, tk, rfl, q1, q2⟩
      · cases r2 with
        | error e => exact hr2
        | ok f2 =>
          cases f2 with
          | ret y2 =>
            obtain ⟨rfl, g, tk, rfl, q1, q2⟩ := hr2
            repeat (any_goals (first | assumption | wp_step))
            exact fin g tk q1 q2
          | _ => exact hr2
    | _ => exact hr
/-- set(x) of a text -/
theorem set_ofText {x : Str} {t : Tok} {Q : Value → Shared → Prop} (hh : A.handled = none) (room : x.cps.size + 1 < scanBound) (fin : MadeS P w s (signL x) Q) : wpAny (model P w) A (call (.type "set") [.str x t]) Q E s := by
  refine set_call1 (signL x) hh fin fun R2 E2 end2 => ?_
  have g1 : (s.heap.push (sob w)).get? s.heap.objs.size = some (sob w) := Heap.get?_push_size _ rfl
  have u1 := F.sub_str_set
  have u2 := F.sub_str_frozenset
  have u3 : (Value.type "str" == Value.type "dict") = false := by decide
  have len : (signL x).length = x.cps.size := by unfold signL; rw [List.length_map, Array.length_toList]
  unfold Builtin.«set.__init__» noKeywords Builtin.Frozenset.updateFrom
  generalize hPI : pyIter = PI
  wp_walk
  subst hPI
  refine wpAny_pyIter_str fun o St walks st0 => ?_
  refine wpAny_bind (wpAny_runValue ?_)
  have h3 : A.in1.in1.in1.in1.handled = none := by simp [hh]
  have sz : (s.heap.push (sob w)).objs.size = s.heap.objs.size + 1 := Heap.size_push ..
  have n2 : s.heap.objs.size ∉ [(s.heap.push (sob w)).objs.size] := by
    rw [sz]
    intro m
    exact absurd (List.mem_singleton.mp m) (Nat.ne_of_lt (Nat.lt_succ_self _))
  have val : ∀ (i : Nat) (v : Value), SignAt x i v → ∃ k t, (signL x)[i]? = some k ∧ v = .str k t := fun i v ⟨c, u, hc, hv⟩ => ⟨_, u, by
    unfold signL
    rw [List.getElem?_map, Array.getElem?_toList, hc]
    rfl, hv⟩
  refine into_strs ((walks _ ?h4).toS) s.heap.objs.size n2 (signL x) len.symm (by rw [len]; exact room) val (x.cps.size - 0) 0 _ (by omega) (Nat.zero_le _) st0 ?r0 ?rn
  case h4 => simp [hh]
  case r0 => exact PyProof.Rows.SetOf_congr ((PyProof.Rows.setObjOf_fresh (knd := PySem.strKind P w) _).setOf (Heap.get?_push_of_some _ g1) (by unfold scanBound; omega)) (fun _ => by simp) rfl
  case rn =>
    intro u mv r
    obtain ⟨g, g3, d3, k3, o3⟩ := u
    have eg : g3 = s.gens := mv.gens
    have ed : d3 = s.drawn := mv.drawn
    have eo : o3 = s.os := mv.os
    subst eg
    subst ed
    subst eo
    show wpAny _ _ _ _ _ _
    refine wpAny_pure ?_
    show wpAny _ _ (ret Value.none) _ _ _
    refine wpAny_pure (end2 g k3 r fun b o e => ?_)
    have b0 : b < s.heap.objs.size := Heap.lt_size e
    refine mv.heap b o (fun m => ?_) (Heap.get?_push_of_some _ (Heap.get?_push_of_some _ e))
    simp only [List.mem_cons, List.not_mem_nil, or_false] at m
    rw [sz] at m
    rcases m with z | z
    · exact absurd z (Nat.ne_of_lt b0)
    · exact absurd z (Nat.ne_of_lt (Nat.lt_succ_of_lt b0))
/-- set(xs) of a list of texts -/
theorem set_ofTexts {l : Addr} {items : Array Value} (ks : List Str) {Q : Value → Shared → Prop} (hh : A.handled = none) (hl : s.heap.IsList l items) (hit : ∀ (i : Nat) (v : Value), items[i]? = some v → ∃ k t, ks[i]? = some k ∧ v = .str k t) (isz : items.size = ks.length)
    (room : ks.length + 1 < scanBound) (fin : MadeS P w s ks Q) : wpAny (model P w) A (call (.type "set") [.ref l]) Q E s := by
  refine set_call1 ks hh fin fun R2 E2 end2 => ?_
  have g1 : (s.heap.push (sob w)).get? s.heap.objs.size = some (sob w) := Heap.get?_push_size _ rfl
  obtain ⟨ol, hol, hcl, nl, hdl⟩ := hl
  obtain ⟨ocls, odict, odata, oslots⟩ := ol
  simp only at hcl hdl
  subst hcl
  subst hdl
  have g2 : (s.heap.push (sob w)).get? l = some { cls := .type "list", dict := odict, data := .seq items nl, slots := oslots } := Heap.get?_push_of_some _ hol
  have u1 := F.sub_list_set
  have u2 := F.sub_list_frozenset
  have u3 : (Value.type "list" == Value.type "dict") = false := by decide
  have l1 : (s.heap.push (sob w)).IsList l items := ⟨_, g2, rfl, nl, rfl⟩
  unfold Builtin.«set.__init__» noKeywords Builtin.Frozenset.updateFrom
  generalize hPI : pyIter = PI
  wp_walk
  subst hPI
  refine wpAny_pyIter_list l1 ?_
  refine wpAny_bind (wpAny_runValue ?_)
  have ls : l < s.heap.objs.size := Heap.lt_size hol
  have h3 : A.in1.in1.in1.handled = none := by simp [hh]
  have sz : (s.heap.push (sob w)).objs.size = s.heap.objs.size + 1 := Heap.size_push ..
  have n1 : l ≠ (s.heap.push (sob w)).objs.size := by rw [sz]; exact Nat.ne_of_lt (Nat.lt_succ_of_lt ls)
  have n2 : s.heap.objs.size ∉ [(s.heap.push (sob w)).objs.size, l] := by
    rw [sz]
    intro m
    rcases List.mem_cons.mp m with z | z
    · exact absurd z (Nat.ne_of_lt (Nat.lt_succ_self _))
    · exact absurd (List.mem_singleton.mp z) (Nat.ne_of_gt ls)
  refine into_strs ((Walks.list h3 _ l n1 items).toS) s.heap.objs.size n2 ks isz room hit (items.size - 0) 0 _ (by omega) (Nat.zero_le _) ⟨⟨_, Heap.get?_push_size _ rfl, rfl, rfl⟩, (l1.push _)⟩ ?r0 ?rn
  case r0 => exact PyProof.Rows.SetOf_congr ((PyProof.Rows.setObjOf_fresh (knd := PySem.strKind P w) _).setOf (Heap.get?_push_of_some _ g1) (by unfold scanBound; omega)) (fun _ => by simp) rfl
  case rn =>
    intro u mv r
    obtain ⟨g, g3, d3, k3, o3⟩ := u
    have eg : g3 = s.gens := mv.gens
    have ed : d3 = s.drawn := mv.drawn
    have eo : o3 = s.os := mv.os
    subst eg
    subst ed
    subst eo
    show wpAny _ _ _ _ _ _
    refine wpAny_pure ?_
    show wpAny _ _ (ret Value.none) _ _ _
    refine wpAny_pure (end2 g k3 r fun b o e => ?_)
    have b0 : b < s.heap.objs.size := Heap.lt_size e
    refine mv.heap b o (fun m => ?_) (Heap.get?_push_of_some _ (Heap.get?_push_of_some _ e))
    simp only [List.mem_cons, List.not_mem_nil, or_false] at m
    rw [sz] at m
    rcases m with z | z
    · exact absurd z (Nat.ne_of_lt b0)
    · exact absurd z (Nat.ne_of_lt (Nat.lt_succ_of_lt b0))
end
/-- len(set(x)), x a text or a list of texts -/
def tLenSetS (K : PySem.W.Frag) (ta : TE) : TE := fun σ H Q => ta σ H fun x H1 => ∃ ks : List Str, ((∃ y : Str, x = .str y ∧ ks = signL y) ∨ ∃ l, x = .ref l ∧ SqL K H1 l (ks.map V.str)) ∧ ks.length ≤ 4000 ∧ Q (.int ((onceS ks).length : Nat)) H1
theorem strs_at2 : ∀ {ks : List Str} {us : List Value}, Vals (ks.map V.str) us → ∀ (i : Nat) (v : Value), us[i]? = some v → ∃ k t, ks[i]? = some k ∧ v = .str k t
  | [], _, .nil, i, v, h => by simp at h
  | k :: ks, _, .cons r t, 0, v, h => by
    obtain ⟨u, hu⟩ := r
    simp only [List.getElem?_cons_zero, Option.some.injEq] at h
    exact ⟨k, u, rfl, by rw [← h, hu]⟩
  | k :: ks, _, .cons r t, i + 1, v, h => by
    rw [List.getElem?_cons_succ] at h ⊢
    exact strs_at2 t i v h
theorem pe_lenSetS {X : Cx} {a : Expr} {ta : TE} {p p2 q pos : Pos} (hc : X.calm = true) (hg : Gl X "len") (hm : X.mg "len" = none) (hg2 : Gl X "set") (hm2 : X.mg "set" = none) (ha : PE X a ta)
    (na : starEach [a] X.env = (false, eval a X.env) :: starEach [] X.env) : PE X (.Call (.Name "len" p) [.Call (.Name "set" p2) [a] [] q] [] pos) (tLenSetS X.K ta) := by
  refine ⟨fun pins s σ H Q I hw => PyProof.Rows.Call_ (ld_blt I hg hm PySem.boot_len (PyProof.Rows.callWith_builtin1 (PyProof.Rows.args_cons ?_ rfl) rfl rfl))⟩
  refine PyProof.Rows.Call_ (ld_blt I hg2 hm2 PyProof.Rows.boot_set (PyProof.Rows.callWith_type1 (PyProof.Rows.args_cons (thn (ha.run pins s σ H _ I hw) ?_) na) na rfl))
  intro v s1 w1
  obtain ⟨x, H1, J, rx, ks, src, small, fin⟩ := w1
  refine PyProof.Rows.args_nil ?_
  have room : ks.length + 1 < scanBound := by unfold PySem.scanBound; omega
  have made : MadeS X.prog X.w s1 ks (fun r s2 => wpAny (model X.prog X.w) X.A (spliced (backTo pos (starEach [] X.env))) (fun vs s3 => wpAny (model X.prog X.w) X.A (call (.builtin "len") (r :: vs)) (EP X pins σ Q) X.xe s3) X.xe s2) := by
    intro g tk S keep
    obtain ⟨o, es, ep, t, ho, hex, hd, hel, hS, hb, hf, hn⟩ := S
    have J2 : Inv X pins σ H1 { s1 with heap := g, toks := tk } := J.kept keep
    have le := len_onceS ks
    exact PyProof.Rows.args_nil (PySem.call_len_set ho hex hd hf (by rw [hn] <;> omega) ⟨.int ((onceS ks).length : Nat), H1, J2.tok _, ⟨_, by rw [hn]⟩, fin⟩)
  rcases src with ⟨y, rfl, rfl⟩ | ⟨l, rfl, sq⟩
  · obtain ⟨t, rfl⟩ := rx
    refine set_ofText (J.ok.hd hc) ?_ made
    unfold signL at room
    rw [List.length_map, Array.length_toList] at room
    exact room
  · cases rx
    obtain ⟨vs, rv, isl, _⟩ := J.list sq
    refine set_ofTexts ks (J.ok.hd hc) isl.isList (fun i v e => strs_at2 rv i v (by simpa using e)) ?_ room made
    have := rv.length
    rw [List.length_map] at this
    simpa using this.symm
end L2

set_option linter.all false
set_option maxRecDepth 100000
set_option maxHeartbeats 8000000
/-! len(set(xs)) of a list of pairs of small numbers, no two alike, up to 76. -/
namespace L2
open PySem PySem.Spec PyProof.Rows R
/-- pairs below 12 hash unlike -/
theorem th_pair {P : Program} {w : World} {i j : Int} (hi : 0 ≤ i ∧ i < 12) (hj : 0 ≤ j ∧ j < 12) : ∃ n, n < 144 ∧ i = ((n / 12 : Nat) : Int) ∧ j = ((n % 12 : Nat) : Int) ∧ thash P w [i, j] = hPr n := by
  have e1 : (((i.toNat * 12 + j.toNat) / 12 : Nat) : Int) = i := by omega
  have e2 : (((i.toNat * 12 + j.toNat) % 12 : Nat) : Int) = j := by omega
  refine ⟨i.toNat * 12 + j.toNat, by omega, e1.symm, e2.symm, ?_⟩
  unfold hPr
  rw [e1, e2]
  rfl
theorem th_inj {P : Program} {w : World} {i j a b : Int} (hi : 0 ≤ i ∧ i < 12) (hj : 0 ≤ j ∧ j < 12) (ha : 0 ≤ a ∧ a < 12) (hb : 0 ≤ b ∧ b < 12) (e : thash P w [i, j] = thash P w [a, b]) : i = a ∧ j = b := by
  obtain ⟨n, n1, n2, n3, n4⟩ := th_pair (P := P) (w := w) hi hj
  obtain ⟨m, m1, m2, m3, m4⟩ := th_pair (P := P) (w := w) ha hb
  have h1 : ((List.range 144).map hPr)[n]? = some (hPr n) := by rw [List.getElem?_map, List.getElem?_range n1]; rfl
  have h2 : ((List.range 144).map hPr)[m]? = some (hPr m) := by rw [List.getElem?_map, List.getElem?_range m1]; rfl
  have : n = m := (List.getElem?_inj (by rw [List.length_map, List.length_range]; exact n1) hPr_tab).mp (by rw [h1, h2, ← n4, ← m4, e])
  subst this
  exact ⟨n2.trans m2.symm, n3.trans m3.symm⟩
abbrev AL : Type := List (Addr × List Int)
abbrev hsOf (P : Program) (w : World) (L : AL) : List Int := L.map fun q => thash P w q.2
/-- a set of tuples whose hashes are unlike -/
structure TupSt (P : Program) (w : World) (g : Heap) (a : Addr) (L : AL) (es : Array (Int × Value)) (ep : Nat) (t : SetTable) : Prop where
  at_ : ∃ ob, g.get? a = some ob ∧ ob.ExactSet ∧ ob.data = .set es ep t
  items : es.toList = rowsOf P w L
  table : TabOk t (hsOf P w L)
  unlike : (hsOf P w L).Nodup
  each : ∀ q ∈ L, IsT P w g q.2 q.1
  simple : t.plain = true
  known : w.params.followText "set-order" = true ∨ t.led = true
  space : L.length * 5 < t.mask * 3
section
variable {P : Program} {w : World} {A : Around} {E : Value → Shared → Prop} {s : Shared} {a : Addr} {L : AL} {es : Array (Int × Value)} {ep : Nat} {t : SetTable}
theorem TupSt.many {g : Heap} (R : TupSt P w g a L es ep t) : es.size = L.length := by
  rw [← Array.length_toList, (R).items]
  unfold rowsOf
  rw [List.length_map]
theorem TupSt.place {g : Heap} (R : TupSt P w g a L es ep t) : t.place.size = L.length := by
  rw [R.table.sz, List.length_map]
theorem TupSt.fit {g : Heap} (R : TupSt P w g a L es ep t) : t.fits es.size = true := by
  have p1 := R.place
  have p2 := R.many
  have p3 := R.space
  have p4 := R.table.dm
  unfold SetTable.fits SetTable.fill
  rw [p4, Bool.and_eq_true, beq_iff_eq, decide_eq_true_eq]
  refine ⟨by omega, ?_⟩
  show t.place.size + 0 ≤ t.mask
  omega
theorem TupSt.odd {g : Heap} (R : TupSt P w g a L es ep t) : ¬ t.gaveWay = true := by
  have := mask_odd R.table.mok
  unfold SetTable.gaveWay
  rw [this]
  decide
/-- where a tuple of a new hash goes -/
theorem ps_search {x : Addr} {k : List Int} {Q : SetFound → Shared → Prop} (R : TupSt P w s.heap a L es ep t) (new : thash P w k ∉ hsOf P w L)
    (fin : ∀ K, way t.mask (thash P w k) K ∉ t.place.toList → (∀ c, c < K → way t.mask (thash P w k) c ∈ t.place.toList) → Q (.free (way t.mask (thash P w k) K) false) s) :
    wpAny (model P w) A (setSearch a (.ref x) (thash P w k) true) Q E s := by
  obtain ⟨ob, g1, g2, g3⟩ := R.at_
  have sp := R.space
  obtain ⟨K, small, empty, full⟩ := R.table.first (by rw [List.length_map]; omega) (thash P w k)
  have look : t.probe (fun i => (es[i]?.map (·.1)).getD 0) (thash P w k) ((none : Option SetTable.Probe).getD (t.probeStart (thash P w k))) = some (.empty (way t.mask (thash P w k) K) none) := by
    rcases go_spec t R.table.ris R.table.dm (fun i => (es[i]?.map (·.1)).getD 0) (thash P w k) (10 * SetTable.turns t.mask) K (runAt t.mask (SetTable.bits (thash P w k) % (t.mask + 1)) (SetTable.bits (thash P w k))) rfl small full empty with ⟨q, i, _, hi, hh, _⟩ | ⟨_, done⟩
    · exfalso
      have il : i < L.length := by
        have := (List.getElem?_eq_some_iff.mp hi).1
        rw [Array.length_toList, R.place] at this
        exact this
      have ei : es[i]? = some (thash P w (L[i]).2, .ref (L[i]).1) := by
        rw [← Array.getElem?_toList, (R).items]
        unfold rowsOf
        rw [List.getElem?_map, List.getElem?_eq_getElem il]
        rfl
      rw [ei] at hh
      exact new (List.mem_map.mpr ⟨L[i], List.getElem_mem il, hh⟩)
    · exact done
  show wpAny (model P w) A (setSearchFrom a (.ref x) (thash P w k) true 100000 none) Q E s
  rw [show (100000 : Nat) = Nat.succ 99999 from rfl]
  rw [setSearchFrom_succ]
  apply wpAny_bind
  refine wpAny_setState_of g1 g3 R.fit ?_
  dsimp only
  refine wp_if_neg R.odd ?_
  try refine wpAny_bind (wpAny_pure ?_)
  rw [look]
  dsimp only
  exact wpAny_pure (fin K empty full)
/-- a tuple of a new hash is put in -/
theorem ps_add {x : Addr} {k : List Int} {Q : Bool → Shared → Prop} (R : TupSt P w s.heap a L es ep t) (hx : IsT P w s.heap k x) (new : thash P w k ∉ hsOf P w L) (few : L.length < 76)
    (fin : ∀ g L', Heap.SameBut a s.heap g → (∃ es ep t, TupSt P w g a L' es ep t) → L'.Perm ((x, k) :: L) → Q true { s with heap := g }) : wpAny (model P w) A (setAddHashed a (.ref x) (thash P w k)) Q E s := by
  obtain ⟨ob, g1, g2, g3⟩ := R.at_
  have mn := R.many
  have sp := R.space
  unfold setAddHashed
  refine wpAny_holding ?_
  rw [show (100000 : Nat) = Nat.succ 99999 from rfl]
  rw [setAddHashedIn_succ]
  apply wpAny_bind
  refine wpAny_setState_of g1 g3 R.fit ?_
  dsimp only
  refine wp_if_neg (by simp [Value.scannable, byScan]) ?_
  try refine wpAny_bind (wpAny_pure ?_)
  refine wpAny_bind (ps_search R new fun K empty full => ?_)
  dsimp only
  apply wpAny_bind
  refine wpAny_setState_of g1 g3 R.fit ?_
  dsimp only
  obtain ⟨u1, u2, u3, u4, u5, u6, _, _, u9⟩ := R.table.put empty full
  have pl1 : (t.put (way t.mask (thash P w k) K)).1.plain = true := u6.trans R.simple
  generalize hz : t.put (way t.mask (thash P w k) K) = z at u1 u3 u4 u5 u6 u9 pl1 ⊢
  obtain ⟨t1, p⟩ := z
  dsimp only at u1 u3 u4 u5 u6 u9 pl1 ⊢
  subst u1
  first
    | (apply wpAny_bind; refine wp_if_pos pl1 ?_; refine hashBy_tup hx ?_)
    | refine wp_if_pos pl1 (wpAny_bind (hashBy_tup hx ?_))
  simp only [if_true]
  generalize hb : SetTable.below t.place (way t.mask (thash P w k) K) = p at u2 u3 ⊢
  have rows1 : (SetTable.insertAt es p (thash P w k, Value.ref x)).toList = rowsOf P w (L.take p ++ (x, k) :: L.drop p) := by
    rw [SetTable.toList_insertAt, (R).items, rows_put]
  have perm1 := put_perm L p (x, k)
  have len1 : (L.take p ++ (x, k) :: L.drop p).length = L.length + 1 := perm1.length_eq
  have hs1 : hsOf P w (L.take p ++ (x, k) :: L.drop p) = (hsOf P w L).take p ++ thash P w k :: (hsOf P w L).drop p := by
    unfold hsOf
    rw [List.map_append, List.map_take, List.map_cons, List.map_drop]
  rw [← hs1] at u3
  have un1 : (hsOf P w (L.take p ++ (x, k) :: L.drop p)).Nodup := (perm1.map fun q : Addr × List Int => thash P w q.2).nodup_iff.mpr (List.nodup_cons.mpr ⟨new, R.unlike⟩)
  have sz1 : (SetTable.insertAt es p (thash P w k, Value.ref x)).size = L.length + 1 := by
    rw [← Array.length_toList, rows1]
    unfold rowsOf
    rw [List.length_map, len1]
  generalize SetTable.insertAt es p (thash P w k, Value.ref x) = es1 at rows1 sz1 ⊢
  generalize L.take p ++ (x, k) :: L.drop p = L1 at perm1 len1 u3 un1 rows1
  refine wpAny_bind (wpAny_storeSet_of g1 g3 ?_ (by rw [sz1, sizeLine_eq]; omega))
  have sb : Heap.SameBut a s.heap (s.heap.update a (Obj.putSet es1 t1)) := Heap.SameBut.update ..
  have new1 := store_at (es' := es1) (t' := t1) g1 g3
  generalize s.heap.update a (Obj.putSet es1 t1) = g at sb new1 ⊢
  have each1 : ∀ q ∈ L1, IsT P w g q.2 q.1 := fun q hq => by
    rcases List.mem_cons.mp (perm1.mem_iff.mp hq) with e | m
    · subst e
      exact isT_same hx g1 g3 sb
    · exact isT_same (R.each q m) g1 g3 sb
  have known1 : w.params.followText "set-order" = true ∨ t1.led = true := by
    rw [u5]
    exact R.known
  have fl : t1.fill = L.length + 1 := by rw [u9, List.length_map]
  by_cases more : t1.tooFull = true
  · first
      | (apply wpAny_bind; refine wp_if_pos (by simp [more]) ?_)
      | (refine wp_if_pos (by simp [more]) ?_; apply wpAny_bind)
    have full1 : (L.length + 1) * 5 ≥ t1.mask * 3 := by
      have := more
      unfold SetTable.tooFull at this
      rw [fl, decide_eq_true_eq] at this
      exact this
    rw [u4] at full1
    have two : (t.mask = 7 ∧ L.length = 4) ∨ (t.mask = 31 ∧ L.length = 18) := by
      rcases R.table.mok with m | m | m <;> rw [m] at full1 sp <;> omega
    have nd1 : (L1.map (·.2)).Nodup := by
      have : hsOf P w L1 = (L1.map (·.2)).map (thash P w) := by
        rw [List.map_map]
        rfl
      rw [this] at un1
      exact nodup_of_map un1
    have psz : t1.place.size = es1.size := by rw [u3.sz, List.length_map, len1, sz1]
    have go : ∀ M, SetTable.sizeAbove (SetTable.grown (L.length + 1)) - 1 = M → MaskOk M → SetTable.sizeAbove (SetTable.grown (L.length + 1)) ≤ 128 → (L.length + 1) * 5 < M * 3 →
        wpAny (model P w) A (setRelay a (SetTable.grown (L.length + 1))) (fun _ u => wpAny (model P w) A (pure true) Q E u) E { s with heap := g } := fun M m1 m2 m3 m4 => by
      refine relay_at (s := { s with heap := g }) new1 ⟨g2.1, g2.2.1, g2.2.2⟩ rfl rows1 psz u3.dm ?_ nd1 each1 pl1 known1 (by rw [len1]; omega) m1 m2 m3 (by rw [len1]; exact m4) fun g' L2 es2 ep2 t2 sb2 R2 perm2 => ?_
      · rw [sz1, u4]
        omega
      · refine wpAny_pure (fin g' L2 (sb.trans sb2) ⟨es2, ep2, t2, R2.ob, R2.rows, R2.tab, ?_, R2.tup, R2.plain, R2.led, R2.room⟩ (perm2.trans perm1))
        exact (perm2.map fun q : Addr × List Int => thash P w q.2).nodup_iff.mpr un1
    rw [mn]
    rcases two with ⟨_, e⟩ | ⟨_, e⟩
    · exact go 31 (by rw [e, size_20]) (.inr (.inl rfl)) (by rw [e, size_20]; decide) (by omega)
    · exact go 127 (by rw [e, size_76]) (.inr (.inr rfl)) (by rw [e, size_76]; decide) (by omega)
  · first
      | refine wp_if_neg (by simp [more]) ?_
      | (apply wpAny_bind; refine wp_if_neg (by simp [more]) ?_; refine wpAny_pure ?_)
    refine wpAny_pure (fin g L1 sb ⟨es1, ep + 1, t1, ⟨_, new1, ⟨g2.1, g2.2.1, g2.2.2⟩, rfl⟩, rows1, u3, un1, each1, pl1, known1, ?_⟩ perm1)
    have := more
    unfold SetTable.tooFull at this
    rw [fl, decide_eq_true_eq] at this
    rw [len1]
    omega
theorem TupSt.move {g g' : Heap} (R : TupSt P w g a L es ep t) (ka : ∀ ob, g.get? a = some ob → g'.get? a = some ob) (kt : ∀ q ∈ L, IsT P w g' q.2 q.1) : TupSt P w g' a L es ep t := by
  obtain ⟨ob, g1, g2⟩ := R.at_
  exact ⟨⟨ob, ka ob g1, g2⟩, (R).items, R.table, R.unlike, kt, R.simple, R.known, R.space⟩
/-- a set, new and empty -/
theorem ps_new {g : Heap} (h : g.get? a = some (sob w)) : ∃ es ep t, TupSt P w g a [] es ep t := by
  refine ⟨#[], 0, .fresh 0 0 (!w.params.followText "set-order"), ⟨sob w, h, ⟨rfl, rfl, rfl⟩, rfl⟩, rfl, ⟨.nil, rfl, rfl, .inl rfl, fun _ z => (by cases z), fun i _ _ z => (by simp at z)⟩, .nil, fun _ z => (by cases z), rfl, ?_, by show 0 * 5 < 7 * 3; decide⟩
  cases e : w.params.followText "set-order" with
  | true => exact .inl rfl
  | false => exact .inr rfl
/-- the loop that puts tuples into a set -/
theorem into_tups {I : Addr} {fp wr : List Addr} {G : Array GenState → Array GenState → Prop} {n : Nat} {Pv : Nat → Value → Prop} {St : Nat → Shared → Prop} {R0 : Result → Shared → Prop} (W : WalksS P w A.in1 I fp wr G n Pv St) (T : Addr) (out : T ∉ fp) (ks : AL)
    (en : n = ks.length) (few : ks.length ≤ 76) (un : (hsOf P w ks).Nodup) (val : ∀ i v, Pv i v → ∃ q, ks[i]? = some q ∧ v = .ref q.1) (g0 : Heap) (tups : ∀ q ∈ ks, IsT P w g0 q.2 q.1) (no0 : g0.get? T = none) (nw : ∀ b ∈ wr, g0.get? b = none) (hu : A.in1.units < cLine) :
    ∀ (m i : Nat) (s : Shared), n - i = m → i ≤ n → St i s → (∀ b o, g0.get? b = some o → s.heap.get? b = some o) → (∃ L es ep t, TupSt P w s.heap T L es ep t ∧ L.Perm (ks.take i)) →
      (∀ u, Moved (T :: wr) G s u → (∃ L es ep t, TupSt P w u.heap T L es ep t ∧ L.Perm ks) → (∀ b o, g0.get? b = some o → u.heap.get? b = some o) → R0 (.ok (.ret .none)) u) →
      codeAny (model P w) A (.builtin "set.update.loop" ⟨[.ref T, .ref I], []⟩) R0 s := by
  have outw : T ∉ wr := fun h => out (W.sub _ h)
  have sub : ∀ b ∈ wr, b ∈ T :: wr := fun b hb => List.mem_cons_of_mem _ hb
  have keep : ∀ {u v : Shared}, Moved wr G u v → (∀ b o, g0.get? b = some o → u.heap.get? b = some o) → ∀ b o, g0.get? b = some o → v.heap.get? b = some o := fun mv k b o e =>
    mv.heap b o (fun hb => by rw [nw b hb] at e; cases e) (k b o e)
  have stay : ∀ {g : Heap} {L : AL}, (∀ b o, g0.get? b = some o → g.get? b = some o) → (∀ q ∈ L, q ∈ ks) → ∀ q ∈ L, IsT P w g q.2 q.1 := fun k h q hq => isT_keep (tups q (h q hq)) k
  intro m
  induction m with
  | zero =>
    rintro i s em hi st kp ⟨L, es, ep, t, R, pm⟩ fin
    obtain rfl : i = n := by omega
    have pm : L.Perm ks := by rwa [List.take_of_length_le (by omega)] at pm
    refine codeAny_builtin PyProof.Rows.F.entry_set_update_loop ?_
    rw [Around.under_plainId PyProof.Rows.F.plain_set_update_loop _]
    show wpAny _ A.in1 (pyNext (.ref I) >>= _) _ _ s
    refine wpAny_bind (W.done s _ _ st fun u mv => ?_)
    show wpAny _ A.in1 (ret Value.none) _ _ u
    have kp' := keep mv kp
    exact wpAny_pure (fin u (mv.mono sub) ⟨L, es, ep, t, R.move (fun o e => mv.heap T o outw e) (stay kp' fun q hq => pm.mem_iff.mp hq), pm⟩ kp')
  | succ m ih =>
    rintro i s em hi st kp ⟨L, es, ep, t, R, pm⟩ fin
    have lt : i < n := by omega
    refine codeAny_builtin PyProof.Rows.F.entry_set_update_loop ?_
    rw [Around.under_plainId PyProof.Rows.F.plain_set_update_loop _]
    show wpAny _ A.in1 (pyNext (.ref I) >>= _) _ _ s
    refine wpAny_bind (W.item i s _ _ lt st fun v u pv st' mv => ?_)
    obtain ⟨q, eq, rfl⟩ := val i v pv
    have kp' := keep mv kp
    have inL : ∀ r ∈ L, r ∈ ks := fun r hr => List.mem_of_mem_take (pm.mem_iff.mp hr)
    have R' : TupSt P w u.heap T L es ep t := R.move (fun o e => mv.heap T o outw e) (stay kp' inL)
    have hx : IsT P w u.heap q.2 q.1 := isT_keep (tups q (List.mem_of_getElem? eq)) kp'
    have tk : ks.take (i + 1) = ks.take i ++ [q] := by rw [List.take_add_one, eq]; rfl
    have ll : L.length = i := by rw [pm.length_eq, List.length_take]; omega
    have new : thash P w q.2 ∉ hsOf P w L := fun z => by
      have z : thash P w q.2 ∈ hsOf P w (ks.take i) := (pm.map fun r : Addr × List Int => thash P w r.2).mem_iff.mp z
      have un' : (hsOf P w (ks.take (i + 1))).Nodup := by
        unfold hsOf
        rw [List.map_take]
        exact un.sublist (List.take_sublist _ _)
      rw [tk] at un'
      unfold hsOf at un'
      rw [List.map_append, List.nodup_append] at un'
      exact un'.2.2 _ z _ (List.mem_singleton.mpr rfl) rfl
    show wpAny _ A.in1 (holding [Value.ref q.1] (setAdd T (.ref q.1)) >>= _) _ _ u
    refine wpAny_bind (wpAny_holding ?_)
    unfold setAdd
    refine wpAny_holding (wpAny_bind (wpAny_pyHash_tuple hu hx ?_))
    refine ps_add (s := { u with toks := u.toks + (q.2.length + 1) }) R' hx new (by omega) fun g L' sb R2 pm2 => ?_
    have kp2 : ∀ b o, g0.get? b = some o → g.get? b = some o := fun b o e => (sb.2 b fun z => by rw [z, no0] at e; cases e).trans (kp' b o e)
    obtain ⟨es2, ep2, t2, R2⟩ := R2
    have pm3 : L'.Perm (ks.take (i + 1)) := by
      rw [tk]
      exact pm2.trans ((List.Perm.cons q pm).trans (List.perm_append_singleton q (ks.take i)).symm)
    refine wpAny_pure ⟨plainId_quiet PyProof.Rows.F.plain_set_update_loop _, ih (i + 1) _ (by omega) lt (W.frame _ u _ _ st' (Nat.le_add_right _ _) fun b hb o e => ?_) kp2 ⟨L', es2, ep2, t2, R2, pm3⟩ fun u2 mv2 r4 k4 => ?_⟩
    · rw [sb.2 b fun h : b = T => out (h ▸ hb)]; exact e
    · refine fin u2 (Moved.trans W.gtrans ((mv.mono sub).then_heap (Nat.le_add_right _ _) fun b o hb e => ?_) mv2) r4 k4
      rw [sb.2 b fun h : b = T => hb (h ▸ List.mem_cons_self)]; exact e
/-- set(v), once its items are put in; M: what is true of the heap then -/
theorem set_callM {v : Value} (M : Heap → Prop) {Q : Value → Shared → Prop} (hh : A.handled = none) (fin : ∀ (g : Heap) (tk : Nat), M g → (∀ b o, s.heap.get? b = some o → g.get? b = some o) → Q (.ref s.heap.objs.size) { s with heap := g, toks := tk })
    (init : ∀ (R2 : PySem.Fin → Shared → Prop) (E2 : Value → Shared → Prop), (∀ (g : Heap) (tk : Nat), M g → (∀ b o, s.heap.get? b = some o → g.get? b = some o) → R2 (.done (.ret .none)) { s with heap := g, toks := tk }) →
      wpAny (model P w) A.in1.in1 (Builtin.«set.__init__» ⟨[.ref s.heap.objs.size, v], []⟩) R2 E2 { s with heap := s.heap.push (sob w) }) :
    wpAny (model P w) A (call (.type "set") [v]) Q E s := by
  obtain ⟨mc, ml, mro⟩ := F.called_set.mro
  have m1 := F.called_set.made
  have m2 := F.called_set.sub
  apply wpAny_call
  apply codeAny_of_tree
  show wpAny _ _ (callAny (.type "set") _) _ _ _
  refine wpAny_pure ⟨Code.quiet_builtin _ (by decide +kernel), codeAny_builtin F.entry_type_call ?_⟩
  rw [Around.under_plain (weight_type_call_type "set" [v] []) rfl]
  have m3 := F.called_set.notType
  have m4 := F.called_set.canCreate
  have m5 := F.typeCall_set_1 v
  repeat (any_goals (first | assumption | wp_step))
  refine codeAny_mono (code_set_led1 v (E := E) (Q₁ := fun y t => y = .ref s.heap.objs.size ∧ t = { s with heap := s.heap.push (sob w) }) ⟨rfl, rfl⟩) fun r t hr => ?_
  cases r with
  | error e => exact hr
  | ok fl =>
    cases fl with
    | ret y =>
      obtain ⟨rfl, rfl⟩ := hr
      have g1 : (s.heap.push (sob w)).get? s.heap.objs.size = some (sob w) := Heap.get?_push_size _ rfl
      have t1 : Shared.TypeIs { s with heap := s.heap.push (sob w) } (.ref s.heap.objs.size) "set" := ⟨_, g1, rfl⟩
      have i1 := F.called_set.init.lookup
      have i2 := F.called_set.init.bind (.ref s.heap.objs.size)
      repeat (any_goals (first | assumption | wp_step))
      refine codeAny_mono (codeAny_call_builtin (R := wants (fun r u => r = .none ∧ ∃ g tk, u = { s with heap := g, toks := tk } ∧ M g ∧ ∀ b o, s.heap.get? b = some o → g.get? b = some o) E) F.called_set.init.plain F.entry_set_init (check_set_init_1 t1 ?_)) fun r2 u hr2 => ?_
      · exact init _ _ fun g tk q1 q2 => ⟨rfl, g, tk, rfl, q1, q2⟩
      · cases r2 with
        | error e => exact hr2
        | ok f2 =>
          cases f2 with
          | ret y2 =>
            obtain ⟨rfl, g, tk, rfl, q1, q2⟩ := hr2
            repeat (any_goals (first | assumption | wp_step))
            exact fin g tk q1 q2
          | _ => exact hr2
    | _ => exact hr
/-- set(xs) of a list of tuples of unlike hashes -/
theorem set_ofTups {l : Addr} {items : Array Value} (ks : AL) {Q : Value → Shared → Prop} (hh : A.handled = none) (hl : s.heap.IsList l items) (hit : ∀ (i : Nat) (v : Value), items[i]? = some v → ∃ q, ks[i]? = some q ∧ v = .ref q.1) (isz : items.size = ks.length)
    (few : ks.length ≤ 76) (un : (hsOf P w ks).Nodup) (tups : ∀ q ∈ ks, IsT P w s.heap q.2 q.1) (hu : A.units + 3 < cLine)
    (fin : ∀ (g : Heap) (tk : Nat), (∃ L es ep t, TupSt P w g s.heap.objs.size L es ep t ∧ L.Perm ks) → (∀ b o, s.heap.get? b = some o → g.get? b = some o) → Q (.ref s.heap.objs.size) { s with heap := g, toks := tk }) : wpAny (model P w) A (call (.type "set") [.ref l]) Q E s := by
  refine set_callM (fun g => ∃ L es ep t, TupSt P w g s.heap.objs.size L es ep t ∧ L.Perm ks) hh fin fun R2 E2 end2 => ?_
  have g1 : (s.heap.push (sob w)).get? s.heap.objs.size = some (sob w) := Heap.get?_push_size _ rfl
  obtain ⟨ol, hol, hcl, nl, hdl⟩ := hl
  obtain ⟨ocls, odict, odata, oslots⟩ := ol
  simp only at hcl hdl
  subst hcl
  subst hdl
  have g2 : (s.heap.push (sob w)).get? l = some { cls := .type "list", dict := odict, data := .seq items nl, slots := oslots } := Heap.get?_push_of_some _ hol
  have u1 := F.sub_list_set
  have u2 := F.sub_list_frozenset
  have u3 : (Value.type "list" == Value.type "dict") = false := by decide
  have l1 : (s.heap.push (sob w)).IsList l items := ⟨_, g2, rfl, nl, rfl⟩
  unfold Builtin.«set.__init__» noKeywords Builtin.Frozenset.updateFrom
  generalize hPI : pyIter = PI
  wp_walk
  subst hPI
  refine wpAny_pyIter_list l1 ?_
  refine wpAny_bind (wpAny_runValue ?_)
  have ls : l < s.heap.objs.size := Heap.lt_size hol
  have h3 : A.in1.in1.in1.handled = none := by simp [hh]
  have sz : (s.heap.push (sob w)).objs.size = s.heap.objs.size + 1 := Heap.size_push ..
  have n1 : l ≠ (s.heap.push (sob w)).objs.size := by rw [sz]; exact Nat.ne_of_lt (Nat.lt_succ_of_lt ls)
  have n2 : s.heap.objs.size ∉ [(s.heap.push (sob w)).objs.size, l] := by
    rw [sz]
    intro m
    rcases List.mem_cons.mp m with z | z
    · exact absurd z (Nat.ne_of_lt (Nat.lt_succ_self _))
    · exact absurd (List.mem_singleton.mp z) (Nat.ne_of_gt ls)
  have fresh : ∀ b, s.heap.objs.size ≤ b → s.heap.get? b = none := fun b hb => by
    cases e : s.heap.get? b with
    | none => rfl
    | some o => exact absurd (Heap.lt_size e) (Nat.not_lt_of_le hb)
  refine into_tups ((Walks.list h3 _ l n1 items).toS) s.heap.objs.size n2 ks isz few un hit s.heap tups (fresh _ (Nat.le_refl _)) (fun b hb => fresh b (by rw [List.mem_singleton.mp hb, sz]; exact Nat.le_succ _)) hu (items.size - 0) 0 _ (by omega) (Nat.zero_le _) ⟨⟨_, Heap.get?_push_size _ rfl, rfl, rfl⟩, (l1.push _)⟩
    (fun b o e => Heap.get?_push_of_some _ (Heap.get?_push_of_some _ e)) ?r0 ?rn
  case r0 =>
    obtain ⟨es, ep, t, R⟩ := ps_new (P := P) (Heap.get?_push_of_some _ g1)
    exact ⟨[], es, ep, t, R, .nil⟩
  case rn =>
    intro u mv r k
    obtain ⟨g, g3, d3, k3, o3⟩ := u
    have eg : g3 = s.gens := mv.gens
    have ed : d3 = s.drawn := mv.drawn
    have eo : o3 = s.os := mv.os
    subst eg
    subst ed
    subst eo
    show wpAny _ _ _ _ _ _
    refine wpAny_pure ?_
    show wpAny _ _ (ret Value.none) _ _ _
    exact wpAny_pure (end2 g k3 r k)
end
/-- len(set(xs)), xs a list of pairs of small numbers, no two alike -/
def tLenSetU (K : PySem.W.Frag) (ta : TE) : TE := fun σ H Q => ta σ H fun x H1 => ∃ (l : Addr) (ks : AL), x = .ref l ∧ SqL K H1 l (ks.map fun q => V.ref q.1) ∧ (∀ q ∈ ks, SqT K H1 q.1 (q.2.map V.int)) ∧ (∀ q ∈ ks, ∃ i j : Int, q.2 = [i, j] ∧ (0 ≤ i ∧ i < 12) ∧ 0 ≤ j ∧ j < 12) ∧ (ks.map (·.2)).Nodup ∧ ks.length ≤ 76 ∧ Q (.int (ks.length : Nat)) H1
theorem pe_lenSetU {X : Cx} {a : Expr} {ta : TE} {p p2 q pos : Pos} (hc : X.calm = true) (hu : X.A.units + 64 < cLine) (hg : Gl X "len") (hm : X.mg "len" = none) (hg2 : Gl X "set") (hm2 : X.mg "set" = none) (ha : PE X a ta)
    (na : starEach [a] X.env = (false, eval a X.env) :: starEach [] X.env) : PE X (.Call (.Name "len" p) [.Call (.Name "set" p2) [a] [] q] [] pos) (tLenSetU X.K ta) := by
  refine ⟨fun pins s σ H Q I hw => PyProof.Rows.Call_ (ld_blt I hg hm PySem.boot_len (PyProof.Rows.callWith_builtin1 (PyProof.Rows.args_cons ?_ rfl) rfl rfl))⟩
  refine PyProof.Rows.Call_ (ld_blt I hg2 hm2 PyProof.Rows.boot_set (PyProof.Rows.callWith_type1 (PyProof.Rows.args_cons (thn (ha.run pins s σ H _ I hw) ?_) na) na rfl))
  intro v s1 w1
  obtain ⟨x, H1, J, rx, l, ks, rfl, sq, tups, small, nd, few, fin⟩ := w1
  refine PyProof.Rows.args_nil ?_
  cases rx
  obtain ⟨vs, rv, isl, _⟩ := J.list sq
  have un : (hsOf X.prog X.w ks).Nodup := by
    unfold hsOf
    unfold List.Nodup at nd ⊢
    rw [List.pairwise_map] at nd ⊢
    refine nd.imp_of_mem fun {x y} hx hy ne e => ne ?_
    obtain ⟨i, j, e1, r1, r2⟩ := small x hx
    obtain ⟨i', j', e2, r3, r4⟩ := small y hy
    rw [e1, e2] at e
    obtain ⟨h1, h2⟩ := th_inj r1 r2 r3 r4 e
    rw [e1, e2, h1, h2]
  have refs := refs_of_vals rv
  refine set_ofTups ks (J.ok.hd hc) isl.isList (fun i v e => ?_) ?_ few un (fun r hr => J.isT (tups r hr)) (by omega) fun g tk R keep => ?_
  · have e : vs[i]? = some v := by simpa using e
    rw [refs, List.getElem?_map] at e
    cases h : ks[i]? with
    | none => rw [h] at e; cases e
    | some r =>
      rw [h] at e
      exact ⟨r, rfl, (Option.some.inj e).symm⟩
  · rw [List.size_toArray, refs, List.length_map]
  · obtain ⟨L, es, ep, t, R, pm⟩ := R
    have f := R.fit
    have m := R.many
    obtain ⟨o, ho, hex, hd⟩ := R.at_
    have J2 : Inv X pins σ H1 { s1 with heap := g, toks := tk } := J.kept keep
    rw [pm.length_eq] at m
    exact PyProof.Rows.args_nil (PySem.call_len_set ho hex hd f (by rw [m]; omega) ⟨.int (ks.length : Nat), H1, J2.tok _, ⟨_, by rw [m]⟩, fin⟩)
end L2

set_option linter.all false
/-! The readings of the terms, and that they are met by what the terms compute: expressions. -/
namespace R
open PySem L2

def vOf : D → V
  | .int i => .int i
  | .str x => .str x
  | .bl b => .bl b
  | _ => .non
/-! ### readings by values -/
section
variable (K : PySem.W.Frag)
def rAddS : R2 := fun x y H Q => ∃ i j, x = .str i ∧ y = .str j ∧ i.length + j.length ≤ sizeLine ∧ Q (.str (i ++ j)) H
/-- a divisor that is not too large -/
def CDivB (i j : Int) : Prop := j ≠ 0 ∧ j.natAbs < 1152921504606846976
def rBin : BOp → R2
  | .add => fun x y H Q => rI0 (fun i j => .int (i + j)) x y H Q ∨ (rAddS x y H Q ∨ (rCat x y H Q ∨ rCatA K x y H Q))
  | .sub => rI0 fun i j => .int (i - j)
  | .mul => fun x y H Q => rI CMul (fun i j => .int (i * j)) x y H Q ∨ (rRep x y H Q ∨ rMulT K x y H Q)
  | .fdiv => rI CDivB fun i j => .int (i.fdiv j)
  | .mod => rI (fun _ j => j ≠ 0) fun i j => .int (i.fmod j)
  | .pow => rI CPow fun i j => .int (i ^ j.toNat)
def rSign (neg : Bool) : R2 := fun x y H Q => ∃ (c : Nat) (z : Str), x = .str ⟨#[c]⟩ ∧ y = .str z ∧ Q (.bl (if neg then !decide (c ∈ z.cps.toList) else decide (c ∈ z.cps.toList))) H
def rCmp : COp → R2
  | .eq => rEqD K
  | .ne => rNeD K
  | .lt => fun x y H Q => rI0 (fun i j => .bl (decide (i < j))) x y H Q ∨ rLtL K x y H Q
  | .le => rI0 fun i j => .bl (decide (i ≤ j))
  | .gt => rI0 fun i j => .bl (decide (j < i))
  | .ge => rI0 fun i j => .bl (decide (j ≤ i))
  | .is => fun x y H Q => (y = .non ∧ Q (.bl (decide (x = .non))) H) ∨ rIsB x y H Q
  | .isnt => fun x y H Q => (y = .non ∧ Q (.bl (!decide (x = .non))) H) ∨ rNotB x y H Q
  | .isin => fun x y H Q => rInD K x y H Q ∨ (rIn K false x y H Q ∨ (rSign false x y H Q ∨ (rNonD K false x y H Q ∨ rInTD K false x y H Q)))
  | .notin => fun x y H Q => rNotInD K x y H Q ∨ (rIn K true x y H Q ∨ (rSign true x y H Q ∨ (rNonD K true x y H Q ∨ rInTD K true x y H Q)))
def rdCmp (op : COp) (ta tb : TE) : TE := match op with
  | .isin => fun σ H Q => tOp (rCmp K .isin) ta tb σ H Q ∨ tDIn ta tb σ H Q
  | .notin => fun σ H Q => tOp (rCmp K .notin) ta tb σ H Q ∨ tDNotIn ta tb σ H Q
  | op => tOp (rCmp K op) ta tb
def rSl : V → Option Int → Option Int → Hp → VK → Prop := fun x lo hi H Q => rSlL K x lo hi H Q ∨ (rSlA K x lo hi H Q ∨ rSlS x lo hi H Q)
def tTru (te : TE) : TT := fun σ H Q => te σ H fun x H' => ∃ k, TruV K x H' k ∧ Q k H'
def rList : List V → Hp → VK → Prop := fun xs H Q => (∃ p ys, xs = [.ref p] ∧ (SqL K H p ys ∨ SqT K H p ys) ∧ ∀ l, H l = none → Q (.ref l) (upd H l (.lst ys))) ∨ (rListK xs H Q ∨ rListDT xs H Q)
def rLen : List V → Hp → VK → Prop := fun xs H Q => ∃ x n, xs = [x] ∧ LenV K x H n ∧ Q (.int n) H
def rInt : List V → Hp → VK → Prop := fun xs H Q => ((∃ i, xs = [.int i] ∧ Q (.int i) H) ∨ ∃ k, xs = [.bl k] ∧ Q (.int (if k then 1 else 0)) H) ∨ ∃ a n, xs = [.str a] ∧ PySem.intText? a = some n ∧ a.length ≤ 640 ∧ Q (.int n) H
def rStr : List V → Hp → VK → Prop := fun xs H Q => ∃ i, xs = [.int i] ∧ i.natAbs.log2 < 1920 ∧ Q (.str (toString i)) H
def rMx2 : List V → Hp → VK → Prop := fun xs H Q => ∃ i j, xs = [.int i, .int j] ∧ Q (.int (if j > i then j else i)) H
def rMn2 : List V → Hp → VK → Prop := fun xs H Q => ∃ i j, xs = [.int i, .int j] ∧ Q (.int (if j < i then j else i)) H
def rMax1 : List V → Hp → VK → Prop := fun xs H Q => rMx2 xs H Q ∨ rMax K xs H Q
def rMin1 : List V → Hp → VK → Prop := fun xs H Q => rMn2 xs H Q ∨ rMin K xs H Q
/-- len(set(xs)) of ints -/
def tLenSet (ta : TE) : TE := fun σ H Q => ta σ H fun x H1 => ∃ (l : Addr) (ns : List Int), x = .ref l ∧ SqL K H1 l (ns.map V.int) ∧ ns.length ≤ 4000 ∧ Q (.int ((dedup ns).length : Nat)) H1
def tyNm : BI → String
  | .isBool => "bool" | .isInt => "int" | .isStr => "str" | .isList => "list" | .isTuple => "tuple" | _ => ""
end
def tNev : TE := fun _ _ _ => False
/-- o.x of an instance of one of these classes; stored -/
def tFldC (K : PySem.W.Frag) (cs : List Str) (te : TE) (x : Str) : TE := fun σ H Q => te σ H fun v H1 => ∃ (a dx : Addr) (c : Str) (fs : List (Str × V)) (u : V), c ∈ cs ∧ v = .ref a ∧ H1 a = some (.ins (cA K c) dx fs) ∧ fs.lookup x = some u ∧ Q u H1
def sFldC (K : PySem.W.Frag) (cs : List Str) (te tv : TE) (x : Str) : TS := fun D σ H => tv σ H fun y H1 => te σ H1 fun v H2 => ∃ (a dx : Addr) (c : Str) (fs : List (Str × V)), c ∈ cs ∧ v = .ref a ∧ H2 a = some (.ins (cA K c) dx fs) ∧ fs.length < 1000 ∧ D.nx σ (upd H2 a (.ins (cA K c) dx (putF x y fs)))
/-- isinstance(e, C), isinstance(e, (C, ..)) of an exception that was caught -/
def rIsX (K : PySem.W.Frag) (rz cs : List Str) : List V → Hp → VK → Prop := fun xs H Q => ∃ (a : Addr) (c : Str) (y : V) (b : Bool) (cls : Value) (dd : Option Addr), xs = [.ref a, y] ∧ (∃ d, cs = [d] ∧ y = cVV K d) ∧ ExAs K H c cls dd ∧ H a = some (ExHD cls dd a) ∧ excC c ∈ rz ∧ excAny (excC c) cs = some b ∧ Q (.bl b) H
def rIsXT (K : PySem.W.Frag) (rz cs : List Str) : List V → Hp → VK → Prop := fun xs H Q => ∃ (a T : Addr) (c : Str) (b : Bool) (cls : Value) (dd : Option Addr), xs = [.ref a, .ref T] ∧ H T = some (.tup (cs.map (cVV K))) ∧ ExAs K H c cls dd ∧ H a = some (ExHD cls dd a) ∧ excC c ∈ rz ∧ excAny (excC c) cs = some b ∧ Q (.bl b) H
/-- the field of an exception -/
def tExAt (K : PySem.W.Frag) (rz : List Str) (te : TE) : TE := fun σ H Q => te σ H fun v H1 => ∃ (a : Addr) (c : Str) (cls : Value) (d : Option Addr) (n : Nat), v = .ref a ∧ ExAs K H1 c cls d ∧ H1 a = some (ExHD cls d a) ∧ excP c = some n ∧ excC c ∈ rz ∧ Q (.int n) H1
def tCls (K : PySem.W.Frag) : List Str → TA
  | [] => tNil
  | d :: ds => tCons (tC (cVV K d)) (tCls K ds)
theorem tCls_by {K : PySem.W.Frag} : ∀ {cs : List Str} {σ : L2.St} {H : Hp} {Q : List V → Hp → Prop}, Q (cs.map (cVV K)) H → tCls K cs σ H Q
  | [], _, _, _, h => h
  | d :: ds, σ, H, Q, h => by
    show tCls K ds σ H fun xs H' => Q (cVV K d :: xs) H'
    exact tCls_by h
def tIsX (K : PySem.W.Frag) : Bool → List Str → List Str → TE → TE
  | false, rz, [d], t => tCB (rIsX K rz [d]) (tCons t (tCons (tC (cVV K d)) tNil))
  | true, rz, cs, t => tCB (rIsXT K rz cs) (tCons t (tCons (tTup (tCls K cs)) tNil))
  | false, _, _, _ => fun _ _ _ => False
/-- an f-string's parts -/
def fParts : List (Option Str) → List TE → List TE
  | [], _ => []
  | some s :: ps, ts => tC (.str s) :: fParts ps ts
  | none :: ps, t :: ts => tFmt t :: fParts ps ts
  | none :: _, [] => [tNev]
section
variable (K : PySem.W.Frag) (sp : Nat → Sp)
def rdBi : BI → List TE → TA → TE
  | .len, [_], ta => tCB (rLen K) ta
  | .tuple, [t], _ => tThen t (kTup K)
  | .list, [_], ta => tCB (rList K) ta
  | .int, [_], ta => tCB rInt ta
  | .str, [_], ta => tCB rStr ta
  | .all, [_], ta => tCB (rAll K) ta
  | .max, [_], ta => tCB (rMax1 K) ta
  | .max, [_, _], ta => tCB (rMax1 K) ta
  | .min, [_], ta => tCB (rMin1 K) ta
  | .min, [_, _], ta => tCB (rMin1 K) ta
  | .sum, [_], ta => tCB (rSum K) ta
  | .isBool, [t], _ => tCB (rIsi K) (tCons t (tCons (tC (.ty "bool")) tNil))
  | .isInt, [t], _ => tCB (rIsi K) (tCons t (tCons (tC (.ty "int")) tNil))
  | .isStr, [t], _ => tCB (rIsi K) (tCons t (tCons (tC (.ty "str")) tNil))
  | .isList, [t], _ => tCB (rIsi K) (tCons t (tCons (tC (.ty "list")) tNil))
  | .isTuple, [t], _ => tCB (rIsi K) (tCons t (tCons (tC (.ty "tuple")) tNil))
  | .tupRange, [t], _ => tTupRg (tRg1 t)
  | .tupRange, [t, u], _ => tTupRg (tRg2 t u)
  | .lstRange, [t], _ => tLstRg (tRg1 t)
  | .lstRange, [t, u], _ => tLstRg (tRg2 t u)
  | .sortedSet, [t], _ => tSortSet K t
  | .lenset, [t], _ => fun σ H Q => tLenSet K t σ H Q ∨ (tLenSetT K t σ H Q ∨ (tLenSetS K t σ H Q ∨ tLenSetU K t σ H Q))
  | .fstr ps, ts, _ => fun σ H Q => tJs (fParts ps ts) Str.empty σ H fun out H1 => Q (.str out) H1
  | .dict, [_], ta => tCB rDictT ta
  | .maxd d, [_], ta => tCKw (rMaxDef K) ta (tCons (tC (.int d)) tNil)
  | .sorted, [_], ta => tCB (fun vs H Q => rSortedI K vs H Q ∨ (rSortedPO K vs H Q ∨ rSortedTL K vs H Q)) ta
  | .isExc tp rz cs, [t], _ => tIsX K tp rz cs t
  | .excAt rz, [t], _ => tExAt K rz t
  | _, _, _ => tNev
def rJoin : V → List V → Hp → VK → Prop := fun x xs H Q => ∃ a p, ∃ ys : List Str, x = .str a ∧ xs = [.ref p] ∧ (SqL K H p (ys.map V.str) ∨ SqT K H p (ys.map V.str)) ∧ (ys.map (·.length)).sum + ys.length * a.length ≤ 16777216 ∧ Q (.str (Txt.join a ys)) H
def rSplit : V → List V → Hp → VK → Prop := fun x xs H Q => ∃ a b, x = .str a ∧ xs = [.str b] ∧ (b.length == 0) = false ∧ a.length + 2 ≤ sizeLine ∧ rNewStrs (Txt.split a b) H Q
def rStripC : V → List V → Hp → VK → Prop := fun x xs H Q => ∃ a b, x = .str a ∧ xs = [.str b] ∧ a.length ≤ sizeLine ∧ Q (.str (Txt.stripChars a b)) H
def rdMt : MI → TE → List TE → TA → TE
  | .get, to, [tk, td], _ => tDGet2 to tk td
  | .join, to, [te], _ => tM1 (rJoin K) to te
  | .split, to, [te], _ => tM1 rSplit to te
  | .strip, to, [te], _ => tBM K "str" rStripC to (tCons te tNil)
  | .index, to, [te], _ => tBM K "list" (rIndexD K) to (tCons te tNil)
  | _, _, _, _ => tNev
def rdG : Tg → TG
  | .nm i => gName i
  | .tp is => gTup K is.length (rdGs is)
where rdGs : List Nat → TGs
  | [] => gNil
  | i :: is => gCons (gName i) (rdGs is)
def rdSrc : SK → List TE → TA → TI
  | .seq, [t], _ => fun σ H R => iList K t σ H R ∨ (iTup K t σ H R ∨ iStr t σ H R)
  | .rng, [_], ta => iRng1 ta
  | .rng, [_, _], ta => iRng2 ta
  | .rng, [_, _, _], ta => iRng3 ta
  | .enum, [_], ta => fun σ H R => iEnum K ta σ H R ∨ iEnumT K ta σ H R
  | .zip, [_, _], ta => iZip K ta
  | .keys, [t], _ => iKeys t
  | _, _, _ => fun _ _ _ => False
mutual
def rdE : IE → TE
  | .var i => tVar i
  | .int i => tC (.int i)
  | .bl b => tC (.bl b)
  | .non => tC .non
  | .str x => tC (.str x)
  | .glb _ d => tC (vOf d)
  | .bin op a b => tOp (rBin K op) (rdE a) (rdE b)
  | .cmp op a b => rdCmp K op (rdE a) (rdE b)
  | .chain op op' a b c => tChain (rCmp K op) (rCmp K op') (rdE a) (rdE b) (rdE c)
  | .and a b => tAndT K (rdE a) (rdE b)
  | .or a b => tOrT K (rdE a) (rdE b)
  | .not a => tNotT K (rdE a)
  | .neg a => tUn (rU fun i => .int (-i)) (rdE a)
  | .ifx c a b => tIf (rdT c) (rdE a) (rdE b)
  | .tup es => tTup (rdA es)
  | .lst es => tLst (rdA es)
  | .ix a b => fun σ H Q => tOp (rIx K) (rdE a) (rdE b) σ H Q ∨ tDGet (rdE a) (rdE b) σ H Q
  | .slc a lo hi => tSl (rSl K) (rdE a) (rdO lo) (rdO hi)
  | .call f es => tCall (sp f) [] E0 (rdA es)
  | .bcall f es => tCall (sp f) [] E0 (rdA es)
  | .callF f es => tCall (sp f) [] E0 (rdA es)
  | .bi b es => rdBi K b (rdL es) (rdA es)
  | .mt m o es => rdMt K m (rdE o) (rdL es) (rdA es)
  | .lc elt g k src ifs => match k with
    | .keys => fun σ H Q => tLockE (tLc (rdSrc K .keys (rdL src) (rdA src)) (rdG K g) (rdI ifs) (rdE elt) (tgS g)) σ H Q ∨ tLc (rdSrc K .keys (rdL src) (rdA src)) (rdG K g) (rdI ifs) (rdE elt) (tgS g) σ H Q
    | _ => tLc (rdSrc K k (rdL src) (rdA src)) (rdG K g) (rdI ifs) (rdE elt) (tgS g)
  | .dnew t => if t then tDNewT else tDNewK
  | .disp t ks vs => match t, rdL ks, rdL vs with
    | true, [tk], [tv] => tDispT tk tv
    | _, _, _ => tNev
  | .fld cs o x => tFldC K cs (rdE o) x
  | .make c f es => tMake (cA K c) (sp f) [] E0 (rdA es)
  | .callm _ _ _ => tNev
  | .mcall _ _ _ _ _ => tNev
def rdT : IE → TT
  | .cmp op a b => tB (rdCmp K op (rdE a) (rdE b))
  | .chain op op' a b c => tTest (tChain (rCmp K op) (rCmp K op') (rdE a) (rdE b) (rdE c))
  | .and a b => tAnd (rdT a) (rdT b)
  | .or a b => tOr (rdT a) (rdT b)
  | .not a => tNot (rdT a)
  | .ifx _ _ _ => fun _ _ _ => False
  | .var i => tTru K (tVar i)
  | .int i => tTru K (tC (.int i))
  | .bl b => tTru K (tC (.bl b))
  | .ix a b => tTru K (fun σ H Q => tOp (rIx K) (rdE a) (rdE b) σ H Q ∨ tDGet (rdE a) (rdE b) σ H Q)
  | .call f es => tTru K (tCall (sp f) [] E0 (rdA es))
  | .bcall f es => tTru K (tCall (sp f) [] E0 (rdA es))
  | .bi b es => tTru K (rdBi K b (rdL es) (rdA es))
  | .fld cs o x => tTru K (tFldC K cs (rdE o) x)
  | _ => fun _ _ _ => False
def rdA : List IE → TA
  | [] => tNil
  | e :: es => tCons (rdE e) (rdA es)
def rdL : List IE → List TE
  | [] => []
  | e :: es => rdE e :: rdL es
def rdI : List IE → TT
  | [] => tYes
  | [e] => rdT e
  | _ :: _ :: _ => fun _ _ _ => False
def rdO : Option IE → TO
  | none => tNoPart
  | some e => tPart (rdE e)
end

section
variable (K : PySem.W.Frag) (sp : Nat → Sp)
def rInsert : V → List V → Hp → VK → Prop := fun x vs H Q => ∃ (l : Addr) (xs : List V) (i : Int) (y : V), x = .ref l ∧ vs = [.int i, y] ∧ H l = some (.lst xs) ∧ xs.length < sizeLine ∧ 0 ≤ i ∧ i < 2 ^ 63 ∧ Q .non (upd H l (.lst (xs.take i.toNat ++ [y] ++ xs.drop i.toNat)))
def rdMs : MS → TE → TA → TS
  | .append, te, ta => tDrop (tBM K "list" rAppend te ta)
  | .insert, te, ta => tDrop (tBM K "list" rInsert te ta)
  | .reverse, te, _ => tDrop (tBM0 K "list" rReverse te)
  | .pop1, te, ta => tDrop (tBM K "list" rPopAt te ta)
  | _, _, _ => tNever
/-- what is wished behind an exception of a class of the program -/
def EW (K : PySem.W.Frag) (W : Str → Hp → Prop) : XK := fun cls d H => ∃ c : Str, ExAs K H c cls d ∧ W c H
/-- .. behind a try's body that keeps the field alone -/
def WA (c : Str) (v : Nat) (D : Ends) (σ : L2.St) : Str → Hp → Prop := fun x H => excC x = c ∧ ∃ n : Nat, excP x = some n ∧ ∀ σ' : L2.St, σ'.length = σ.length → σ'[v]? = some (some (.int n)) → D.nx σ' H
/-- .. behind a try's body: the clause names t, slot v keeps what was caught -/
def WT (K : PySem.W.Frag) (rz : List Str) (t : Str) (v : Nat) (D : Ends) (σ : L2.St) : Str → Hp → Prop := fun c H => excC c ∈ rz ∧ excSub (excC c) t = some true ∧
  ∀ (a : Addr) (cls : Value) (d : Option Addr) (σ' : L2.St), ExAs K H c cls d → H a = none → σ'.length = σ.length → σ'[v]? = some (some (.ref a)) → D.nx σ' (upd H a (ExHD cls d a))
/-! expressions that change, or raise -/
section
variable (W : Str → Hp → Prop)
mutual
def rdX : IE → TE
  | .callm f _ es => tCall (sp f) [] (EW K W) (rdXA es)
  | .mcall cs m _ o es => fun σ H Q => ∃ (c : Str) (f : Nat), (c, f) ∈ cs ∧ tMeth (cA K c) m (sp f) [] (EW K W) (rdX o) (rdXA es) σ H Q
  | .and a b => tAndT K (rdX a) (rdX b)
  | .or a b => tOrT K (rdX a) (rdX b)
  | .not a => tNotT K (rdX a)
  | .bin op a b => tOp (rBin K op) (rdX a) (rdX b)
  | .cmp op a b => rdCmp K op (rdX a) (rdX b)
  | .var i => rdE K sp (.var i)
  | .int i => rdE K sp (.int i)
  | .bl i => rdE K sp (.bl i)
  | .non => rdE K sp .non
  | .str x => rdE K sp (.str x)
  | .glb x d => rdE K sp (.glb x d)
  | .chain a b c d e => rdE K sp (.chain a b c d e)
  | .neg a => rdE K sp (.neg a)
  | .ifx a b c => rdE K sp (.ifx a b c)
  | .tup es => rdE K sp (.tup es)
  | .lst es => rdE K sp (.lst es)
  | .ix a b => rdE K sp (.ix a b)
  | .slc a b c => rdE K sp (.slc a b c)
  | .call a b => rdE K sp (.call a b)
  | .bcall a b => rdE K sp (.bcall a b)
  | .callF a b => rdE K sp (.callF a b)
  | .bi a b => rdE K sp (.bi a b)
  | .mt a b c => rdE K sp (.mt a b c)
  | .lc a b c d e => rdE K sp (.lc a b c d e)
  | .dnew a => rdE K sp (.dnew a)
  | .disp a b c => rdE K sp (.disp a b c)
  | .fld a b c => rdE K sp (.fld a b c)
  | .make a b c => rdE K sp (.make a b c)
def rdXA : List IE → TA
  | [] => tNil
  | e :: es => tCons (rdX e) (rdXA es)
end
def rdXT : IE → TT
  | .and a b => tAnd (rdXT a) (rdXT b)
  | .or a b => tOr (rdXT a) (rdXT b)
  | .not a => tNot (rdXT a)
  | .callm f js es => tTru K (rdX K sp W (.callm f js es))
  | .mcall cs m js o es => tTru K (rdX K sp W (.mcall cs m js o es))
  | e => rdT K sp e
end
mutual
def rdS : (Str → Hp → Prop) → IS → TS
  | _, .set g e => tAsg (rdE K sp e) (rdG K g)
  | _, .setix i k v => fun D σ H => tAsg (rdE K sp v) (gSub (tVar i) (rdE K sp k) rSetL) D σ H ∨ sDPut (tVar i) (rdE K sp k) (rdE K sp v) D σ H
  | _, .ms m i es => rdMs K m (tVar i) (rdA K sp es)
  | _, .msv g i => tAsg (tBM0 K "list" rPop (tVar i)) (rdG K g)
  | _, .frz _ => tNext
  | W, .ite c a b => tIfS (rdT K sp c) (rdSs W a) (rdSs W b)
  | W, .for_ g k src body => match k with
    | .keys => fun D σ H => tLock (tFor (rdSrc K .keys (rdL K sp src) (rdA K sp src)) (rdG K g) (rdSs W body)) D σ H ∨ tFor (rdSrc K .keys (rdL K sp src) (rdA K sp src)) (rdG K g) (rdSs W body) D σ H
    | _ => tFor (rdSrc K k (rdL K sp src) (rdA K sp src)) (rdG K g) (rdSs W body)
  | _, .forq g i c e => tFor (iList K (tVar i)) (rdG K g) (tSeq (tIfS (rdT K sp c) (tSeq (tRet (rdE K sp e)) tNext) tNext) tNext)
  | W, .whl c body => tWhile (rdT K sp c) (rdSs W body)
  | _, .ret e => tRet (rdE K sp e)
  | _, .retn => tRetN
  | _, .brk => tBreak
  | _, .cnt => tCont
  | _, .pass => tNext
  | _, .expr e => tDrop (rdE K sp e)
  | W, .raise c => fun _ _ H => W c H
  | W, .xcall f es => tDrop (tCall (sp f) [] (EW K W) (rdA K sp es))
  | W, .tryx body rz t v _ => fun D σ H => rdSs (WT K rz t v D σ) body D σ H
  | W, .raisev c e => fun _ σ H => tCons (rdE K sp e) tNil σ H fun vs H1 => ∃ v, vs = [v] ∧ ∀ d : Addr, H1 d = none → EW K W (.ref (cA K c)) (some d) (upd H1 d (.xd [(("at" : Str), v)]))
  | W, .tryat body c v _ => fun D σ H => rdSs (WA c v D σ) body D σ H
  | _, .stuck => tNever
  | W, .setx g e => tAsg (rdX K sp W e) (rdG K g)
  | W, .itex c a b => tIfS (rdXT K sp W c) (rdSs W a) (rdSs W b)
  | W, .retx e => tRet (rdX K sp W e)
  | W, .rett _ e => tRet (rdX K sp W e)
  | W, .exprx e => tDrop (rdX K sp W e)
  | _, .fset cs i x e => sFldC K cs (tVar i) (rdE K sp e) x
  | _, .msf cs m i x es => rdMs K m (tFldC K cs (tVar i) x) (rdA K sp es)
  | _, .setl is e => tAsg (rdE K sp e) (gLst K is.length (rdG.rdGs is))
  | _, .msvi g i e => tAsg (tBM K "list" rPopAt (tVar i) (tCons (rdE K sp e) tNil)) (rdG K g)
  | _, .retw _ es => tRet (rdE K sp (.tup es))
  | _, .lendq _ c b => tIfS (rdT K sp c) (tSeq (tRet (tC (.bl b))) tNext) tNext
  | _, .lends k _ e => tAsg (rdE K sp e) (rdG K (.nm k))
  | _, .msk m i j es => rdMs K m (rdE K sp (.ix (.var i) (.int (j : Int)))) (rdA K sp es)
  | _, .mspop i j e => tDrop (tBM K "list" rAppend (tVar i) (tCons (tBM K "list" rPopAt (tVar j) (tCons (rdE K sp e) tNil)) tNil))
def rdSs : (Str → Hp → Prop) → List IS → TS
  | _, [] => tNext
  | W, s :: ss => tSeq (rdS W s) (rdSs W ss)
end
end
end
end R

set_option linter.all false
set_option maxHeartbeats 1000000
/-! The operations on values. -/
namespace R
open PySem L2
section
variable {K : PySem.W.Frag} {B : Bd} {I H I' H' : Hp} {Q : VK}
theorem line_eq : LINE = sizeLine := by rw [sizeLine_eq]
theorem le_line {n : Nat} (h : n ≤ LINE) : n ≤ sizeLine := by rw [← line_eq]; exact h
theorem lt_line {n : Nat} (h : n < LINE) : n < sizeLine := by rw [← line_eq]; exact h
/-- a new list of one's own -/
theorem rk_newL {p : Addr} {xs : List V} {ds : List D} (s : Sub I H) (hp : H p = none) (r : Reps K I ds xs) (z : ds.length ≤ LINE) : Ext I H I (upd H p (.lst xs)) ∧ RK K B H I (upd H p (.lst xs)) .ow (.lst ds) (.ref p) :=
  ⟨Ext.new s hp, ⟨p, rfl, s.fresh hp, xs, upd_same, r, z⟩, p, rfl, fun a m => by rw [List.mem_singleton.mp m]; exact hp⟩
/-- a new tuple, frozen -/
theorem rk_newT {p : Addr} {xs : List V} {ds : List D} (s : Sub I H) (hp : H p = none) (r : Reps K I ds xs) (z : ds.length ≤ LINE) : Ext I H (upd I p (.tup xs)) (upd H p (.tup xs)) ∧ Rep K (upd I p (.tup xs)) (.tup ds) (.ref p) := by
  refine ⟨Ext.newF s hp, ?_⟩
  simp only [Rep]
  exact ⟨p, xs, rfl, upd_same, r.mono (Ext.newF (o := .tup xs) s hp).ii _ _, z⟩
theorem rk_fz {B : Bd} {Hs : Hp} {d : D} {v : V} (h : Rep K I d v) : RK K B Hs I H .fz d v := h
theorem rep_str {x : Str} (h : x.length ≤ LINE) (o : PyData.strOk x = true) : Rep K I (.str x) (.str x) := by
  unfold Rep
  exact ⟨rfl, h, o⟩
theorem rep_tup {a : Addr} {xs : List V} {ds : List D} (h : I a = some (.tup xs)) (r : Reps K I ds xs) (z : ds.length ≤ LINE) : Rep K I (.tup ds) (.ref a) := by
  unfold Rep
  exact ⟨a, xs, rfl, h, r, z⟩
theorem see_int {i : Int} {v : V} (h : See K I H (.int i) v) : v = .int i := h.int
theorem strOk_app {x y : Str} (hx : PyData.strOk x = true) (hy : PyData.strOk y = true) : PyData.strOk (x ++ y) = true := by
  unfold PyData.strOk at *
  show ((x.cps ++ y.cps).all _) = true
  rw [Array.all_append, hx, hy]
  rfl
theorem len_app (x y : Str) : (x ++ y).length = x.length + y.length := by
  show (x.cps ++ y.cps).size = x.cps.size + y.cps.size
  exact Array.size_append
theorem bin_ok {op : BOp} {x y : D} {k : Kd} {d : D} {v w : V} (h : binD op x y = some (k, d)) (s : Sub I H) (hx : See K I H x v) (hy : See K I H y w)
    (q : ∀ u I' H', Ext I H I' H' → RK K B H I' H' k d u → Q u H') : rBin K op v w H Q := by
  unfold binD at h
  split at h
  · cases h
    exact .inl ⟨_, _, hx.int, hy.int, q _ I H (Ext.refl s) (rk_fz rep_int)⟩
  · split at h
    · rename_i hz
      cases h
      obtain ⟨e1, h1, o1⟩ := hx.str
      obtain ⟨e2, h2, o2⟩ := hy.str
      exact .inr (.inl ⟨_, _, e1, e2, le_line hz, q _ I H (Ext.refl s) (rk_fz (rep_str (by rw [len_app]; exact hz) (strOk_app o1 o2)))⟩)
    · cases h
  · split at h
    · rename_i hz
      cases h
      obtain ⟨a, xs, rfl, ha, ra, za⟩ := hx.lst s
      obtain ⟨b, ys, rfl, hb, rb, zb⟩ := hy.lst s
      refine .inr (.inr (.inl ⟨a, b, xs, ys, rfl, rfl, ha, hb, ?_, fun p hp => ?_⟩))
      · rw [ra.len, rb.len]
        exact le_line hz
      · obtain ⟨e, r⟩ := rk_newL (B := B) s hp (ra.app rb) (by rw [List.length_append]; exact hz)
        exact q _ _ _ e r
    · cases h
  · split at h
    · rename_i hz
      cases h
      obtain ⟨a, xs, rfl, ha, ia, ra, za⟩ := hx.tup s
      obtain ⟨b, ys, rfl, hb, ib, rb, zb⟩ := hy.tup s
      refine .inr (.inr (.inr ⟨a, b, xs, ys, rfl, rfl, .inl (.inl ha), .inl (.inl hb), by rw [ra.len, rb.len]; exact le_line hz, fun e => ?_, fun e1 e2 => ?_, fun e1 e2 p hp => ?_⟩))
      · subst e
        have z0 := ra.len
        rw [List.length_nil] at z0
        rw [List.eq_nil_of_length_eq_zero z0.symm, List.nil_append] at q
        exact q _ I H (Ext.refl s) (rk_fz (rep_tup ib rb zb))
      · subst e2
        have z0 := rb.len
        rw [List.length_nil] at z0
        rw [List.eq_nil_of_length_eq_zero z0.symm, List.append_nil] at q
        exact q _ I H (Ext.refl s) (rk_fz (rep_tup ia ra za))
      · obtain ⟨e, r⟩ := rk_newT s hp (ra.app rb) (by rw [List.length_append]; exact hz)
        exact q _ _ _ e r
    · cases h
  · cases h
    exact ⟨_, _, hx.int, hy.int, q _ I H (Ext.refl s) (rk_fz rep_int)⟩
  · split at h
    · rename_i hz
      cases h
      refine .inl ⟨_, _, hx.int, hy.int, ?_, q _ I H (Ext.refl s) (rk_fz rep_int)⟩
      simp only [small64, Bool.or_eq_true, Bool.and_eq_true, decide_eq_true_eq] at hz
      exact hz
    · cases h
  · split at h
    · rename_i hz
      cases h
      simp only [small62, Bool.and_eq_true, decide_eq_true_eq] at hz
      obtain ⟨a, xs, rfl, ha, ra, za⟩ := hx.lst s
      refine .inr (.inl ⟨a, _, xs, rfl, hy.int, ha, by omega, by omega, by rw [ra.len]; exact le_line hz.2, fun p hp => ?_⟩)
      have rr : ∀ n : Nat, Reps K I (List.replicate n _).flatten (List.replicate n xs).flatten := fun n => by
        induction n with
        | zero => exact Reps.nil
        | succ n ih =>
          rw [List.replicate_succ, List.replicate_succ, List.flatten_cons, List.flatten_cons]
          exact ra.app ih
      obtain ⟨e, r⟩ := rk_newL (B := B) s hp (rr _) (by rw [List.length_flatten, List.map_replicate, List.sum_replicate_nat, Nat.mul_comm]; exact hz.2)
      exact q _ _ _ e r
    · cases h
  · split at h
    · rename_i _ k hz
      cases h
      obtain ⟨⟨z1, z2⟩, z3, z4⟩ := hz
      obtain ⟨a, xs, rfl, ha, ia, ra, za⟩ := hx.tup s
      have rr : ∀ n : Nat, Reps K I (List.replicate n _).flatten (List.replicate n xs).flatten := fun n => by
        induction n with
        | zero => exact Reps.nil
        | succ n ih =>
          rw [List.replicate_succ, List.replicate_succ, List.flatten_cons, List.flatten_cons]
          exact ra.app ih
      refine .inr (.inr ⟨a, _, xs, rfl, hy.int, .inl (.inl ha), fun e => z1 ?_, z3, z4, by rw [ra.len]; exact z2, fun e => ?_, fun _ p hp => ?_⟩)
      · subst e
        have := ra.len
        rw [List.length_nil] at this
        exact this.symm
      · subst e
        have r1 := rr 1
        have e1 : ∀ {α : Type} (l : List α), (List.replicate 1 l).flatten = l := fun l => by simp
        rw [e1] at r1
        rw [show (1 : Int).toNat = 1 from rfl, e1] at q
        exact q _ I H (Ext.refl s) (rk_fz (rep_tup ia ra za))
      · obtain ⟨e, r⟩ := rk_newT s hp (rr _) (by
          rw [List.length_flatten, List.map_replicate, List.sum_replicate_nat]
          exact Nat.le_trans (Nat.mul_le_mul (show k.toNat ≤ 1000 by omega) z2) (by decide))
        exact q _ _ _ e r
    · cases h
  · split at h
    · rename_i hz
      cases h
      exact ⟨_, _, hx.int, hy.int, hz, q _ I H (Ext.refl s) (rk_fz rep_int)⟩
    · cases h
  · split at h
    · rename_i hz
      cases h
      exact ⟨_, _, hx.int, hy.int, hz, q _ I H (Ext.refl s) (rk_fz rep_int)⟩
    · cases h
  · split at h
    · rename_i hz
      cases h
      simp only [small62, Bool.and_eq_true, decide_eq_true_eq] at hz
      exact ⟨_, _, hx.int, hy.int, ⟨hz.1, hz.2.1, by omega⟩, q _ I H (Ext.refl s) (rk_fz rep_int)⟩
    · cases h
  · cases h
end
end R

set_option linter.all false
set_option maxHeartbeats 1000000
/-! Comparisons, items, slices. -/
namespace R
open PySem L2
section
variable {K : PySem.W.Frag} {B : Bd} {I H I' H' : Hp} {Q : VK}
mutual
theorem Rep.dp (s : Sub I H) : ∀ (d : D) (v : V), Rep K I d v → d.dep ≤ 900 → Dp K H v d.py ∧ d.py.canLay0 = true ∧ d.py.depth ≤ d.dep
  | .non, v, h, _ => by
    simp only [Rep] at h
    subst h
    simp only [D.py, PyData.canLay0, PyData.depth]
    exact ⟨.non, trivial, Nat.zero_le _⟩
  | .bl b, v, h, _ => by
    simp only [Rep] at h
    subst h
    simp only [D.py, PyData.canLay0, PyData.depth]
    exact ⟨.bl b, trivial, Nat.zero_le _⟩
  | .int i, v, h, _ => by
    simp only [Rep] at h
    subst h
    simp only [D.py, PyData.canLay0, PyData.depth]
    exact ⟨.int i, trivial, Nat.zero_le _⟩
  | .str x, v, h, _ => by
    simp only [Rep] at h
    obtain ⟨rfl, h1, h2⟩ := h
    simp only [D.py, PyData.canLay0, PyData.depth]
    exact ⟨.str x, h2, Nat.zero_le _⟩
  | .tup ds, v, h, z => by
    simp only [Rep] at h
    obtain ⟨a, xs, rfl, h1, h2, h3⟩ := h
    simp only [D.dep] at z ⊢
    obtain ⟨q1, q2, q3⟩ := Reps.dp s ds xs h2 (by omega)
    simp only [D.py, PyData.canLay0, PyData.depth]
    refine ⟨.tup (.inl (.inl ?_)) q1, q2, by omega⟩
    rcases s a _ h1 with q | ⟨q, _⟩
    · exact q
    · cases q
  | .lst ds, v, h, z => by
    simp only [Rep] at h
    obtain ⟨a, xs, rfl, h1, h2, h3⟩ := h
    simp only [D.dep] at z ⊢
    obtain ⟨q1, q2, q3⟩ := Reps.dp s ds xs h2 (by omega)
    simp only [D.py, PyData.canLay0, PyData.depth]
    refine ⟨.lst (.inl (.inl ?_)) q1, q2, by omega⟩
    rcases s a _ h1 with q | ⟨q, _⟩
    · exact q
    · cases q
  | .dk _ _, v, h, z => by simp only [D.dep] at z; omega
  | .dt _ _, v, h, z => by simp only [D.dep] at z; omega
  | .exc _, v, h, z => by simp only [D.dep] at z; omega
  | .ob _ _ _ _, v, h, z => by simp only [D.dep] at z; omega
  | .io _ _ _, v, h, z => by simp only [D.dep] at z; omega
  | .scr ns, v, h, _ => by
    simp only [Rep] at h
    obtain ⟨a, rfl, h1, h2⟩ := h
    have key : ∀ ms : List Int, DpAll K H (ms.map V.int) (ms.map PyData.int) ∧ PyData.canLayAll0 (ms.map PyData.int) = true ∧ PyData.depthAll (ms.map PyData.int) = 0 := fun ms => by
      induction ms with
      | nil => exact ⟨.nil, by simp only [List.map_nil, PyData.canLayAll0], by simp only [List.map_nil, PyData.depthAll]⟩
      | cons m ms ih =>
        simp only [List.map_cons, PyData.canLayAll0, PyData.depthAll, PyData.canLay0, PyData.depth, ih.2.1, ih.2.2]
        exact ⟨.cons (.int m) ih.1, rfl, rfl⟩
    obtain ⟨q1, q2, q3⟩ := key ns
    simp only [D.py, PyData.canLay0, PyData.depth, D.dep]
    exact ⟨.lst (sql_sub s h1) q1, q2, by omega⟩
theorem Reps.dp (s : Sub I H) : ∀ (ds : List D) (xs : List V), Reps K I ds xs → D.deps ds ≤ 900 → DpAll K H xs (D.pys ds) ∧ PyData.canLayAll0 (D.pys ds) = true ∧ PyData.depthAll (D.pys ds) ≤ D.deps ds
  | [], xs, h, _ => by
    simp only [Reps] at h
    subst h
    simp only [D.pys, PyData.canLayAll0, PyData.depthAll]
    exact ⟨.nil, trivial, Nat.zero_le _⟩
  | d :: ds, xs, h, z => by
    simp only [Reps] at h
    obtain ⟨x, r, rfl, h1, h2⟩ := h
    simp only [D.deps] at z ⊢
    obtain ⟨q1, q2, q3⟩ := Rep.dp s d x h1 (by omega)
    obtain ⟨p1, p2, p3⟩ := Reps.dp s ds r h2 (by omega)
    simp only [D.pys, PyData.canLayAll0, PyData.depthAll, q2, p2, Bool.and_self]
    exact ⟨.cons q1 p1, trivial, by omega⟩
end
theorem See.dp {d : D} {v : V} (h : See K I H d v) (s : Sub I H) (z : d.dep ≤ 900) : Dp K H v d.py ∧ d.py.canLay0 = true ∧ d.py.depth ≤ d.dep := by
  rcases h with h | ⟨p, rfl, hp, c⟩
  · exact Rep.dp s d v h z
  · cases d with
    | lst ds =>
      obtain ⟨xs, e, r, z'⟩ := c
      simp only [D.dep] at z ⊢
      obtain ⟨q1, q2, q3⟩ := Reps.dp s ds xs r (by omega)
      simp only [D.py, PyData.canLay0, PyData.depth]
      exact ⟨.lst (.inl (.inl e)) q1, q2, by omega⟩
    | dk _ _ => simp only [D.dep] at z; omega
    | dt _ _ => simp only [D.dep] at z; omega
    | ob _ _ _ _ => simp only [D.dep] at z; omega
    | io _ _ _ => simp only [D.dep] at z; omega
    | _ => exact False.elim c
theorem shaped_of {p : PyData} {n : Nat} (h : p.canLay0 = true) (z : p.depth ≤ n) (hn : n ≤ 61) : SeqAt.shaped p = true := by
  show (p.canLay0 && decide (p.depth ≤ 64)) = true
  rw [h, Bool.true_and, decide_eq_true_eq]
  omega
theorem anyPy (a : D) : ∀ ds : List D, ((D.pys ds).any fun z => PyData.eqv z a.py) = ds.any fun z => eqv z a
  | [] => by simp only [D.pys, List.any_nil]
  | d :: ds => by
    simp only [D.pys, List.any_cons, anyPy a ds]
    rfl
theorem flat_v {d : D} {v : V} (h : See K I H d v) (f : flat d = true) : flatV v = true := by
  cases d with
  | non => rw [h.non]; rfl
  | bl b => rw [h.bl]; rfl
  | int i => rw [h.int]; rfl
  | str x => rw [h.str.1]; rfl
  | _ => simp only [flat] at f; cases f
theorem eqv_flat {d e : D} {v w : V} (h : See K I H d v) (g : See K I H e w) (f : flat d = true) (f' : flat e = true) : eqV v w = eqv d e := by
  cases d <;> simp only [flat] at f <;> first | cases f | skip
  all_goals (cases e <;> simp only [flat] at f' <;> first | cases f' | skip)
  all_goals (first | rw [h.non] | rw [h.bl] | rw [h.int] | rw [h.str.1])
  all_goals (first | rw [g.non] | rw [g.bl] | rw [g.int] | rw [g.str.1])
  all_goals simp only [eqv, D.py, PyData.eqv, eqV]
theorem inV_flat {d : D} {v : V} (h : See K I H d v) (f : flat d = true) : ∀ {ds : List D} {xs : List V}, Reps K I ds xs → ds.all flat = true → xs.all flatV = true ∧ inV v xs = ds.any fun z => eqv z d
  | [], xs, r, _ => by
    simp only [Reps] at r
    subst r
    exact ⟨rfl, rfl⟩
  | e :: ds, xs, r, fs => by
    simp only [Reps] at r
    obtain ⟨x, r', rfl, h1, h2⟩ := r
    simp only [List.all_cons, Bool.and_eq_true] at fs
    obtain ⟨q1, q2⟩ := inV_flat h f h2 fs.2
    have h1' : See K I H e x := .inl h1
    refine ⟨by simp only [List.all_cons, q1, flat_v h1' fs.1, Bool.and_self], ?_⟩
    show (eqV x v || inV v r') = _
    rw [eqv_flat h1' h fs.1 f, q2]
    rfl
theorem one_str {x : Str} (h : x.length = 1) : x = ⟨#[x.cps.getD 0 0]⟩ := by
  obtain ⟨c⟩ := x
  have hc : c.size = 1 := h
  show Str.mk c = Str.mk #[c.getD 0 0]
  congr 1
  apply Array.ext
  · simpa using hc
  · intro i h1 h2
    have : i = 0 := by omega
    subst this
    simp [Array.getD, hc]
theorem keyOf_v {d : D} {k : Key} {v : V} (h : keyOf d = some k) (g : See K I H d v) : v = kV k := by
  cases d <;> simp only [keyOf] at h <;> first | cases h | skip
  · rw [g.int]; rfl
  · rw [g.str.1]; rfl
theorem keysOf_v : ∀ {ds : List D} {ks : List Key} {xs : List V}, keysOf ds = some ks → Reps K I ds xs → xs = ks.map kV
  | [], ks, xs, h, r => by
    simp only [keysOf] at h
    simp only [Reps] at r
    cases h
    rw [r]
    rfl
  | d :: ds, ks, xs, h, r => by
    simp only [Reps] at r
    obtain ⟨x, r', rfl, h1, h2⟩ := r
    simp only [keysOf] at h
    cases e1 : keyOf d with
    | none => rw [e1] at h; cases h
    | some k =>
      cases e2 : keysOf ds with
      | none => rw [e1, e2] at h; cases h
      | some ks' =>
        rw [e1, e2] at h
        cases h
        rw [keysOf_v e2 h2, keyOf_v (I := I) (H := I) e1 (.inl h1)]
        rfl
theorem valV_look {κ : Type} [DecidableEq κ] (q : κ) : ∀ {ks : List κ} {ws : List D} {xs : List V}, Reps K I ws xs → ks.length = xs.length →
    (∀ d, look ks ws q = some d → ∃ v, valV (ks.zip xs) q = some v ∧ Rep K I d v) ∧ (look ks ws q = none → valV (ks.zip xs) q = none) ∧ (valV (ks.zip xs) q).isSome = has ks q
  | [], ws, xs, r, e => by
    refine ⟨fun d h => ?_, fun h => ?_, ?_⟩
    · unfold look at h; cases h
    · rfl
    · rfl
  | k :: ks, ws, [], r, e => by simp at e
  | k :: ks, [], x :: xs, r, e => by simp only [Reps] at r; cases r
  | k :: ks, w :: ws, x :: xs, r, e => by
    simp only [Reps] at r
    obtain ⟨x', r', e', h1, h2⟩ := r
    cases e'
    have ih := valV_look q (ks := ks) h2 (by simpa using e)
    show (∀ d, (if k = q then some w else look ks ws q) = some d → ∃ v, valV ((k, x) :: ks.zip xs) q = some v ∧ Rep K I d v) ∧ ((if k = q then some w else look ks ws q) = none → valV ((k, x) :: ks.zip xs) q = none) ∧ (valV ((k, x) :: ks.zip xs) q).isSome = (decide (k = q) || has ks q)
    by_cases c : k = q
    · rw [if_pos c, valV_pos c, decide_eq_true c]
      refine ⟨fun d h => ?_, fun h => ?_, rfl⟩
      · cases h
        exact ⟨x, rfl, h1⟩
      · cases h
    · rw [if_neg c, valV_neg c, decide_eq_false c, Bool.false_or]
      exact ih
end
end R

set_option linter.all false
set_option maxHeartbeats 1000000
/-! Comparisons, items, slices. -/
namespace R
open PySem L2
section
variable {K : PySem.W.Frag} {B : Bd} {I H I' H' : Hp} {Q : VK}
theorem eq_ok {x y : D} {c : Bool} {v w : V} (h1 : x.dep ≤ 60) (h2 : y.dep ≤ 60) (s : Sub I H) (hx : See K I H x v) (hy : See K I H y w) (q : Q (.bl (eqv x y)) H) : rEqD K v w H Q := by
  obtain ⟨a1, a2, a3⟩ := hx.dp s (by omega)
  obtain ⟨b1, b2, b3⟩ := hy.dp s (by omega)
  exact ⟨_, _, a1, b1, shaped_of a2 a3 (by omega), shaped_of b2 b3 (by omega), q⟩
theorem ne_ok {x y : D} {c : Bool} {v w : V} (h1 : x.dep ≤ 60) (h2 : y.dep ≤ 60) (s : Sub I H) (hx : See K I H x v) (hy : See K I H y w) (q : Q (.bl (!eqv x y)) H) : rNeD K v w H Q := by
  obtain ⟨a1, a2, a3⟩ := hx.dp s (by omega)
  obtain ⟨b1, b2, b3⟩ := hy.dp s (by omega)
  exact ⟨_, _, a1, b1, shaped_of a2 a3 (by omega), shaped_of b2 b3 (by omega), q⟩
theorem isNon_v {d : D} {v : V} (h : See K I H d v) : decide (v = .non) = isNon d := by
  cases d with
  | non => rw [h.non]; rfl
  | bl b => rw [h.bl]; rfl
  | int i => rw [h.int]; rfl
  | str x => rw [h.str.1]; rfl
  | io js r outs =>
    rcases h with h | ⟨p, rfl, _⟩
    · simp only [Rep] at h
      obtain ⟨⟨ds, rfl⟩, h⟩ := h
      simp only [Rep] at h
      obtain ⟨a, xs, rfl, _⟩ := h
      rfl
    · rfl
  | _ =>
    rcases h with h | ⟨p, rfl, _⟩
    · simp only [Rep] at h <;> first
        | (obtain ⟨a, xs, rfl, _⟩ := h; rfl)
        | (obtain ⟨a, rfl, _⟩ := h; rfl)
        | (obtain ⟨a, dx, xs, rfl, _⟩ := h; rfl)
        | exact h.elim
    · rfl
theorem nonD_reps : ∀ {ds : List D} {xs : List V}, Reps K I ds xs → Sub I H → ds.all (fun d => isNon d || isDct d) = true → (∀ z ∈ xs, NonD H z) ∧ xs.any L2.isNon = ds.any isNon
  | [], _, r, _, _ => by
    simp only [Reps] at r
    subst r
    exact ⟨(fun z m => nomatch m), rfl⟩
  | d :: ds, _, r, s, h => by
    simp only [Reps] at r
    obtain ⟨v, vs, rfl, r1, r2⟩ := r
    rw [List.all_cons, Bool.and_eq_true] at h
    obtain ⟨i1, i2⟩ := nonD_reps r2 s h.2
    have g : NonD H v ∧ L2.isNon v = isNon d := by
      cases d with
      | non =>
        have e := (show See K I H .non v from .inl r1).non
        subst e
        exact ⟨.inl rfl, rfl⟩
      | dk ks ws =>
        obtain ⟨a, xs, rfl, ha, _⟩ := (show See K I H (.dk ks ws) v from .inl r1).dk s
        exact ⟨.inr ⟨a, rfl, .inl ⟨_, ha⟩⟩, rfl⟩
      | dt ks ws =>
        obtain ⟨a, xs, rfl, ha, _⟩ := (show See K I H (.dt ks ws) v from .inl r1).dt s
        exact ⟨.inr ⟨a, rfl, .inr ⟨_, ha⟩⟩, rfl⟩
      | _ => exact absurd h.1 (by simp [isNon, isDct])
    refine ⟨fun z m => ?_, ?_⟩
    · rcases List.mem_cons.mp m with rfl | m
      · exact g.1
      · exact i1 z m
    · rw [List.any_cons, List.any_cons, i2, g.2]
theorem ints_reps : ∀ {ds : List D} {xs : List V} {ns : List Int}, Reps K I ds xs → intsD ds = some ns → xs = ns.map V.int
  | [], _, ns, r, e => by
    simp only [Reps] at r
    subst r
    cases e
    rfl
  | d :: ds, _, ns, r, e => by
    simp only [Reps] at r
    obtain ⟨v, vs, rfl, r1, r2⟩ := r
    cases d <;> first | (simp only [intsD] at e; cases e; done) | skip
    rename_i i
    simp only [intsD] at e
    obtain ⟨ms, e1, rfl⟩ := Option.map_eq_some_iff.mp e
    have e2 := (show See K I (fun _ => none) (.int i) v from .inl r1).int
    rw [e2, ints_reps r2 e1]
    rfl
theorem cmp_ok {op : COp} {x y : D} {c : Bool} {v w : V} (h : cmpD op x y = some c) (s : Sub I H) (hx : See K I H x v) (hy : See K I H y w) (nd : op ≠ .isin ∧ op ≠ .notin)
    (q : Q (.bl c) H) : rCmp K op v w H Q := by
  unfold cmpD at h
  split at h
  · split at h
    · rename_i hz
      cases h
      exact eq_ok (c := true) hz.1 hz.2 s hx hy q
    · cases h
  · split at h
    · rename_i hz
      cases h
      exact ne_ok (c := true) hz.1 hz.2 s hx hy q
    · cases h
  · cases h
    exact .inl ⟨_, _, hx.int, hy.int, q⟩
  · cases h
    exact ⟨_, _, hx.int, hy.int, q⟩
  · cases h
    exact ⟨_, _, hx.int, hy.int, q⟩
  · cases h
    exact ⟨_, _, hx.int, hy.int, q⟩
  · split at h
    · rename_i ns ms e1 e2
      cases h
      obtain ⟨a, xs, rfl, ha, ra, za⟩ := hx.lst s
      obtain ⟨b, ys, rfl, hb, rb, zb⟩ := hy.lst s
      have q1 := ints_reps ra e1
      have q2 := ints_reps rb e2
      subst q1 q2
      exact .inr ⟨a, b, ns, ms, rfl, rfl, .inl (.inl ha), .inl (.inl hb), q⟩
    · cases h
  · cases h
    exact .inl ⟨hy.non, by rw [isNon_v hx]; exact q⟩
  · cases h
    exact .inl ⟨hy.non, by rw [isNon_v hx]; exact q⟩
  · cases h
    exact .inr ⟨_, _, hx.bl, hy.bl, q⟩
  · cases h
    exact .inr ⟨_, _, hx.bl, hy.bl, q⟩
  all_goals first
    | exact absurd rfl nd.1
    | exact absurd rfl nd.2
    | cases h
/-- in, not in; of a dict by its own rule -/
theorem in_ok {neg : Bool} {x y : D} {c : Bool} {v w : V} (h : cmpD (if neg then .notin else .isin) x y = some c) (s : Sub I H) (hx : See K I H x v) (hy : See K I H y w) (q : Q (.bl c) H) :
    (isDct y = false → rCmp K (if neg then .notin else .isin) v w H Q) ∧ (isDct y = true → ∃ a o, w = .ref a ∧ DGet H a v o ∧ Q (.bl (if neg then !o.isSome else o.isSome)) H) := by
  have lst : ∀ ds, y = .lst ds → x.dep ≤ 60 → D.deps ds ≤ 60 → Q (.bl (if neg then !(ds.any fun z => eqv z x) else ds.any fun z => eqv z x)) H → rCmp K (if neg then .notin else .isin) v w H Q := fun ds e h1 h2 q => by
    subst e
    obtain ⟨a1, a2, a3⟩ := hx.dp s (by omega)
    obtain ⟨b1, b2, b3⟩ := hy.dp s (by simp only [D.dep]; omega)
    simp only [D.py] at b1 b2 b3
    simp only [D.dep] at b3
    rw [← anyPy] at q
    cases neg with
    | true => exact .inl ⟨_, _, a1, b1, shaped_of a2 a3 (by omega), shaped_of b2 b3 (by omega), q⟩
    | false => exact .inl ⟨_, _, a1, b1, shaped_of a2 a3 (by omega), shaped_of b2 b3 (by omega), q⟩
  have lnon : ∀ ds, y = .lst ds → (isNon x && ds.all fun d => isNon d || isDct d) = true → Q (.bl (if neg then !ds.any isNon else ds.any isNon)) H → rCmp K (if neg then .notin else .isin) v w H Q := fun ds e hz q => by
    subst e
    rw [Bool.and_eq_true] at hz
    obtain ⟨a, xs, rfl, ha, ra, za⟩ := hy.lst s
    obtain ⟨n1, n2⟩ := nonD_reps ra s hz.2
    have xe : v = .non := of_decide_eq_true ((isNon_v hx).trans hz.1)
    rw [← n2] at q
    cases neg with
    | true => exact .inr (.inr (.inr (.inl ⟨a, xs, xe, rfl, .inl (.inl ha), n1, q⟩)))
    | false => exact .inr (.inr (.inr (.inl ⟨a, xs, xe, rfl, .inl (.inl ha), n1, q⟩)))
  have tup : ∀ ds, y = .tup ds → (flat x && ds.all flat) = true → Q (.bl (if neg then !(ds.any fun z => eqv z x) else ds.any fun z => eqv z x)) H → rCmp K (if neg then .notin else .isin) v w H Q := fun ds e hf q => by
    subst e
    simp only [Bool.and_eq_true] at hf
    obtain ⟨b, ys, rfl, hb, ib, rb, zb⟩ := hy.tup s
    obtain ⟨q1, q2⟩ := inV_flat hx hf.1 rb hf.2
    rw [← q2] at q
    cases neg with
    | true => exact .inr (.inl ⟨b, ys, rfl, .inr (.inl (.inl hb)), flat_v hx hf.1, q1, q⟩)
    | false => exact .inr (.inl ⟨b, ys, rfl, .inr (.inl (.inl hb)), flat_v hx hf.1, q1, q⟩)
  have tupD : ∀ ds, y = .tup ds → x.dep ≤ 60 → D.deps ds ≤ 60 → Q (.bl (if neg then !(ds.any fun z => eqv z x) else ds.any fun z => eqv z x)) H → rCmp K (if neg then .notin else .isin) v w H Q := fun ds e h1 h2 q => by
    subst e
    obtain ⟨a1, a2, a3⟩ := hx.dp s (by omega)
    obtain ⟨b1, b2, b3⟩ := hy.dp s (by simp only [D.dep]; omega)
    simp only [D.py] at b1 b2 b3
    simp only [D.dep] at b3
    rw [← anyPy] at q
    cases neg with
    | true => exact .inr (.inr (.inr (.inr ⟨_, _, a1, b1, shaped_of a2 a3 (by omega), shaped_of b2 b3 (by omega), q⟩)))
    | false => exact .inr (.inr (.inr (.inr ⟨_, _, a1, b1, shaped_of a2 a3 (by omega), shaped_of b2 b3 (by omega), q⟩)))
  have str : ∀ a b, x = .str a → y = .str b → a.length = 1 → Q (.bl (if neg then !decide (a.cps.getD 0 0 ∈ b.cps.toList) else decide (a.cps.getD 0 0 ∈ b.cps.toList))) H → rCmp K (if neg then .notin else .isin) v w H Q := fun a b e1 e2 hl q => by
    subst e1 e2
    have e3 := one_str hl
    cases neg with
    | true => exact .inr (.inr (.inl ⟨_, b, by rw [hx.str.1]; exact congrArg V.str e3, hy.str.1, q⟩))
    | false => exact .inr (.inr (.inl ⟨_, b, by rw [hx.str.1]; exact congrArg V.str e3, hy.str.1, q⟩))
  have dk : ∀ ks ws k, y = .dk ks ws → keyOf x = some k → Q (.bl (if neg then !has ks k else has ks k)) H → ∃ a o, w = .ref a ∧ DGet H a v o ∧ Q (.bl (if neg then !o.isSome else o.isSome)) H := fun ks ws k e hk q => by
    subst e
    obtain ⟨a, xs, rfl, ha, ra, la, za⟩ := hy.dk s
    obtain ⟨_, _, q3⟩ := valV_look k ra la
    rw [← q3] at q
    exact ⟨a, valV (ks.zip xs) k, rfl, .inl ⟨_, k, ha, keyOf_v hk hx, rfl⟩, q⟩
  have dt : ∀ ks ws ds (k : List Key), y = .dt ks ws → x = .tup ds → keysOf ds = some k → Q (.bl (if neg then !has ks k else has ks k)) H → ∃ a o, w = .ref a ∧ DGet H a v o ∧ Q (.bl (if neg then !o.isSome else o.isSome)) H := fun ks ws ds k e e2 hk q => by
    subst e e2
    obtain ⟨a, xs, rfl, ha, ra, la, za⟩ := hy.dt s
    obtain ⟨b, ys, rfl, hb, ib, rb, zb⟩ := hx.tup s
    obtain ⟨_, _, q3⟩ := valV_look k ra la
    rw [← q3] at q
    exact ⟨a, valV (ks.zip xs) k, rfl, .inr ⟨_, k, b, ha, rfl, by rw [hb, keysOf_v hk rb], rfl⟩, q⟩
  cases neg with
  | true =>
    have h : cmpD .notin x y = some c := h
    cases y with
    | lst ds =>
      simp only [cmpD] at h
      split at h
      · rename_i hz
        cases h
        exact ⟨fun _ => lst ds rfl hz.1 hz.2 q, (fun z => by cases z)⟩
      · split at h
        · rename_i hz
          cases h
          exact ⟨fun _ => lnon ds rfl hz q, (fun z => by cases z)⟩
        · cases h
    | tup ds =>
      simp only [cmpD] at h
      split at h
      · rename_i hz
        cases h
        exact ⟨fun _ => tup ds rfl hz q, (fun z => by cases z)⟩
      · split at h
        · rename_i hz
          cases h
          exact ⟨fun _ => tupD ds rfl hz.1 hz.2 q, (fun z => by cases z)⟩
        · cases h
    | str b =>
      cases x <;> simp only [cmpD] at h <;> first | cases h | skip
      split at h
      · rename_i hz
        cases h
        exact ⟨fun _ => str _ b rfl rfl hz q, (fun z => by cases z)⟩
      · cases h
    | dk ks ws =>
      simp only [cmpD] at h
      cases e : keyOf x with
      | none => rw [e] at h; cases h
      | some k =>
        rw [e] at h
        cases h
        exact ⟨(fun z => by cases z), fun _ => dk ks ws k rfl e q⟩
    | dt ks ws =>
      cases x <;> first | (simp only [cmpD] at h; cases h; done) | skip
      rename_i ds _
      simp only [cmpD] at h
      cases e : keysOf ds with
      | none => rw [e] at h; cases h
      | some k =>
        rw [e] at h
        cases h
        exact ⟨(fun z => by cases z), fun _ => dt ks ws ds k rfl rfl e q⟩
    | _ => cases x <;> simp only [cmpD] at h <;> cases h
  | false =>
    have h : cmpD .isin x y = some c := h
    cases y with
    | lst ds =>
      simp only [cmpD] at h
      split at h
      · rename_i hz
        cases h
        exact ⟨fun _ => lst ds rfl hz.1 hz.2 q, (fun z => by cases z)⟩
      · split at h
        · rename_i hz
          cases h
          exact ⟨fun _ => lnon ds rfl hz q, (fun z => by cases z)⟩
        · cases h
    | tup ds =>
      simp only [cmpD] at h
      split at h
      · rename_i hz
        cases h
        exact ⟨fun _ => tup ds rfl hz q, (fun z => by cases z)⟩
      · split at h
        · rename_i hz
          cases h
          exact ⟨fun _ => tupD ds rfl hz.1 hz.2 q, (fun z => by cases z)⟩
        · cases h
    | str b =>
      cases x <;> simp only [cmpD] at h <;> first | cases h | skip
      split at h
      · rename_i hz
        cases h
        exact ⟨fun _ => str _ b rfl rfl hz q, (fun z => by cases z)⟩
      · cases h
    | dk ks ws =>
      simp only [cmpD] at h
      cases e : keyOf x with
      | none => rw [e] at h; cases h
      | some k =>
        rw [e] at h
        cases h
        exact ⟨(fun z => by cases z), fun _ => dk ks ws k rfl e q⟩
    | dt ks ws =>
      cases x <;> first | (simp only [cmpD] at h; cases h; done) | skip
      rename_i ds _
      simp only [cmpD] at h
      cases e : keysOf ds with
      | none => rw [e] at h; cases h
      | some k =>
        rw [e] at h
        cases h
        exact ⟨(fun z => by cases z), fun _ => dt ks ws ds k rfl rfl e q⟩
    | _ => cases x <;> simp only [cmpD] at h <;> cases h
theorem atI_map {α β : Type} (f : α → β) (xs : List α) (i : Int) : atI (xs.map f) i = (atI xs i).map f := by
  unfold atI
  rw [List.length_map]
  cases ixN xs.length i with
  | none => rfl
  | some j => simp
theorem atI_mem {α : Type} {xs : List α} {i : Int} {v : α} (h : atI xs i = some v) : v ∈ xs := by
  obtain ⟨j, _, h2, _⟩ := atI_get h
  exact List.mem_of_getElem? h2
theorem strOk_sign {x : Str} {c : Nat} (h : PyData.strOk x = true) (m : c ∈ x.cps.toList) : PyData.strOk ⟨#[c]⟩ = true := by
  unfold PyData.strOk at *
  rw [← Array.all_toList, List.all_eq_true] at h
  have := h c m
  simpa using this
/-- an item -/
theorem ix_ok {x y d : D} {v w : V} (h : ixD x y = some d) (s : Sub I H) (hx : See K I H x v) (hy : See K I H y w) (q : ∀ u, Rep K I d u → Q u H) :
    (isDct x = false → rIx K v w H Q) ∧ (isDct x = true → ∃ a u, v = .ref a ∧ DGet H a w (some u) ∧ Q u H) := by
  unfold ixD at h
  split at h
  · obtain ⟨a, xs, rfl, ha, ra, za⟩ := hx.lst s
    obtain ⟨u, h1, h2⟩ := ra.at h
    exact ⟨fun _ => .inl ⟨a, xs, _, u, rfl, hy.int, .inl (.inl ha), h1, q u h2⟩, (fun z => by cases z)⟩
  · obtain ⟨a, xs, rfl, ha, ia, ra, za⟩ := hx.tup s
    obtain ⟨u, h1, h2⟩ := ra.at h
    exact ⟨fun _ => .inr (.inl ⟨a, xs, _, u, rfl, hy.int, .inl (.inl ha), h1, q u h2⟩), (fun z => by cases z)⟩
  · rename_i ns i
    obtain ⟨a, rfl, ha, za⟩ := hx.scr s
    cases e : atI ns i with
    | none => rw [e] at h; cases h
    | some n =>
      rw [e] at h
      cases h
      exact ⟨fun _ => .inl ⟨a, _, _, .int n, rfl, hy.int, ha, by rw [atI_map, e]; rfl, q _ rep_int⟩, (fun z => by cases z)⟩
  · rename_i z i
    obtain ⟨e1, h1, o1⟩ := hx.str
    cases e : atI z.cps.toList i with
    | none => rw [e] at h; cases h
    | some c =>
      rw [e] at h
      cases h
      exact ⟨fun _ => .inr (.inr ⟨z, i, c, e1, hy.int, le_line h1, e, q _ (rep_str (by show 1 ≤ LINE; decide) (strOk_sign o1 (atI_mem e)))⟩), (fun z => by cases z)⟩
  · split at h
    · cases h
    · obtain ⟨a, xs, rfl, ha, ra, la, za⟩ := hx.dk s
      obtain ⟨q1, _, _⟩ := valV_look _ ra la
      obtain ⟨u, h1, h2⟩ := q1 d h
      exact ⟨(fun z => by cases z), fun _ => ⟨a, u, rfl, .inl ⟨_, Sum.inl _, ha, hy.int, h1.symm⟩, q u h2⟩⟩
  · obtain ⟨a, xs, rfl, ha, ra, la, za⟩ := hx.dk s
    obtain ⟨q1, _, _⟩ := valV_look _ ra la
    obtain ⟨u, h1, h2⟩ := q1 d h
    exact ⟨(fun z => by cases z), fun _ => ⟨a, u, rfl, .inl ⟨_, Sum.inr _, ha, hy.str.1, h1.symm⟩, q u h2⟩⟩
  · rename_i ks ws ds
    cases e : keysOf ds with
    | none => rw [e] at h; cases h
    | some k =>
      rw [e] at h
      obtain ⟨a, xs, rfl, ha, ra, la, za⟩ := hx.dt s
      obtain ⟨b, ys, rfl, hb, ib, rb, zb⟩ := hy.tup s
      obtain ⟨q1, _, _⟩ := valV_look k ra la
      obtain ⟨u, h1, h2⟩ := q1 d h
      exact ⟨(fun z => by cases z), fun _ => ⟨a, u, rfl, .inr ⟨_, k, b, ha, rfl, by rw [hb, keysOf_v e rb], h1.symm⟩, q u h2⟩⟩
  · cases h
theorem cut_len {α : Type} (xs : List α) (lo hi : Option Int) : (cut xs lo hi).length ≤ xs.length := by
  unfold cut
  rw [List.length_take, List.length_drop]
  omega
theorem cut_mem {α : Type} {xs : List α} {lo hi : Option Int} {c : α} (h : c ∈ cut xs lo hi) : c ∈ xs := List.mem_of_mem_drop (List.mem_of_mem_take h)
theorem cut_map {α β : Type} (f : α → β) (xs : List α) (lo hi : Option Int) : cut (xs.map f) lo hi = (cut xs lo hi).map f := by
  unfold cut
  rw [List.length_map, List.map_take, List.map_drop]
/-- a slice -/
theorem slc_ok {x : D} {lo hi : Option Int} {k : Kd} {d : D} {v : V} (h : slcD x lo hi = some (k, d)) (s : Sub I H) (hx : See K I H x v) (q : ∀ u I' H', Ext I H I' H' → RK K B H I' H' k d u → Q u H') : rSl K v lo hi H Q := by
  unfold slcD at h
  split at h
  · cases h
    obtain ⟨a, xs, rfl, ha, ra, za⟩ := hx.lst s
    refine .inl ⟨a, xs, rfl, .inl (.inl ha), fun p hp => ?_⟩
    obtain ⟨e, r⟩ := rk_newL (B := B) s hp (ra.cut lo hi) (Nat.le_trans (cut_len _ _ _) za)
    exact q _ _ _ e r
  · cases h
    obtain ⟨a, xs, rfl, ha, ia, ra, za⟩ := hx.tup s
    refine .inr (.inl ⟨a, xs, rfl, .inl (.inl ha), fun e => ?_, fun _ p hp => ?_⟩)
    · rw [ra.len] at e
      refine q _ I H (Ext.refl s) (rk_fz (rep_tup ia ?_ (Nat.le_trans (cut_len _ _ _) za)))
      unfold cut
      rw [e.1, e.2, List.drop_zero, Nat.sub_zero, List.take_length]
      exact ra
    · obtain ⟨e, r⟩ := rk_newT s hp (ra.cut lo hi) (Nat.le_trans (cut_len _ _ _) za)
      exact q _ _ _ e r
  · cases h
    rename_i ns
    obtain ⟨a, rfl, ha, za⟩ := hx.scr s
    refine .inl ⟨a, _, rfl, ha, fun p hp => ?_⟩
    have r0 := (reps_ints (K := K) (I := I) ns).cut lo hi
    rw [cut_map] at r0
    obtain ⟨e, r⟩ := rk_newL (B := B) s hp r0 (by rw [List.length_map]; exact Nat.le_trans (cut_len _ _ _) za)
    exact q _ _ _ e r
  · cases h
    rename_i z
    obtain ⟨e1, h1, o1⟩ := hx.str
    refine .inr (.inr ⟨z, e1, le_line h1, q _ I H (Ext.refl s) (rk_fz ?_)⟩)
    have e2 : cutS z lo hi = ⟨(cut z.cps.toList lo hi).toArray⟩ := by
      unfold cutS cut
      rw [Array.length_toList]
      rfl
    rw [e2]
    refine rep_str ?_ ?_
    · show (cut z.cps.toList lo hi).toArray.size ≤ LINE
      rw [List.size_toArray]
      exact Nat.le_trans (cut_len _ _ _) (by rw [Array.length_toList]; exact h1)
    · unfold PyData.strOk at *
      rw [← Array.all_toList, List.all_eq_true] at o1 ⊢
      exact fun c hc => o1 c (cut_mem hc)
  · cases h
/-- truth -/
theorem tru_okD {d : D} {c : Bool} {v : V} (h : truD d = some c) (s : Sub I H) (hx : See K I H d v) : TruV K v H c := by
  cases d with
  | non => simp only [truD] at h; cases h; rw [hx.non]; rfl
  | bl b => simp only [truD] at h; cases h; rw [hx.bl]; rfl
  | int i => simp only [truD] at h; cases h; rw [hx.int]; rfl
  | str x =>
    simp only [truD] at h
    cases h
    obtain ⟨e1, h1, _⟩ := hx.str
    rw [e1]
    exact ⟨le_line h1, rfl⟩
  | tup ds =>
    simp only [truD] at h
    cases h
    obtain ⟨a, xs, rfl, ha, ia, ra, za⟩ := hx.tup s
    refine .inr (.inl ⟨xs, .inl (.inl ha), ?_⟩)
    have := ra.len
    cases ds <;> cases xs <;> first | rfl | simp at this
  | lst ds =>
    simp only [truD] at h
    cases h
    obtain ⟨a, xs, rfl, ha, ra, za⟩ := hx.lst s
    refine .inl ⟨xs, .inl (.inl ha), ?_⟩
    have := ra.len
    cases ds <;> cases xs <;> first | rfl | simp at this
  | scr ns =>
    simp only [truD] at h
    cases h
    obtain ⟨a, rfl, ha, za⟩ := hx.scr s
    refine .inl ⟨_, ha, ?_⟩
    cases ns <;> rfl
  | _ => simp only [truD] at h; cases h
end
end R

set_option linter.all false
set_option maxHeartbeats 1000000
/-! Built-in functions. -/
namespace R
open PySem L2
section
variable {K : PySem.W.Frag} {B : Bd} {I H I' H' : Hp} {Q : VK}
def Sees (K : PySem.W.Frag) (I H : Hp) : List D → List V → Prop
  | [], vs => vs = []
  | d :: ds, vs => ∃ v r, vs = v :: r ∧ See K I H d v ∧ Sees K I H ds r
theorem Sees.ext {ds : List D} {vs : List V} (h : Sees K I H ds vs) (e : Ext I H I' H') : Sees K I' H' ds vs := by
  induction ds generalizing vs with
  | nil => exact h
  | cons d ds ih =>
    obtain ⟨v, r, rfl, h1, h2⟩ := h
    exact ⟨v, r, rfl, h1.ext e, ih h2⟩
theorem Sees.one {d : D} {vs : List V} (h : Sees K I H [d] vs) : ∃ v, vs = [v] ∧ See K I H d v := by
  obtain ⟨v, r, rfl, h1, h2⟩ := h
  cases (h2 : r = [])
  exact ⟨v, rfl, h1⟩
theorem Sees.two {d e : D} {vs : List V} (h : Sees K I H [d, e] vs) : ∃ v w, vs = [v, w] ∧ See K I H d v ∧ See K I H e w := by
  obtain ⟨v, r, rfl, h1, h2⟩ := h
  obtain ⟨w, rfl, h3⟩ := h2.one
  exact ⟨v, w, rfl, h1, h3⟩
theorem Sees.zero {vs : List V} (h : Sees K I H [] vs) : vs = [] := h
theorem intsD_v : ∀ {ds : List D} {ns : List Int} {xs : List V}, intsD ds = some ns → Reps K I ds xs → xs = ns.map V.int ∧ ds = ns.map .int
  | [], ns, xs, h, r => by
    simp only [intsD] at h
    simp only [Reps] at r
    cases h
    exact ⟨r, rfl⟩
  | d :: ds, ns, xs, h, r => by
    simp only [Reps] at r
    obtain ⟨x, r', rfl, h1, h2⟩ := r
    cases d <;> simp only [intsD] at h <;> first | cases h | skip
    rename_i i
    cases e : intsD ds with
    | none => rw [e] at h; cases h
    | some ms =>
      rw [e] at h
      cases h
      obtain ⟨q1, q2⟩ := intsD_v e h2
      simp only [Rep] at h1
      rw [q1, h1, q2]
      exact ⟨rfl, rfl⟩
theorem boolsD_v : ∀ {ds : List D} {ns : List Bool} {xs : List V}, boolsD ds = some ns → Reps K I ds xs → xs = ns.map V.bl
  | [], ns, xs, h, r => by
    simp only [boolsD] at h
    simp only [Reps] at r
    cases h
    exact r
  | d :: ds, ns, xs, h, r => by
    simp only [Reps] at r
    obtain ⟨x, r', rfl, h1, h2⟩ := r
    cases d <;> simp only [boolsD] at h <;> first | cases h | skip
    rename_i i
    cases e : boolsD ds with
    | none => rw [e] at h; cases h
    | some ms =>
      rw [e] at h
      cases h
      have q1 := boolsD_v e h2
      simp only [Rep] at h1
      rw [q1, h1]
      rfl
theorem maxI_spec : ∀ {ns : List Int}, ns ≠ [] → maxI ns ∈ ns ∧ ∀ y ∈ ns, y ≤ maxI ns
  | [], h => absurd rfl h
  | [x], _ => by simp [maxI]
  | x :: y :: r, _ => by
    obtain ⟨h1, h2⟩ := maxI_spec (ns := y :: r) (by simp)
    show max x (maxI (y :: r)) ∈ x :: y :: r ∧ ∀ z ∈ x :: y :: r, z ≤ max x (maxI (y :: r))
    refine ⟨?_, fun z hz => ?_⟩
    · by_cases c : x ≤ maxI (y :: r)
      · rw [Int.max_eq_right c]
        exact List.mem_cons_of_mem _ h1
      · rw [Int.max_eq_left (by omega)]
        exact List.mem_cons_self
    · rcases List.mem_cons.mp hz with rfl | hz
      · omega
      · have := h2 z hz
        omega
theorem minI_spec : ∀ {ns : List Int}, ns ≠ [] → minI ns ∈ ns ∧ ∀ y ∈ ns, minI ns ≤ y
  | [], h => absurd rfl h
  | [x], _ => by simp [minI]
  | x :: y :: r, _ => by
    obtain ⟨h1, h2⟩ := minI_spec (ns := y :: r) (by simp)
    show min x (minI (y :: r)) ∈ x :: y :: r ∧ ∀ z ∈ x :: y :: r, min x (minI (y :: r)) ≤ z
    refine ⟨?_, fun z hz => ?_⟩
    · by_cases c : x ≤ minI (y :: r)
      · rw [Int.min_eq_left c]
        exact List.mem_cons_self
      · rw [Int.min_eq_right (by omega)]
        exact List.mem_cons_of_mem _ h1
    · rcases List.mem_cons.mp hz with rfl | hz
      · omega
      · have := h2 z hz
        omega
theorem len_ok {ds : List D} {k : Kd} {d : D} {vs : List V} (h : biD .len ds = some (k, d)) (s : Sub I H) (hx : Sees K I H ds vs) (q : ∀ u I' H', Ext I H I' H' → RK K B H I' H' k d u → Q u H') : rLen K vs H Q := by
  unfold biD at h
  split at h <;> first | (rename_i e; cases e; done) | skip
  all_goals first | (cases h; done) | skip
  · cases h
    obtain ⟨v, rfl, g⟩ := hx.one
    obtain ⟨a, xs, rfl, ha, ra, za⟩ := g.lst s
    exact ⟨_, _, rfl, .inl ⟨xs, .inl (.inl ha), rfl⟩, by rw [ra.len]; exact q _ I H (Ext.refl s) (rk_fz rep_int)⟩
  · cases h
    obtain ⟨v, rfl, g⟩ := hx.one
    obtain ⟨a, xs, rfl, ha, ia, ra, za⟩ := g.tup s
    exact ⟨_, _, rfl, .inr ⟨xs, .inl (.inl ha), rfl⟩, by rw [ra.len]; exact q _ I H (Ext.refl s) (rk_fz rep_int)⟩
  · cases h
    obtain ⟨v, rfl, g⟩ := hx.one
    obtain ⟨a, rfl, ha, za⟩ := g.scr s
    exact ⟨_, _, rfl, .inl ⟨_, ha, rfl⟩, by rw [List.length_map]; exact q _ I H (Ext.refl s) (rk_fz rep_int)⟩
  · cases h
    obtain ⟨v, rfl, g⟩ := hx.one
    obtain ⟨e1, h1, o1⟩ := g.str
    rw [e1]
    exact ⟨_, _, rfl, ⟨le_line h1, rfl⟩, q _ I H (Ext.refl s) (rk_fz rep_int)⟩

/-- rules of one argument, each by its cases -/
theorem tuple_ok {d0 : D} {k : Kd} {d : D} {v : V} (h : biD .tuple [d0] = some (k, d)) (s : Sub I H) (g : See K I H d0 v) (q : ∀ u I' H', Ext I H I' H' → RK K B H I' H' k d u → Q u H') : kTup K v H Q := by
  cases d0 <;> simp only [biD] at h <;> first | cases h | skip
  · obtain ⟨a, xs, rfl, ha, ia, ra, za⟩ := g.tup s
    exact .inr ⟨a, xs, rfl, .inl (.inl ha), q _ I H (Ext.refl s) (rk_fz (rep_tup ia ra za))⟩
  · obtain ⟨a, xs, rfl, ha, ra, za⟩ := g.lst s
    refine .inl ⟨a, xs, rfl, .inl (.inl ha), fun p hp => ?_⟩
    obtain ⟨e, r⟩ := rk_newT s hp ra za
    exact q _ _ _ e r
theorem dict_ok {ds : List D} {k : Kd} {d : D} {vs : List V} (h : biD .dict ds = some (k, d)) (s : Sub I H) (hx : Sees K I H ds vs) (q : ∀ u I' H', Ext I H I' H' → RK K B H I' H' k d u → Q u H') (n1 : ds.length = 1) : rDictT vs H Q := by
  match ds, n1 with
  | [d0], _ =>
    obtain ⟨v, rfl, g⟩ := hx.one
    cases d0 <;> simp only [biD] at h <;> first | cases h | skip
    rename_i ks ws
    split at h
    · rename_i sm
      cases h
      obtain ⟨a, xs, rfl, ha, ra, la, za, oa⟩ := g.dt s
      refine ⟨a, _, rfl, ha, by rw [List.map_fst_zip (Nat.le_of_eq la)]; exact sm, fun p hp => ?_⟩
      exact q _ _ _ (Ext.new s hp) ⟨⟨p, rfl, s.fresh hp, xs, upd_same, ra, la, za, oa⟩, p, rfl, fun a m => by rw [List.mem_singleton.mp m]; exact hp⟩
    · cases h
theorem int_ok {ds : List D} {k : Kd} {d : D} {vs : List V} (h : biD .int ds = some (k, d)) (s : Sub I H) (hx : Sees K I H ds vs) (q : ∀ u I' H', Ext I H I' H' → RK K B H I' H' k d u → Q u H') (n1 : ds.length = 1) : rInt vs H Q := by
  match ds, n1 with
  | [d0], _ =>
    obtain ⟨v, rfl, g⟩ := hx.one
    cases d0 <;> simp only [biD] at h <;> first | cases h | skip
    · exact .inl (.inr ⟨_, by rw [g.bl], q _ I H (Ext.refl s) (rk_fz rep_int)⟩)
    · exact .inl (.inl ⟨_, by rw [g.int], q _ I H (Ext.refl s) (rk_fz rep_int)⟩)
    · rename_i x _
      split at h
      · rename_i hz
        cases e : intText? x with
        | none => rw [e] at h; cases h
        | some n =>
          rw [e] at h
          cases h
          exact .inr ⟨x, n, by rw [g.str.1], e, hz, q _ I H (Ext.refl s) (rk_fz rep_int)⟩
      · cases h
theorem rep_okS {x : Str} (h : okS x = true) : Rep K I (.str x) (.str x) := by
  simp only [okS, Bool.and_eq_true, decide_eq_true_eq] at h
  exact rep_str h.1 h.2
/-! the keys of a dict, as data -/
theorem okK_rep {I : Hp} {k : Key} (h : okK k = true) : Rep K I (dOfKey k) (kV k) := by
  cases k with
  | inl i => exact rep_int
  | inr x => exact rep_okS h
theorem okKs_rep {I : Hp} : ∀ {k : List Key}, k.all okK = true → Reps K I (k.map dOfKey) (k.map kV)
  | [], _ => Reps.nil
  | k :: ks, h => by
    simp only [List.all_cons, Bool.and_eq_true] at h
    exact Reps.cons (okK_rep h.1) (okKs_rep h.2)
theorem nref_kV0 (k : List Key) : (k.map kV).all nref = true := by
  rw [List.all_eq_true]
  intro x h
  obtain ⟨q, _, rfl⟩ := List.mem_map.mp h
  cases q <;> rfl
theorem keys_frozen {I H : Hp} (s : Sub I H) : ∀ {ks : List (List Key)} {xs : List V} {bs : List Addr}, ks.length = xs.length → ks.all okKs = true → IsKeys H (ks.zip xs) bs → ∃ I', Ext I H I' H ∧ Reps K I' (ks.map fun k => .tup (k.map dOfKey)) (bs.map V.ref)
  | [], xs, bs, _, _, h => by
    rw [List.zip_nil_left] at h
    cases h
    exact ⟨I, Ext.refl s, Reps.nil⟩
  | k :: ks, [], bs, l, _, _ => by cases l
  | k :: ks, x :: xs, bs, l, o, h => by
    rw [List.zip_cons_cons] at h
    rw [List.all_cons, Bool.and_eq_true] at o
    unfold IsKeys at h
    cases h with
    | cons h1 h2 =>
      rename_i b bs'
      obtain ⟨I1, e1, r1⟩ := keys_frozen s (ks := ks) (xs := xs) (by simpa using l) o.2 h2
      have hk2 := o.1
      simp only [okKs, Bool.and_eq_true, decide_eq_true_eq] at hk2
      have hq : H b = some (.tup (k.map kV)) := h1
      rw [List.map_cons, List.map_cons]
      cases e : I1 b with
      | none =>
        have x2 := e1.freezeT hq (nref_kV0 _) e
        have mono : ∀ c o, I1 c = some o → upd I1 b (.tup (k.map kV)) c = some o := fun c o hc => by
          rw [upd_ne (ne_of_none hc e)]
          exact hc
        exact ⟨_, x2, Reps.cons (rep_tup upd_same (okKs_rep hk2.2) (by rw [List.length_map]; exact hk2.1)) (r1.mono mono _ _)⟩
      | some u =>
        have : u = .tup (k.map kV) := by
          rcases e1.su b u e with z | ⟨z, od', z2⟩
          · rw [hq] at z
            cases z
            rfl
          · rw [hq] at z2
            cases z2
        subst this
        exact ⟨I1, e1, Reps.cons (rep_tup e (okKs_rep hk2.2) (by rw [List.length_map]; exact hk2.1)) r1⟩
theorem list_ok {ds : List D} {k : Kd} {d : D} {vs : List V} (h : biD .list ds = some (k, d)) (s : Sub I H) (hx : Sees K I H ds vs) (q : ∀ u I' H', Ext I H I' H' → RK K B H I' H' k d u → Q u H') (n1 : ds.length = 1) : rList K vs H Q := by
  match ds, n1 with
  | [d0], _ =>
    obtain ⟨v, rfl, g⟩ := hx.one
    cases d0 <;> simp only [biD] at h <;> first | cases h | skip
    · obtain ⟨a, xs, rfl, ha, ia, ra, za⟩ := g.tup s
      refine .inl ⟨a, xs, rfl, .inr (.inl (.inl ha)), fun p hp => ?_⟩
      obtain ⟨e, r⟩ := rk_newL (B := B) s hp ra za
      exact q _ _ _ e r
    · obtain ⟨a, xs, rfl, ha, ra, za⟩ := g.lst s
      refine .inl ⟨a, xs, rfl, .inl (.inl (.inl ha)), fun p hp => ?_⟩
      obtain ⟨e, r⟩ := rk_newL (B := B) s hp ra za
      exact q _ _ _ e r
    · obtain ⟨a, xs, rfl, ha, ra, la, za, oa⟩ := g.dk s
      refine .inr (.inl ⟨a, _, rfl, ha, fun p hp => ?_⟩)
      have e0 : ∀ ks : List Key, ks.length = xs.length → ((ks.zip xs).map fun kv => kV kv.1) = ks.map kV := fun ks la => by
        have e1 : (ks.zip xs).map (fun kv => kV kv.1) = ((ks.zip xs).map (·.1)).map kV := by rw [List.map_map]; rfl
        rw [e1, List.map_fst_zip (Nat.le_of_eq la)]
      rw [e0 _ la]
      obtain ⟨e, r⟩ := rk_newL (B := B) s hp (okKs_rep (K := K) (I := I) oa) (by rw [List.length_map]; exact za)
      exact q _ _ _ e r
    · obtain ⟨a, xs, rfl, ha, ra, la, za, oa⟩ := g.dt s
      refine .inr (.inr ⟨a, _, rfl, ha, fun p bs hp hk => ?_⟩)
      obtain ⟨I', e1, r1⟩ := keys_frozen (K := K) s la oa hk
      obtain ⟨e, r⟩ := rk_newL (B := B) e1.su hp r1 (by rw [List.length_map]; exact za)
      exact q _ _ _ (e1.trans e) r
    · obtain ⟨a, rfl, ha, za⟩ := g.scr s
      refine .inl ⟨a, _, rfl, .inl ha, fun p hp => ?_⟩
      obtain ⟨e, r⟩ := rk_newL (B := B) s hp (reps_ints (K := K) (I := I) _) (by rw [List.length_map]; exact za)
      exact q _ _ _ e r
theorem str_ok {ds : List D} {k : Kd} {d : D} {vs : List V} (h : biD .str ds = some (k, d)) (s : Sub I H) (hx : Sees K I H ds vs) (q : ∀ u I' H', Ext I H I' H' → RK K B H I' H' k d u → Q u H') (n1 : ds.length = 1) : rStr vs H Q := by
  match ds, n1 with
  | [d0], _ =>
    obtain ⟨v, rfl, g⟩ := hx.one
    cases d0 <;> simp only [biD] at h <;> first | cases h | skip
    split at h
    · rename_i hz
      cases h
      exact ⟨_, by rw [g.int], hz.1, q _ I H (Ext.refl s) (rk_fz (rep_okS hz.2))⟩
    · cases h
theorem all_ok {ds : List D} {k : Kd} {d : D} {vs : List V} (h : biD .all ds = some (k, d)) (s : Sub I H) (hx : Sees K I H ds vs) (q : ∀ u I' H', Ext I H I' H' → RK K B H I' H' k d u → Q u H') (n1 : ds.length = 1) : rAll K vs H Q := by
  match ds, n1 with
  | [d0], _ =>
    obtain ⟨v, rfl, g⟩ := hx.one
    cases d0 <;> simp only [biD] at h <;> first | cases h | skip
    rename_i xs0 _
    obtain ⟨a, xs, rfl, ha, ra, za⟩ := g.lst s
    cases e : boolsD xs0 with
    | none => rw [e] at h; cases h
    | some bs =>
      rw [e] at h
      cases h
      exact ⟨a, bs, rfl, by rw [← boolsD_v e ra]; exact .inl (.inl ha), q _ I H (Ext.refl s) (rk_fz rep_bl)⟩
theorem sum_ok {ds : List D} {k : Kd} {d : D} {vs : List V} (h : biD .sum ds = some (k, d)) (s : Sub I H) (hx : Sees K I H ds vs) (q : ∀ u I' H', Ext I H I' H' → RK K B H I' H' k d u → Q u H') (n1 : ds.length = 1) : rSum K vs H Q := by
  match ds, n1 with
  | [d0], _ =>
    obtain ⟨v, rfl, g⟩ := hx.one
    cases d0 <;> simp only [biD] at h <;> first | cases h | skip
    rename_i xs0 _
    obtain ⟨a, xs, rfl, ha, ra, za⟩ := g.lst s
    cases e : intsD xs0 with
    | none => rw [e] at h; cases h
    | some bs =>
      rw [e] at h
      cases h
      exact ⟨a, bs, rfl, by rw [← (intsD_v e ra).1]; exact .inl (.inl ha), q _ I H (Ext.refl s) (rk_fz rep_int)⟩
theorem max_ok {ds : List D} {k : Kd} {d : D} {vs : List V} (h : biD .max ds = some (k, d)) (s : Sub I H) (hx : Sees K I H ds vs) (q : ∀ u I' H', Ext I H I' H' → RK K B H I' H' k d u → Q u H') : rMax1 K vs H Q := by
  match ds with
  | [d0] =>
    obtain ⟨v, rfl, g⟩ := hx.one
    cases d0 <;> simp only [biD] at h <;> first | cases h | skip
    rename_i xs0
    obtain ⟨a, xs, rfl, ha, ra, za⟩ := g.lst s
    cases e : intsD xs0 with
    | none => rw [e] at h; cases h
    | some bs =>
      rw [e] at h
      have h : (if bs = [] then none else some (Kd.fz, D.int (maxI bs))) = some (k, d) := h
      split at h
      · cases h
      · rename_i hz
        cases h
        obtain ⟨m1, m2⟩ := maxI_spec hz
        refine .inr ⟨a, bs, rfl, by rw [← (intsD_v e ra).1]; exact .inl (.inl ha), List.length_pos_iff.mpr hz, fun m hm hle => ?_⟩
        have : m = maxI bs := Int.le_antisymm (m2 m hm) (hle _ m1)
        rw [this]
        exact q _ I H (Ext.refl s) (rk_fz rep_int)
  | [d0, d1] =>
    obtain ⟨v, w, rfl, g, g'⟩ := hx.two
    cases d0 <;> (try simp only [biD] at h) <;> first | cases h | skip
    cases d1 <;> (try simp only [biD] at h) <;> first | cases h | skip
    exact .inl ⟨_, _, by rw [g.int, g'.int], q _ I H (Ext.refl s) (rk_fz rep_int)⟩
  | [] => simp only [biD] at h; cases h
  | _ :: _ :: _ :: _ => simp only [biD] at h; cases h
theorem min_ok {ds : List D} {k : Kd} {d : D} {vs : List V} (h : biD .min ds = some (k, d)) (s : Sub I H) (hx : Sees K I H ds vs) (q : ∀ u I' H', Ext I H I' H' → RK K B H I' H' k d u → Q u H') : rMin1 K vs H Q := by
  match ds with
  | [d0] =>
    obtain ⟨v, rfl, g⟩ := hx.one
    cases d0 <;> simp only [biD] at h <;> first | cases h | skip
    rename_i xs0
    obtain ⟨a, xs, rfl, ha, ra, za⟩ := g.lst s
    cases e : intsD xs0 with
    | none => rw [e] at h; cases h
    | some bs =>
      rw [e] at h
      have h : (if bs = [] then none else some (Kd.fz, D.int (minI bs))) = some (k, d) := h
      split at h
      · cases h
      · rename_i hz
        cases h
        obtain ⟨m1, m2⟩ := minI_spec hz
        refine .inr ⟨a, bs, rfl, by rw [← (intsD_v e ra).1]; exact .inl (.inl ha), List.length_pos_iff.mpr hz, fun m hm hle => ?_⟩
        have : m = minI bs := Int.le_antisymm (hle _ m1) (m2 m hm)
        rw [this]
        exact q _ I H (Ext.refl s) (rk_fz rep_int)
  | [d0, d1] =>
    obtain ⟨v, w, rfl, g, g'⟩ := hx.two
    cases d0 <;> (try simp only [biD] at h) <;> first | cases h | skip
    cases d1 <;> (try simp only [biD] at h) <;> first | cases h | skip
    exact .inl ⟨_, _, by rw [g.int, g'.int], q _ I H (Ext.refl s) (rk_fz rep_int)⟩
  | [] => simp only [biD] at h; cases h
  | _ :: _ :: _ :: _ => simp only [biD] at h; cases h
/-- a value's type -/
def tyD : D → String
  | .non => "NoneType" | .bl _ => "bool" | .int _ => "int" | .str _ => "str" | .tup _ => "tuple" | .lst _ => "list" | .scr _ => "list" | _ => "dict"
theorem ty_ok {d : D} {v : V} (s : Sub I H) (g : See K I H d v) (n1 : ∀ a b, d ≠ .dk a b) (n2 : ∀ a b, d ≠ .dt a b) (n3 : ∀ a, d ≠ .exc a) (n4 : ∀ a b c e, d ≠ .ob a b c e) (n5 : ∀ a b c, d ≠ .io a b c) : TyX K H v (.type (tyD d)) := by
  cases d with
  | non => rw [g.non]; exact .base .non
  | bl b => rw [g.bl]; exact .base (.bl b)
  | int i => rw [g.int]; exact .base (.int i)
  | str x => rw [g.str.1]; exact .base (.str x)
  | tup ds =>
    obtain ⟨a, xs, rfl, ha, ia, ra, za⟩ := g.tup s
    exact .base (.tup ha)
  | lst ds =>
    obtain ⟨a, xs, rfl, ha, ra, za⟩ := g.lst s
    exact .base (.lst ha)
  | scr ns =>
    obtain ⟨a, rfl, ha, za⟩ := g.scr s
    rcases ha with (ha | ⟨o, ha⟩) | ⟨o, its, n, ho, hc, _⟩
    · exact .base (.lst ha)
    · exact .base (.frz ha)
    · exact .kList ho hc
  | dk a b => exact absurd rfl (n1 a b)
  | dt a b => exact absurd rfl (n2 a b)
  | exc a => exact absurd rfl (n3 a)
  | ob a b c e => exact absurd rfl (n4 a b c e)
  | io a b c => exact absurd rfl (n5 a b c)
theorem isi_ok {b : BI} {d : D} {c : Bool} {v : V} (h : isD b d = some c) (s : Sub I H) (g : See K I H d v) (q : Q (.bl c) H) : rIsi K [v, .ty (tyNm b)] H Q := by
  have key : kitB (tyD d) (tyNm b) = some c → rIsi K [v, .ty (tyNm b)] H Q := fun e =>
    ⟨v, .ty _, _, _, c, rfl, .ty _, ty_ok s g (fun x y z => by rw [z] at h; cases b <;> simp only [isD] at h <;> cases h) (fun x y z => by rw [z] at h; cases b <;> simp only [isD] at h <;> cases h) (fun x z => by rw [z] at h; cases b <;> simp only [isD] at h <;> cases h) (fun x y z u w => by rw [w] at h; cases b <;> simp only [isD] at h <;> cases h) (fun x y z u => by rw [u] at h; cases b <;> simp only [isD] at h <;> cases h), kit_ty e, q⟩
  cases b <;> cases d <;> simp only [isD] at h <;> first | (cases h; done) | (cases h; exact key (by simp only [tyD, tyNm]; decide +kernel))
theorem isx_ok {tp : Bool} {rz cs : List Str} {d0 : D} {k : Kd} {d : D} {v : V} (h : biD (.isExc tp rz cs) [d0] = some (k, d)) (s : Sub I H) (g : See K I H d0 v) (q : ∀ u I' H', Ext I H I' H' → RK K B H I' H' k d u → Q u H') :
    ∃ (a : Addr) (c : Str) (b : Bool) (cls : Value) (dd : Option Addr), v = .ref a ∧ ExAs K H c cls dd ∧ H a = some (ExHD cls dd a) ∧ excC c ∈ rz ∧ excAny (excC c) cs = some b ∧ ∀ I' H', Ext I H I' H' → Q (.bl b) H' := by
  cases d0 <;> simp only [biD] at h <;> first | cases h | skip
  rename_i c
  split at h
  · rename_i hc
    cases e : excAny (excC c) cs with
    | none => rw [e] at h; cases h
    | some b =>
      rw [e] at h
      cases h
      obtain ⟨a, cls, dd, rfl, h0, ha⟩ := g.exc s
      exact ⟨a, c, b, cls, dd, rfl, h0, ha, hc, e, fun I' H' x => q _ I' H' x (rk_fz rep_bl)⟩
  · cases h
theorem rangeL_len (a b : Int) : (rangeL a b).length = (b - a).toNat := by unfold rangeL; rw [List.length_map, List.length_range]
theorem rgV_eq (a b : Int) : rgV a b = (rangeL a b).map V.int := by
  unfold rgV rangeL
  rw [List.map_map]
  rfl
theorem small62_iff {i : Int} : small62 i = true ↔ -(2 ^ 62) ≤ i ∧ i < 2 ^ 62 := by
  simp only [small62, Bool.and_eq_true, decide_eq_true_eq]
end
end R

set_option linter.all false
set_option maxHeartbeats 2000000
/-! sorted(..) -/
namespace R
open PySem L2
theorem insI_perm (x : Int) : ∀ xs, (insI x xs).Perm (x :: xs)
  | [] => List.Perm.refl _
  | y :: ys => by
    rw [insI]
    split
    · exact List.Perm.refl _
    · exact ((insI_perm x ys).cons y).trans (List.Perm.swap x y ys)
theorem sortI_perm : ∀ xs : List Int, (sortI xs).Perm xs
  | [] => List.Perm.refl _
  | x :: xs => (insI_perm x _).trans ((sortI_perm xs).cons x)
theorem insI_pw (x : Int) : ∀ {xs : List Int}, xs.Pairwise (· ≤ ·) → (insI x xs).Pairwise (· ≤ ·)
  | [], _ => by
    rw [insI]
    exact List.pairwise_singleton _ _
  | y :: ys, h => by
    rw [insI]
    have h2 := List.pairwise_cons.mp h
    split
    · rename_i hxy
      refine List.pairwise_cons.mpr ⟨fun z hz => ?_, h⟩
      rcases List.mem_cons.mp hz with rfl | hz
      · exact hxy
      · exact Int.le_trans hxy (h2.1 z hz)
    · rename_i hxy
      refine List.pairwise_cons.mpr ⟨fun z hz => ?_, insI_pw x h2.2⟩
      rcases List.mem_cons.mp ((insI_perm x ys).mem_iff.mp hz) with rfl | hz
      · omega
      · exact h2.1 z hz
theorem sortI_pw : ∀ xs : List Int, (sortI xs).Pairwise (· ≤ ·)
  | [] => List.Pairwise.nil
  | x :: xs => insI_pw x (sortI_pw xs)
theorem sortI_uniq {ns ms : List Int} (h : ms.Perm ns) (p : ms.Pairwise (· ≤ ·)) : ms = sortI ns :=
  List.Perm.eq_of_pairwise (le := (· ≤ ·)) (fun a b _ _ h1 h2 => Int.le_antisymm h1 h2) p (sortI_pw ns) (h.trans (sortI_perm ns).symm)
/-! pairs -/
theorem leP_iff {x y : Int × Int} : leP x y = true ↔ x.1 < y.1 ∨ (x.1 = y.1 ∧ x.2 ≤ y.2) := by
  simp only [leP, Bool.or_eq_true, Bool.and_eq_true, decide_eq_true_eq]
theorem insP_perm (x : Int × Int) : ∀ xs, (insP x xs).Perm (x :: xs)
  | [] => List.Perm.refl _
  | y :: ys => by
    rw [insP]
    split
    · exact List.Perm.refl _
    · exact ((insP_perm x ys).cons y).trans (List.Perm.swap x y ys)
theorem sortP_perm : ∀ xs : List (Int × Int), (sortP xs).Perm xs
  | [] => List.Perm.refl _
  | x :: xs => (insP_perm x _).trans ((sortP_perm xs).cons x)
theorem insP_pw (x : Int × Int) : ∀ {xs : List (Int × Int)}, xs.Pairwise (fun a b => leP a b = true) → (insP x xs).Pairwise (fun a b => leP a b = true)
  | [], _ => by
    rw [insP]
    exact List.pairwise_singleton _ _
  | y :: ys, h => by
    rw [insP]
    have h2 := List.pairwise_cons.mp h
    split
    · rename_i hxy
      refine List.pairwise_cons.mpr ⟨fun z hz => ?_, h⟩
      rcases List.mem_cons.mp hz with rfl | hz
      · exact hxy
      · have a := leP_iff.mp hxy
        have b := leP_iff.mp (h2.1 z hz)
        exact leP_iff.mpr (by omega)
    · rename_i hxy
      refine List.pairwise_cons.mpr ⟨fun z hz => ?_, insP_pw x h2.2⟩
      rcases List.mem_cons.mp ((insP_perm x ys).mem_iff.mp hz) with rfl | hz
      · have a : ¬ _ := fun q => hxy (leP_iff.mpr q)
        exact leP_iff.mpr (by omega)
      · exact h2.1 z hz
theorem sortP_pw : ∀ xs : List (Int × Int), (sortP xs).Pairwise (fun a b => leP a b = true)
  | [] => List.Pairwise.nil
  | x :: xs => insP_pw x (sortP_pw xs)
theorem sortP_uniq {ns ms : List (Int × Int)} (h : ms.Perm ns) (p : ms.Pairwise (fun a b => leP a b = true)) : ms = sortP ns :=
  List.Perm.eq_of_pairwise (le := fun a b => leP a b = true) (fun a b _ _ h1 h2 => by
    have a1 := leP_iff.mp h1
    have a2 := leP_iff.mp h2
    exact Prod.ext (by omega) (by omega)) p (sortP_pw ns) (h.trans (sortP_perm ns).symm)
section
variable {K : PySem.W.Frag} {I H : Hp} {B : Bd}
def keyV (H : Hp) : V → Int × Int
  | .ref t => match H t with
    | some (.tup [.int i, .int j]) => (i, j)
    | _ => (0, 0)
  | _ => (0, 0)
theorem pair_key {p : Int × Int} {x : V} (s : Sub I H) (r : Rep K I (ofPair p) x) : keyV H x = p ∧ ∃ t, x = .ref t ∧ H t = some (.tup [.int p.1, .int p.2]) := by
  unfold ofPair at r
  simp only [Rep] at r
  obtain ⟨a, xs, rfl, h1, h2, _⟩ := r
  simp only [Reps] at h2
  obtain ⟨x1, r1, rfl, e1, x2, r2, rfl, e2, e3⟩ := h2
  simp only [Rep] at e1 e2
  subst e1 e2 e3
  rcases s a _ h1 with q | ⟨q, _⟩
  · exact ⟨by simp only [keyV, q], a, rfl, q⟩
  · cases q
theorem pairs_key (s : Sub I H) : ∀ {ps : List (Int × Int)} {xs : List V}, Reps K I (ps.map ofPair) xs → xs.map (keyV H) = ps ∧ ∀ x ∈ xs, (∃ t, x = .ref t ∧ H t = some (.tup [.int (keyV H x).1, .int (keyV H x).2])) ∧ Rep K I (ofPair (keyV H x)) x
  | [], xs, r => by
    rw [List.map_nil] at r
    simp only [Reps] at r
    subst r
    exact ⟨rfl, fun x m => nomatch m⟩
  | p :: ps, xs, r => by
    rw [List.map_cons] at r
    simp only [Reps] at r
    obtain ⟨x, r', rfl, h1, h2⟩ := r
    obtain ⟨k1, k2⟩ := pairs_key s h2
    obtain ⟨e1, t, e2, e3⟩ := pair_key s h1
    refine ⟨by rw [List.map_cons, k1, e1], fun y m => ?_⟩
    rcases List.mem_cons.mp m with rfl | m
    · rw [e1]
      exact ⟨⟨t, e2, e3⟩, h1⟩
    · exact k2 y m
theorem reps_of {f : V → D} : ∀ {ys : List V}, (∀ y ∈ ys, Rep K I (f y) y) → Reps K I (ys.map f) ys
  | [], _ => Reps.nil
  | y :: ys, h => Reps.cons (h y List.mem_cons_self) (reps_of fun z m => h z (List.mem_cons_of_mem _ m))
theorem pairsD_eq : ∀ {ds : List D} {ps : List (Int × Int)}, pairsD ds = some ps → ds = ps.map ofPair
  | [], ps, h => by
    simp only [pairsD] at h
    cases h
    rfl
  | d :: ds, ps, h => by
    unfold pairsD at h
    split at h
    · cases h; rename_i e; cases e
    · rename_i i j ds' e
      cases e
      cases q : pairsD ds with
      | none => rw [q] at h; cases h
      | some ps' =>
        rw [q] at h
        cases h
        rw [pairsD_eq q]
        rfl
    · cases h
theorem pairs_refs (s : Sub I H) : ∀ {ps : List (Int × Int)} {ys : List V}, Reps K I (ps.map ofPair) ys → ∃ ks : List (Addr × List Int), ys = ks.map (fun q => V.ref q.1) ∧ ks.map (·.2) = ps.map (fun p => [p.1, p.2]) ∧ (∀ q ∈ ks, H q.1 = some (.tup (q.2.map V.int))) ∧ ∀ q ∈ ks, ∃ p ∈ ps, q.2 = [p.1, p.2]
  | [], ys, r => by
    rw [List.map_nil] at r
    simp only [Reps] at r
    subst r
    exact ⟨[], rfl, rfl, (fun q m => nomatch m), (fun q m => nomatch m)⟩
  | p :: ps, ys, r => by
    rw [List.map_cons] at r
    simp only [Reps] at r
    obtain ⟨x, r', rfl, h1, h2⟩ := r
    obtain ⟨ks, k1, k2, k3, k4⟩ := pairs_refs s h2
    obtain ⟨_, t, e2, e3⟩ := pair_key s h1
    refine ⟨(t, [p.1, p.2]) :: ks, by rw [List.map_cons, ← k1, e2], by rw [List.map_cons, List.map_cons, k2], fun q m => ?_, fun q m => ?_⟩
    · rcases List.mem_cons.mp m with rfl | m
      · exact e3
      · exact k3 q m
    · rcases List.mem_cons.mp m with rfl | m
      · exact ⟨p, List.mem_cons_self, rfl⟩
      · obtain ⟨p', m', e⟩ := k4 q m
        exact ⟨p', List.mem_cons_of_mem _ m', e⟩
/-! tuples of ints -/
theorem insT_perm (x : List Int) : ∀ xs, (insT x xs).Perm (x :: xs)
  | [] => List.Perm.refl _
  | y :: ys => by
    rw [insT]
    split
    · exact List.Perm.refl _
    · exact ((insT_perm x ys).cons y).trans (List.Perm.swap x y ys)
theorem sortT_perm : ∀ xs : List (List Int), (sortT xs).Perm xs
  | [] => List.Perm.refl _
  | x :: xs => (insT_perm x _).trans ((sortT_perm xs).cons x)
theorem insT_pw (x : List Int) : ∀ {xs : List (List Int)}, xs.Pairwise (fun a b => HT.lexLt b a = false) → (insT x xs).Pairwise (fun a b => HT.lexLt b a = false)
  | [], _ => by
    rw [insT]
    exact List.pairwise_singleton _ _
  | y :: ys, h => by
    rw [insT]
    have h2 := List.pairwise_cons.mp h
    split
    · rename_i hxy
      refine List.pairwise_cons.mpr ⟨fun z hz => ?_, h⟩
      rcases List.mem_cons.mp hz with rfl | hz
      · exact hxy
      · exact NtL.lex_tr _ _ _ hxy (h2.1 z hz)
    · rename_i hxy
      refine List.pairwise_cons.mpr ⟨fun z hz => ?_, insT_pw x h2.2⟩
      rcases List.mem_cons.mp ((insT_perm x ys).mem_iff.mp hz) with rfl | hz
      · exact NtL.lex_asym _ _ (by cases e : HT.lexLt y z with | true => rfl | false => exact absurd e hxy)
      · exact h2.1 z hz
theorem sortT_pw : ∀ xs : List (List Int), (sortT xs).Pairwise (fun a b => HT.lexLt b a = false)
  | [] => List.Pairwise.nil
  | x :: xs => insT_pw x (sortT_pw xs)
theorem lex_anti : ∀ {a b : List Int}, HT.lexLt b a = false → HT.lexLt a b = false → a = b
  | [], [], _, _ => rfl
  | [], y :: ys, _, h => by rw [HT.lexLt_nil_cons] at h; cases h
  | x :: xs, [], h, _ => by rw [HT.lexLt_nil_cons] at h; cases h
  | x :: xs, y :: ys, h1, h2 => by
    rw [HT.lexLt_cons] at h1 h2
    by_cases e : x = y
    · rw [if_pos e] at h2
      rw [if_pos e.symm] at h1
      rw [e, lex_anti h1 h2]
    · rw [if_neg e] at h2
      rw [if_neg (Ne.symm e)] at h1
      have a := of_decide_eq_false h1
      have b := of_decide_eq_false h2
      omega
theorem sortT_uniq {ns ms : List (List Int)} (h : ms.Perm ns) (p : ms.Pairwise (fun a b => HT.lexLt b a = false)) : ms = sortT ns :=
  List.Perm.eq_of_pairwise (le := fun a b => HT.lexLt b a = false) (fun a b _ _ h1 h2 => lex_anti h1 h2) p (sortT_pw ns) (h.trans (sortT_perm ns).symm)
def vInt : V → Int
  | .int i => i
  | _ => 0
def keyT (H : Hp) : V → List Int
  | .ref t => match H t with
    | some (.tup vs) => vs.map vInt
    | _ => []
  | _ => []
theorem intsD_eq : ∀ {ds : List D} {ns : List Int}, intsD ds = some ns → ds = ns.map .int
  | [], ns, h => by
    simp only [intsD] at h
    cases h
    rfl
  | d :: ds, ns, h => by
    cases d <;> simp only [intsD] at h <;> first | cases h | skip
    cases e : intsD ds with
    | none => rw [e] at h; cases h
    | some ms =>
      rw [e] at h
      cases h
      rw [intsD_eq e]
      rfl
theorem tupsD_eq : ∀ {ds : List D} {ps : List (List Int)}, tupsD ds = some ps → ds = ps.map ofInts
  | [], ps, h => by
    simp only [tupsD] at h
    cases h
    rfl
  | d :: ds, ps, h => by
    unfold tupsD at h
    split at h
    · cases h; rename_i e; cases e
    · rename_i xs ds' e
      cases e
      split at h
      · rename_i ns en
        cases q : tupsD ds with
        | none => rw [q] at h; cases h
        | some ps' =>
          rw [q] at h
          cases h
          rw [tupsD_eq q, intsD_eq en]
          rfl
      · cases h
    · cases h
theorem tup_key {p : List Int} {x : V} (s : Sub I H) (r : Rep K I (ofInts p) x) : keyT H x = p ∧ ∃ t, x = .ref t ∧ SqT K H t (p.map V.int) := by
  unfold ofInts at r
  simp only [Rep] at r
  obtain ⟨a, xs, rfl, h1, h2, h3⟩ := r
  have e : xs = p.map V.int := by
    clear h1 h3
    induction p generalizing xs with
    | nil =>
      simp only [List.map_nil, Reps] at h2
      exact h2
    | cons i p ih =>
      simp only [List.map_cons, Reps] at h2
      obtain ⟨x, r', rfl, e1, e2⟩ := h2
      simp only [Rep] at e1
      rw [e1, ih r' e2]
      rfl
  subst e
  rcases s a _ h1 with q | ⟨q, _⟩
  · refine ⟨?_, a, rfl, ?_⟩
    · simp only [keyT, q, List.map_map]
      exact (List.map_congr_left fun i _ => rfl).trans (List.map_id p)
    · first | exact .inl (.inl q) | exact .inl q | exact .inl (.inl (.inl q))
  · cases q
theorem tups_key (s : Sub I H) : ∀ {ps : List (List Int)} {xs : List V}, Reps K I (ps.map ofInts) xs → xs.map (keyT H) = ps ∧ ∀ x ∈ xs, (∃ t, x = .ref t ∧ SqT K H t ((keyT H x).map V.int)) ∧ Rep K I (ofInts (keyT H x)) x
  | [], xs, r => by
    rw [List.map_nil] at r
    simp only [Reps] at r
    subst r
    exact ⟨rfl, fun x m => nomatch m⟩
  | p :: ps, xs, r => by
    rw [List.map_cons] at r
    simp only [Reps] at r
    obtain ⟨x, r', rfl, h1, h2⟩ := r
    obtain ⟨k1, k2⟩ := tups_key s h2
    obtain ⟨e1, t, e2, e3⟩ := tup_key s h1
    refine ⟨by rw [List.map_cons, k1, e1], fun y m => ?_⟩
    rcases List.mem_cons.mp m with rfl | m
    · rw [e1]
      exact ⟨⟨t, e2, e3⟩, h1⟩
    · exact k2 y m
theorem sorted_ok {ds : List D} {k : Kd} {d : D} {vs : List V} (h : biD .sorted ds = some (k, d)) (s : Sub I H) (hx : Sees K I H ds vs) (q : ∀ u I' H', Ext I H I' H' → RK K B H I' H' k d u → Q u H') (n1 : ds.length = 1) : rSortedI K vs H Q ∨ (rSortedPO K vs H Q ∨ rSortedTL K vs H Q) := by
  match ds, n1 with
  | [d0], _ =>
    obtain ⟨v, rfl, g⟩ := hx.one
    cases d0 <;> simp only [biD] at h <;> first | cases h | skip
    rename_i xs0 _
    obtain ⟨a, xs, rfl, ha, ra, za⟩ := g.lst s
    cases e5 : intsD xs0 with
    | some ns =>
      rw [e5] at h
      cases h
      obtain ⟨rfl, rfl⟩ := intsD_v e5 ra
      refine .inl ⟨a, ns, rfl, .inl (.inl ha), fun ms p h1 h2 hp => ?_⟩
      rw [sortI_uniq h1 h2]
      have zl : ((sortI ns).map D.int).length ≤ LINE := by
        rw [List.length_map, (sortI_perm ns).length_eq]
        rw [List.length_map] at za
        exact za
      obtain ⟨e, r⟩ := rk_newL (B := B) s hp (reps_ints (K := K) (I := I) (sortI ns)) zl
      exact q _ _ _ e r
    | none =>
      rw [e5] at h
      cases e6 : pairsD xs0 with
      | none =>
        rw [e6] at h
        cases e7 : tupsD xs0 with
        | none => rw [e7] at h; cases h
        | some tl =>
          rw [e7] at h
          match tl, e7, h with
          | [] :: ls, e7, h =>
            cases h
            have e8 := tupsD_eq e7
            subst e8
            obtain ⟨k1, k2⟩ := tups_key s ra
            cases xs with
            | nil => rw [List.map_nil] at k1; cases k1
            | cons x0 xs =>
              have hk0 : keyT H x0 = [] := by
                rw [List.map_cons] at k1
                exact (List.cons.inj k1).1
              refine .inr (.inr ⟨a, x0, xs, keyT H, rfl, .inl (.inl ha), hk0, fun x m => (k2 x m).1, fun ys p h1 h2 hp => ?_⟩)
              have hm : ∀ y ∈ ys, Rep K I (ofInts (keyT H y)) y := fun y m => (k2 y (h2.perm.mem_iff.mp m)).2
              have e8 : ys.map (keyT H) = sortT ([] :: ls) := by
                refine sortT_uniq ?_ ?_
                · rw [← k1]
                  exact h2.perm.map _
                · exact List.pairwise_map.mpr (h1.imp fun {x y} z => z)
              have rr := reps_of hm
              have e9 : ys.map (fun y => ofInts (keyT H y)) = (sortT ([] :: ls)).map ofInts := by
                rw [← e8, List.map_map]
                rfl
              rw [e9] at rr
              have zl : ((sortT ([] :: ls)).map ofInts).length ≤ LINE := by
                rw [List.length_map, (sortT_perm ([] :: ls)).length_eq]
                rw [List.length_map] at za
                exact za
              obtain ⟨e, r⟩ := rk_newL (B := B) s hp rr zl
              exact q _ _ _ e r
      | some ps =>
        rw [e6] at h
        cases h
        have e7 := pairsD_eq e6
        subst e7
        obtain ⟨k1, k2⟩ := pairs_key s ra
        refine .inr (.inl ⟨a, xs, keyV H, rfl, .inl (.inl ha), fun x m => (k2 x m).1, fun ys p h1 h2 hp => ?_⟩)
        have hm : ∀ y ∈ ys, Rep K I (ofPair (keyV H y)) y := fun y m => (k2 y (h2.perm.mem_iff.mp m)).2
        have e8 : ys.map (keyV H) = sortP ps := by
          refine sortP_uniq ?_ ?_
          · rw [← k1]
            exact h2.perm.map _
          · refine List.pairwise_map.mpr (h1.imp fun {x y} z => ?_)
            have z := SrtO.lexB_no.mp z
            exact leP_iff.mpr (by omega)
        have rr := reps_of hm
        have e9 : ys.map (fun y => ofPair (keyV H y)) = (sortP ps).map ofPair := by
          rw [← e8, List.map_map]
          rfl
        rw [e9] at rr
        have zl : ((sortP ps).map ofPair).length ≤ LINE := by
          rw [List.length_map, (sortP_perm ps).length_eq]
          rw [List.length_map] at za
          exact za
        obtain ⟨e, r⟩ := rk_newL (B := B) s hp rr zl
        exact q _ _ _ e r
end
end R

set_option linter.all false
set_option maxHeartbeats 2000000
/-! Expressions: a term's reading is met by what the term computes. -/
namespace R
open PySem L2
structure Stp (B : Bd) (I H I' H' : Hp) : Prop where
  ii : ∀ b o, I b = some o → I' b = some o
  fz : ∀ b o, I b = some o → H' b = H b
  bh : ∀ b, B b → H' b = H b
  bi : ∀ b o, B b → H b = some o → isTup o = false → I' b = I b
/-- a call's frame: all that is there but what is lent; the lent ones stay in their slots -/
def callB (H : Hp) (P : List (Nat × Addr)) (ds : List D) : Bd := ⟨fun b => (∃ o, H b = some o) ∧ ∀ i p d, (i, p) ∈ P → ds[i]? = some d → b ∉ foot H p d, P⟩
/-- arguments: those at P are lent -/
structure ArgsP (K : PySem.W.Frag) (I H : Hp) (P : List (Nat × Addr)) (ds : List D) (vs : List V) : Prop where
  len : vs.length = ds.length
  fz : ∀ (i : Nat) (d : D), i ∉ P.map (·.1) → ds[i]? = some d → ∃ v, vs[i]? = some v ∧ Rep K I d v
  ow : ∀ (i : Nat) (p : Addr), (i, p) ∈ P → ∃ d, ds[i]? = some d ∧ vs[i]? = some (.ref p) ∧ I p = none ∧ OwnC K I H p d
  ne : ∀ (i j : Nat) (p q : Addr) (d e : D), i ≠ j → (i, p) ∈ P → (j, q) ∈ P → ds[i]? = some d → ds[j]? = some e → ∀ a ∈ foot H p d, a ∉ foot H q e
/-- what was lent, given back -/
structure OutsP (K : PySem.W.Frag) (B : Bd) (I H : Hp) (outs : List D) : Prop where
  len : outs.length = B.pins.length
  ow : ∀ (k i : Nat) (p : Addr), B.pins[k]? = some (i, p) → ∃ d, outs[k]? = some d ∧ I p = none ∧ OwnC K I H p d ∧ ∀ a ∈ foot H p d, ¬ B a
  ne : ∀ (k l i j : Nat) (p q : Addr) (d e : D), k ≠ l → B.pins[k]? = some (i, p) → B.pins[l]? = some (j, q) → outs[k]? = some d → outs[l]? = some e → ∀ a ∈ foot H p d, a ∉ foot H q e
/-- what a caller may lean on -/
structure CallOk (K : PySem.W.Frag) (cl : Nat → List D → Option (Kd × D)) (sp : Nat → Sp) : Prop where
  fz : ∀ (f : Nat) (ds : List D) (k : Kd) (d : D), cl f ds = some (k, d) → (k = .bo → ∃ c, d = .exc c) → ∀ (B : Bd) (vs : List V) (I H : Hp) (Q : VK) (E : XK), Sub I H → Reps K I ds vs →
    (k ≠ .bo → ∀ v I' H', Ext I H I' H' → RK K B H I' H' k d v → Q v H') → (k = .bo → ∀ c, d = .exc c → ∀ I' H', Ext I H I' H' → ∀ cls d', ExAs K H' c cls d' → E cls d' H') → sp f vs H Q E
  io : ∀ (f : Nat) (ds : List D) (js : List Nat) (r : D) (outs : List D), cl f ds = some (.bo, .io js r outs) → ∀ (P : List (Nat × Addr)) (vs : List V) (I H : Hp) (Q : VK) (E : XK), Sub I H → P.map (·.1) = js → ArgsP K I H P ds vs →
    (∀ v I' H', Stp (callB H P ds) I H I' H' → Sub I' H' → Rep K I' r v → OutsP K (callB H P ds) I' H' outs → Q v H') → sp f vs H Q E
theorem okc_some {r : Option (Kd × D)} {k : Kd} {d : D} (h : okc r = some (k, d)) : r = some (k, d) ∧ k ≠ .bo := by
  unfold okc at h
  split at h
  · cases h
  · rename_i n
    refine ⟨h, fun e => ?_⟩
    subst e
    exact n d h
section
variable (K : PySem.W.Frag) (B : Bd)
def EvOk (t : TE) (f : Env → Option (Kd × D)) : Prop :=
  ∀ (σ : List (Option V)) (I H : Hp) (ρ : Env) (k : Kd) (d : D) (Q : VK), Sta K B I H σ ρ → f ρ = some (k, d) → (∀ v I' H', Ext I H I' H' → RK K B H I' H' k d v → Q v H') → t σ H Q
def EvOkT (t : TT) (f : Env → Option Bool) : Prop :=
  ∀ (σ : List (Option V)) (I H : Hp) (ρ : Env) (c : Bool) (Q : Bool → Hp → Prop), Sta K B I H σ ρ → f ρ = some c → (∀ I' H', Ext I H I' H' → Q c H') → t σ H Q
def EvOkF (t : TA) (f : Env → Option (List D)) : Prop :=
  ∀ (σ : List (Option V)) (I H : Hp) (ρ : Env) (ds : List D) (Q : List V → Hp → Prop), Sta K B I H σ ρ → f ρ = some ds → (∀ vs I' H', Ext I H I' H' → Reps K I' ds vs → Q vs H') → t σ H Q
def EvOkB (t : TA) (f : Env → Option (List D)) : Prop :=
  ∀ (σ : List (Option V)) (I H : Hp) (ρ : Env) (ds : List D) (Q : List V → Hp → Prop), Sta K B I H σ ρ → f ρ = some ds → (∀ vs I' H', Ext I H I' H' → Sees K I' H' ds vs → Q vs H') → t σ H Q
def EvOkO (t : TO) (f : Env → Option (Option Int)) : Prop :=
  ∀ (σ : List (Option V)) (I H : Hp) (ρ : Env) (o : Option Int) (Q : Option Int → Hp → Prop), Sta K B I H σ ρ → f ρ = some o → (∀ I' H', Ext I H I' H' → Q o H') → t σ H Q
end
section
variable {K : PySem.W.Frag} {B : Bd} {cl : Nat → List D → Option (Kd × D)} {sp : Nat → Sp}
/-- a value handed on: frozen -/
theorem esc_ok {k : Kd} {d e : D} {v : V} {I H I' H' : Hp} (h : esc (k, d) = some e) (x : Ext I H I' H') (r : RK K B H I' H' k d v) : e = d ∧ ∃ I'', Ext I H I'' H' ∧ Rep K I'' d v ∧ ∀ b o, I' b = some o → I'' b = some o := by
  cases k with
  | fz =>
    cases h
    exact ⟨rfl, I', x, r, fun _ _ h => h⟩
  | ow =>
    cases h
    obtain ⟨⟨p, rfl, hp, c⟩, p', e, hs⟩ := r
    cases e
    obtain ⟨I2, i1, i2, i3, i4, _⟩ := c.freeze x.su hp
    exact ⟨rfl, I2, x.freezeF hs i1 i2 i4, i3, i1⟩
  | bo => cases h
theorem EvOk.see {t : TE} {f : Env → Option (Kd × D)} (h : EvOk K B t f) {σ : List (Option V)} {I H : Hp} {ρ : Env} {k : Kd} {d : D} {Q : VK} (s : Sta K B I H σ ρ) (e : f ρ = some (k, d))
    (q : ∀ v I' H', Ext I H I' H' → See K I' H' d v → Q v H') : t σ H Q := h σ I H ρ k d Q s e fun v I' H' x r => q v I' H' x r.see
theorem EvOk.fz {t : TE} {f : Env → Option (Kd × D)} (h : EvOk K B t f) {σ : List (Option V)} {I H : Hp} {ρ : Env} {r : Kd × D} {d : D} {Q : VK} (s : Sta K B I H σ ρ) (e : f ρ = some r) (z : esc r = some d)
    (q : ∀ v I' H', Ext I H I' H' → Rep K I' d v → Q v H') : t σ H Q := h σ I H ρ r.1 r.2 Q s e fun v I' H' x g => by
  obtain ⟨rfl, I'', y, g', _⟩ := esc_ok z x g
  exact q v I'' H' y g'
theorem RK.step {I H I1 H1 I2 H2 : Hp} {k : Kd} {d : D} {v : V} (x : Ext I H I1 H1) (r : RK K B H1 I2 H2 k d v) : RK K B H I2 H2 k d v := by
  cases k with
  | fz => exact r
  | ow =>
    obtain ⟨h, p, e, z⟩ := r
    refine ⟨h, p, e, fun a m => ?_⟩
    have z' := z a m
    cases q : H a with
    | none => rfl
    | some o =>
      rw [x.hh a o q] at z'
      cases z'
  | bo => exact r
theorem gl_rep {I : Hp} {d : D} {x : V} (h : x = vOf d) (z : (match d with | .int _ => true | .bl _ => true | .non => true | .str y => okS y | _ => false) = true) : Rep K I d x := by
  subst h
  cases d <;> first | (cases z; done) | skip
  · exact rep_non
  · exact rep_bl
  · exact rep_int
  · exact rep_okS z
theorem onT_some {r : Option (Kd × D)} {c : Bool} (h : onT r = some c) : ∃ k d, r = some (k, d) ∧ truD d = some c := by
  unfold onT at h
  split at h
  · exact ⟨_, _, rfl, h⟩
  · cases h
theorem EvOk.tru {t : TE} {f : Env → Option (Kd × D)} (h : EvOk K B t f) : EvOkT K B (tTru K t) fun ρ => onT (f ρ) := by
  intro σ I H ρ c Q s e q
  obtain ⟨k, d, e1, e2⟩ := onT_some e
  exact h.see s e1 fun v I' H' x g => ⟨c, tru_okD e2 x.su g, q I' H' x⟩
/-- two in a row -/
theorem two_ok {ta tb : TE} {f g : Env → Option (Kd × D)} (ha : EvOk K B ta f) (hb : EvOk K B tb g) {σ : List (Option V)} {I H : Hp} {ρ : Env} {k k' : Kd} {x y : D} {R : V → V → Hp → Prop} (s : Sta K B I H σ ρ) (e1 : f ρ = some (k, x)) (e2 : g ρ = some (k', y))
    (q : ∀ v w I' H', Ext I H I' H' → See K I' H' x v → See K I' H' y w → R v w H') : ta σ H fun v H1 => tb σ H1 fun w H2 => R v w H2 :=
  ha.see s e1 fun v I1 H1 x1 g1 => hb.see (s.ext x1) e2 fun w I2 H2 x2 g2 => q v w I2 H2 (x1.trans x2) (g1.ext x2) g2
theorem cmp2_ok {op : COp} {ta tb : TE} {f g : Env → Option (Kd × D)} (ha : EvOk K B ta f) (hb : EvOk K B tb g) {σ : List (Option V)} {I H : Hp} {ρ : Env} {k k' : Kd} {x y : D} {c : Bool} {Q : VK} (s : Sta K B I H σ ρ) (e1 : f ρ = some (k, x)) (e2 : g ρ = some (k', y))
    (e : cmpD op x y = some c) (q : ∀ I' H', Ext I H I' H' → Q (.bl c) H') : rdCmp K op ta tb σ H Q := by
  have plain : op ≠ .isin ∧ op ≠ .notin → tOp (rCmp K op) ta tb σ H Q := fun nd =>
    two_ok ha hb s e1 e2 fun v w I' H' z g1 g2 => cmp_ok e z.su g1 g2 nd (q I' H' z)
  have isin : ∀ neg : Bool, op = (if neg then .notin else .isin) → (tOp (rCmp K op) ta tb σ H Q) ∨ (ta σ H fun v H1 => tb σ H1 fun w H2 => ∃ a o, w = .ref a ∧ DGet H2 a v o ∧ Q (.bl (if neg then !o.isSome else o.isSome)) H2) := fun neg e3 => by
    subst e3
    cases hd : isDct y with
    | true => exact .inr (two_ok ha hb s e1 e2 fun v w I' H' z g1 g2 => (in_ok e z.su g1 g2 (q I' H' z)).2 hd)
    | false => exact .inl (two_ok ha hb s e1 e2 fun v w I' H' z g1 g2 => (in_ok e z.su g1 g2 (q I' H' z)).1 hd)
  cases op with
  | isin => exact isin false rfl
  | notin => exact isin true rfl
  | _ => exact plain ⟨(by intro h; injection h), (by intro h; injection h)⟩
end
end R

set_option linter.all false
set_option maxHeartbeats 2000000
/-! Slots, what is walked, comprehensions. -/
namespace R
open PySem L2
section
variable {K : PySem.W.Frag} {B : Bd} {I H I' H' : Hp} {σ : List (Option V)} {ρ ρ' : Env} {Q : VK}
theorem wipeR_len (ρ : Env) : ∀ vs : List Nat, (wipeR ρ vs).length = ρ.length
  | [] => rfl
  | v :: vs => by
    unfold wipeR
    rw [List.length_set, wipeR_len ρ vs]
theorem wipeR_some {i : Nat} {x : Kd × D} : ∀ {vs : List Nat}, (wipeR ρ vs)[i]? = some (some x) → ρ[i]? = some (some x) ∧ i ∉ vs
  | [], h => ⟨h, by simp⟩
  | v :: vs, h => by
    unfold wipeR at h
    by_cases hi : v = i
    · subst hi
      by_cases hv : v < (wipeR ρ vs).length
      · rw [List.getElem?_set_self hv] at h; cases h
      · rw [List.getElem?_eq_none (by simpa using hv)] at h; cases h
    · rw [List.getElem?_set_ne hi] at h
      obtain ⟨h1, h2⟩ := wipeR_some h
      exact ⟨h1, by simp only [List.mem_cons, not_or]; exact ⟨fun e => hi e.symm, h2⟩⟩
theorem Sta.wiped (s : Sta K B I H σ ρ) (vs : List Nat) : Sta K B.np I H (wipe σ vs) (wipeR ρ vs) := by
  refine ⟨s.su, s.ba, (fun _ _ m => nomatch m), by rw [wipe_length, wipeR_len]; exact s.sl.len, fun i d h => ?_, fun i d h => ?_, fun i d h => ?_, fun i j d e p q ne h1 h2 h3 h4 => ?_⟩
  · obtain ⟨h1, h2⟩ := wipeR_some h
    obtain ⟨v, q1, q2⟩ := s.sl.fz i d h1
    exact ⟨v, by rw [wipe_out h2]; exact q1, q2⟩
  · obtain ⟨h1, h2⟩ := wipeR_some h
    obtain ⟨p, q1, q2⟩ := s.sl.ow i d h1
    exact ⟨p, by rw [wipe_out h2]; exact q1, q2⟩
  · exact s.sl.bo i d (wipeR_some h).1
  · exact s.sl.ne i j d e p q ne (wipeR_some h1).1 (wipeR_some h2).1 (by rw [← wipe_out (wipeR_some h1).2]; exact h3) (by rw [← wipe_out (wipeR_some h2).2]; exact h4)
theorem Sta.setF {i : Nat} {d : D} {v : V} (s : Sta K B I H σ ρ) (r : Rep K I d v) (hi : i < ρ.length) (np : ∀ p, (i, p) ∉ B.pins) : Sta K B I H (σ.set i (some v)) (ρ.set i (some (.fz, d))) := by
  have hl : i < σ.length := by rw [s.sl.len]; exact hi
  refine ⟨s.su, s.ba, fun j p m => ?_, by rw [List.length_set, List.length_set]; exact s.sl.len, fun j e h => ?_, fun j e h => ?_, fun j e h => ?_, fun j k e e' p q' ne h1 h2 h3 h4 => ?_⟩
  · have n : i ≠ j := fun z => np p (z ▸ m)
    rw [List.getElem?_set_ne n, List.getElem?_set_ne n]
    exact s.pn j p m
  · by_cases q : i = j
    · subst q
      rw [List.getElem?_set_self hi] at h
      cases h
      exact ⟨v, List.getElem?_set_self hl, r⟩
    · rw [List.getElem?_set_ne q] at h
      obtain ⟨w, q1, q2⟩ := s.sl.fz j e h
      exact ⟨w, by rw [List.getElem?_set_ne q]; exact q1, q2⟩
  · by_cases q : i = j
    · subst q
      rw [List.getElem?_set_self hi] at h
      cases h
    · rw [List.getElem?_set_ne q] at h
      obtain ⟨w, q1, q2⟩ := s.sl.ow j e h
      exact ⟨w, by rw [List.getElem?_set_ne q]; exact q1, q2⟩
  · by_cases q : i = j
    · subst q
      rw [List.getElem?_set_self hi] at h
      cases h
    · rw [List.getElem?_set_ne q] at h
      exact s.sl.bo j e h
  · have n1 : i ≠ j := fun q => by
      subst q
      rw [List.getElem?_set_self hi] at h1
      cases h1
    have n2 : i ≠ k := fun q => by
      subst q
      rw [List.getElem?_set_self hi] at h2
      cases h2
    rw [List.getElem?_set_ne n1] at h1 h3
    rw [List.getElem?_set_ne n2] at h2 h4
    exact s.sl.ne j k e e' p q' ne h1 h2 h3 h4
/-- an owned thing goes to a slot -/
theorem Sta.setO {i : Nat} {d : D} {p : Addr} (s : Sta K B I H σ ρ) (hi : i < ρ.length) (h0 : I p = none) (c : OwnC K I H p d) (nb : ∀ a ∈ foot H p d, ¬ B a) (np : ∀ p, (i, p) ∉ B.pins)
    (ne : ∀ (j : Nat) (e : D) (q : Addr), j ≠ i → ρ[j]? = some (some (Kd.ow, e)) → σ[j]? = some (some (V.ref q)) → ∀ a ∈ foot H p d, a ∉ foot H q e) : Sta K B I H (σ.set i (some (.ref p))) (ρ.set i (some (.ow, d))) := by
  have hl : i < σ.length := by rw [s.sl.len]; exact hi
  refine ⟨s.su, s.ba, fun j p' m => ?_, by rw [List.length_set, List.length_set]; exact s.sl.len, fun j e h => ?_, fun j e h => ?_, fun j e h => ?_, fun j k e e' q q' nq h1 h2 h3 h4 => ?_⟩
  · have n : i ≠ j := fun z => np p' (z ▸ m)
    rw [List.getElem?_set_ne n, List.getElem?_set_ne n]
    exact s.pn j p' m
  · by_cases q : i = j
    · subst q
      rw [List.getElem?_set_self hi] at h
      cases h
    · rw [List.getElem?_set_ne q] at h
      obtain ⟨w, q1, q2⟩ := s.sl.fz j e h
      exact ⟨w, by rw [List.getElem?_set_ne q]; exact q1, q2⟩
  · by_cases q : i = j
    · subst q
      rw [List.getElem?_set_self hi] at h
      cases h
      exact ⟨p, List.getElem?_set_self hl, h0, c, nb⟩
    · rw [List.getElem?_set_ne q] at h
      obtain ⟨w, q1, q2⟩ := s.sl.ow j e h
      exact ⟨w, by rw [List.getElem?_set_ne q]; exact q1, q2⟩
  · by_cases q : i = j
    · subst q
      rw [List.getElem?_set_self hi] at h
      cases h
    · rw [List.getElem?_set_ne q] at h
      exact s.sl.bo j e h
  · by_cases q1 : i = j
    · subst q1
      have n2 : i ≠ k := nq
      rw [List.getElem?_set_self hl] at h3
      rw [List.getElem?_set_self hi] at h1
      rw [List.getElem?_set_ne n2] at h2 h4
      cases h3
      cases h1
      exact ne k e' q' n2.symm h2 h4
    · rw [List.getElem?_set_ne q1] at h1 h3
      by_cases q2 : i = k
      · subst q2
        rw [List.getElem?_set_self hl] at h4
        rw [List.getElem?_set_self hi] at h2
        cases h4
        cases h2
        exact fun a m1 m2 => ne j e q (fun z => q1 z.symm) h1 h3 a m2 m1
      · rw [List.getElem?_set_ne q2] at h2 h4
        exact s.sl.ne j k e e' q q' nq h1 h2 h3 h4
/-- what a target's slots become -/
theorem many_ok : ∀ {is : List Nat} {ds : List D} {vs : List V} {σ : List (Option V)} {ρ ρ' : Env} {Q : List (Option V) → Hp → Prop}, setMany is ds ρ = some ρ' → (∀ i ∈ is, ∀ p, (i, p) ∉ B.pins) → Sta K B I H σ ρ → Reps K I ds vs →
    (∀ σ', Sta K B I H σ' ρ' → (∀ ws, (∀ i ∈ is, i ∈ ws) → wipe σ' ws = wipe σ ws) → Q σ' H) → rdG.rdGs is vs σ H Q
  | [], ds, vs, σ, ρ, ρ', Q, h, np, s, r, q => by
    cases ds with
    | nil =>
      simp only [setMany] at h
      cases h
      simp only [Reps] at r
      exact ⟨r, q σ s fun _ _ => rfl⟩
    | cons d ds => simp only [setMany] at h; cases h
  | i :: is, ds, vs, σ, ρ, ρ', Q, h, np, s, r, q => by
    cases ds with
    | nil => simp only [setMany] at h; cases h
    | cons d ds =>
      simp only [setMany] at h
      split at h
      · rename_i hi
        simp only [Reps] at r
        obtain ⟨x, r', rfl, h1, h2⟩ := r
        refine ⟨x, r', rfl, ?_⟩
        show rdG.rdGs is r' (σ.set i (some x)) H Q
        refine many_ok h (fun j hj => np j (List.mem_cons_of_mem _ hj)) (s.setF h1 hi (np i List.mem_cons_self)) h2 fun σ' s' w => q σ' s' fun ws hw => ?_
        rw [w ws fun j hj => hw j (List.mem_cons_of_mem _ hj)]
        exact wipe_set (hw i List.mem_cons_self)
      · cases h
where wipe_set {σ : List (Option V)} {i : Nat} {x : Option V} : ∀ {ws : List Nat}, i ∈ ws → wipe (σ.set i x) ws = wipe σ ws
  | w :: ws, h => by
    unfold wipe
    by_cases e : i ∈ ws
    · rw [wipe_set e]
    · have e2 : i = w := (List.mem_cons.mp h).resolve_right e
      subst e2
      have key : ∀ us : List Nat, i ∉ us → wipe (σ.set i x) us = (wipe σ us).set i x := fun us => by
        induction us with
        | nil => intro _; rfl
        | cons u us ih =>
          intro hu
          simp only [List.mem_cons, not_or] at hu
          unfold wipe
          rw [ih hu.2, List.set_comm _ _ hu.1]
      rw [key ws e, List.set_set]
theorem wipe_twice (σ : List (Option V)) : ∀ vs : List Nat, wipe (wipe σ vs) vs = wipe σ vs := fun vs => by
  have key : ∀ us : List Nat, (∀ u ∈ us, u ∈ vs) → wipe (wipe σ vs) us = wipe σ vs := fun us => by
    induction us with
    | nil => intro _; rfl
    | cons u us ih =>
      intro h
      show (wipe (wipe σ vs) us).set u none = wipe σ vs
      rw [ih fun w hw => h w (List.mem_cons_of_mem _ hw)]
      apply List.ext_getElem?
      intro j
      by_cases e : u = j
      · subst e
        by_cases hl : u < (wipe σ vs).length
        · rw [List.getElem?_set_self hl]
          cases q : (wipe σ vs)[u]? with
          | none =>
            rw [List.getElem?_eq_none_iff] at q
            exact absurd hl (by omega)
          | some o =>
            cases o with
            | none => rfl
            | some x => exact absurd (h u List.mem_cons_self) (wipe_some q).2
        · rw [List.set_eq_of_length_le (by omega)]
      · rw [List.getElem?_set_ne e]
  exact key vs fun _ h => h
theorem tg_ok {g : Tg} {d : D} {v : V} {Q : List (Option V) → Hp → Prop} (h : setTg g d ρ = some ρ') (np : ∀ i ∈ tgS g, ∀ p, (i, p) ∉ B.pins) (s : Sta K B I H σ ρ) (r : Rep K I d v)
    (q : ∀ σ', Sta K B I H σ' ρ' → (∀ ws, (∀ i ∈ tgS g, i ∈ ws) → wipe σ' ws = wipe σ ws) → Q σ' H) : rdG K g v σ H Q := by
  cases g with
  | nm i =>
    simp only [setTg] at h
    split at h
    · rename_i hi
      cases h
      exact q _ (s.setF r hi (np i List.mem_cons_self)) fun ws hw => many_ok.wipe_set (hw i List.mem_cons_self)
    · cases h
  | tp is =>
    cases d with
    | tup ds =>
      simp only [setTg] at h
      have r' := r
      simp only [Rep] at r
      obtain ⟨a, xs, rfl, h1, h2, h3⟩ := r
      have hl : ds.length = is.length := ih2 h
      have ha : H a = some (.tup xs) := by
        rcases s.su a _ h1 with z | ⟨z, _⟩
        · exact z
        · cases z
      exact ⟨a, xs, rfl, .inl (.inl ha), by rw [h2.len]; exact hl, many_ok h np s h2 q⟩
    | _ => simp only [setTg] at h; cases h
where ih2 : ∀ {is : List Nat} {ds : List D} {ρ ρ' : Env}, setMany is ds ρ = some ρ' → ds.length = is.length
  | [], [], _, _, _ => rfl
  | [], _ :: _, _, _, h => by simp only [setMany] at h; cases h
  | _ :: _, [], _, _, h => by simp only [setMany] at h; cases h
  | i :: is, d :: ds, ρ, _, h => by
    simp only [setMany] at h
    split at h
    · rw [List.length_cons, List.length_cons, ih2 h]
    · cases h

/-! ### what is walked -/
/-- fr: the source is frozen -/
def SrcOk (K : PySem.W.Frag) (J : It) (I H : Hp) (xs : List D) (fr : Prop) : Prop :=
  ∃ P : Hp → Prop, P H ∧ (∀ H', (∀ b o, H b = some o → H' b = some o) → P H') ∧ (fr → ∀ H' : Hp, (∀ b o, I b = some o → H' b = H b) → P H') ∧
    ∀ (I' H' : Hp) (i : Nat), (∀ b o, I b = some o → I' b = some o) → Sub I' H' → P H' →
      (∀ d, xs[i]? = some d → J.go i H' ∧ ∀ x H'', J.yld i H' x H'' → ∃ I'', Ext I' H' I'' H'' ∧ Rep K I'' d x) ∧ (xs.length ≤ i → J.stop i H')
theorem sub_lst {a : Addr} {xs : List V} (s : Sub I H) (h : I a = some (.lst xs)) : H a = some (.lst xs) := by
  rcases s a _ h with z | ⟨z, _⟩
  · exact z
  · cases z
theorem sub_tup {a : Addr} {xs : List V} (s : Sub I H) (h : I a = some (.tup xs)) : H a = some (.tup xs) := by
  rcases s a _ h with z | ⟨z, _⟩
  · exact z
  · cases z
theorem src_list {a : Addr} {vs : List V} {ds : List D} {fr : Prop} (s : Sub I H) (ha : H a = some (.lst vs)) (r : Reps K I ds vs) (hf : fr → I a = some (.lst vs)) : SrcOk K (Itl K a) I H ds fr := by
  refine ⟨fun H' => H' a = some (.lst vs), ha, fun H' k => k a _ ha, fun f H' k => (k a _ (hf f)).trans ha, fun I' H' i ii su p => ⟨fun d hd => ?_, fun hi => ⟨vs, .inl (.inl p), by rw [r.len]; exact hi⟩⟩⟩
  obtain ⟨x, hx, rx⟩ := r.get hd
  refine ⟨⟨vs, x, .inl (.inl p), hx⟩, fun y H'' hy => ?_⟩
  obtain ⟨rfl, hy⟩ := hy
  have : x = y := Option.some.inj (hx.symm.trans (hy vs (.inl (.inl p))))
  subst this
  exact ⟨I', Ext.refl su, rx.mono ii _ _⟩
theorem src_scr {a : Addr} {ns : List Int} {fr : Prop} (h : SqL K I a (ns.map V.int)) : SrcOk K (Itl K a) I H (ns.map .int) fr := by
  refine ⟨fun H' => True, trivial, fun _ _ => trivial, fun _ _ _ => trivial, fun I' H' i ii su _ => ?_⟩
  have h' : SqL K H' a (ns.map V.int) := sql_sub su (rd_mono ii h)
  refine ⟨fun d hd => ?_, fun hi => ⟨_, h', by rw [List.length_map] at hi ⊢; exact hi⟩⟩
  have r := reps_ints (K := K) (I := I') ns
  obtain ⟨x, hx, rx⟩ := r.get hd
  refine ⟨⟨_, x, h', hx⟩, fun y H'' hy => ?_⟩
  obtain ⟨rfl, hy⟩ := hy
  have : x = y := Option.some.inj (hx.symm.trans (hy _ h'))
  subst this
  exact ⟨I', Ext.refl su, rx⟩
theorem src_tup {a : Addr} {vs : List V} {ds : List D} {fr : Prop} (h : I a = some (.tup vs)) (r : Reps K I ds vs) : SrcOk K (Itt K a) I H ds fr := by
  refine ⟨fun H' => True, trivial, fun _ _ => trivial, fun _ _ _ => trivial, fun I' H' i ii su _ => ?_⟩
  have h' : SqT K H' a vs := .inl (.inl (sub_tup su (ii _ _ h)))
  refine ⟨fun d hd => ?_, fun hi => ⟨_, h', by rw [r.len]; exact hi⟩⟩
  obtain ⟨x, hx, rx⟩ := r.get hd
  refine ⟨⟨_, x, h', hx⟩, fun y H'' hy => ?_⟩
  obtain ⟨rfl, hy⟩ := hy
  have : x = y := Option.some.inj (hx.symm.trans (hy _ h'))
  subst this
  exact ⟨I', Ext.refl su, rx.mono ii _ _⟩
theorem src_str {x : Str} {fr : Prop} (h : PyData.strOk x = true) : SrcOk K (Its x) I H (signs x) fr := by
  refine ⟨fun H' => True, trivial, fun _ _ => trivial, fun _ _ _ => trivial, fun I' H' i ii su _ => ⟨fun d hd => ?_, fun hi => ?_⟩⟩
  · unfold signs at hd
    rw [List.getElem?_map] at hd
    cases e : x.cps.toList[i]? with
    | none => rw [e] at hd; cases hd
    | some c =>
      rw [e] at hd
      cases hd
      have hm := List.mem_of_getElem? e
      have hi : i < x.cps.size := by
        have := (List.getElem?_eq_some_iff.mp e).1
        rw [Array.length_toList] at this
        exact this
      refine ⟨hi, fun y H'' hy => ?_⟩
      obtain ⟨rfl, c', hc, rfl⟩ := hy
      rw [← Array.getElem?_toList, e] at hc
      cases hc
      exact ⟨I', Ext.refl su, rep_str (by show 1 ≤ LINE; decide) (strOk_sign h hm)⟩
  · unfold signs at hi
    rw [List.length_map, Array.length_toList] at hi
    exact hi
theorem rangeL_get (a b : Int) (i : Nat) : (rangeL a b)[i]? = if i < (b - a).toNat then some (a + (i : Nat)) else none := by
  unfold rangeL
  by_cases h : i < (b - a).toNat
  · rw [List.getElem?_map, List.getElem?_range h, if_pos h]
    rfl
  · rw [if_neg h]
    exact List.getElem?_eq_none (by rw [List.length_map, List.length_range]; omega)
theorem src_rng {a b : Int} {fr : Prop} : SrcOk K (Itr a (b - a).toNat) I H ((rangeL a b).map .int) fr := by
  refine ⟨fun H' => True, trivial, fun _ _ => trivial, fun _ _ _ => trivial, fun I' H' i ii su _ => ⟨fun d hd => ?_, fun hi => ?_⟩⟩
  · rw [List.getElem?_map, rangeL_get] at hd
    split at hd
    · rename_i hi
      cases hd
      refine ⟨hi, fun y H'' hy => ?_⟩
      obtain ⟨rfl, rfl⟩ := hy
      exact ⟨I', Ext.refl su, rep_int⟩
    · cases hd
  · rw [List.length_map, rangeL_len] at hi
    exact hi
theorem src_enum {a : Addr} {vs : List V} {ds : List D} {fr : Prop} (s : Sub I H) (ha : H a = some (.lst vs)) (r : Reps K I ds vs) (hf : fr → I a = some (.lst vs)) : SrcOk K (Ite K a) I H (ds.zipIdx.map fun p => .tup [.int (p.2 : Nat), p.1]) fr := by
  refine ⟨fun H' => H' a = some (.lst vs), ha, fun H' k => k a _ ha, fun f H' k => (k a _ (hf f)).trans ha, fun I' H' i ii su p => ⟨fun d hd => ?_, fun hi => ⟨vs, .inl (.inl p), by rw [r.len]; rw [List.length_map, List.length_zipIdx] at hi; exact hi⟩⟩⟩
  rw [List.getElem?_map, List.getElem?_zipIdx] at hd
  cases e : ds[i]? with
  | none => rw [e] at hd; cases hd
  | some d0 =>
    rw [e] at hd
    cases hd
    obtain ⟨x, hx, rx⟩ := r.get e
    refine ⟨⟨vs, x, .inl (.inl p), hx⟩, fun y H'' hy => ?_⟩
    obtain ⟨T, x', rfl, nT, rfl, hy⟩ := hy
    have : x = x' := Option.some.inj (hx.symm.trans (hy vs (.inl (.inl p))))
    subst this
    rw [Nat.zero_add]
    exact ⟨_, rk_newT su nT (Reps.cons rep_int (Reps.cons (rx.mono ii _ _) Reps.nil)) (by show 2 ≤ LINE; decide)⟩
theorem src_enumT {a : Addr} {vs : List V} {ds : List D} {fr : Prop} (h : I a = some (.tup vs)) (r : Reps K I ds vs) : SrcOk K (IteT K a) I H (ds.zipIdx.map fun p => .tup [.int (p.2 : Nat), p.1]) fr := by
  refine ⟨fun H' => True, trivial, fun _ _ => trivial, fun _ _ _ => trivial, fun I' H' i ii su _ => ?_⟩
  have h' : SqT K H' a vs := .inl (.inl (sub_tup su (ii _ _ h)))
  refine ⟨fun d hd => ?_, fun hi => ⟨_, h', by rw [r.len]; rw [List.length_map, List.length_zipIdx] at hi; exact hi⟩⟩
  rw [List.getElem?_map, List.getElem?_zipIdx] at hd
  cases e : ds[i]? with
  | none => rw [e] at hd; cases hd
  | some d0 =>
    rw [e] at hd
    cases hd
    obtain ⟨x, hx, rx⟩ := r.get e
    refine ⟨⟨vs, x, h', hx⟩, fun y H'' hy => ?_⟩
    obtain ⟨T, x', rfl, nT, rfl, hy⟩ := hy
    have : x = x' := Option.some.inj (hx.symm.trans (hy vs h'))
    subst this
    rw [Nat.zero_add]
    exact ⟨_, rk_newT su nT (Reps.cons rep_int (Reps.cons (rx.mono ii _ _) Reps.nil)) (by show 2 ≤ LINE; decide)⟩
theorem src_zip {a b : Addr} {vs ws : List V} {ds es : List D} {fr : Prop} (s : Sub I H) (ha : H a = some (.lst vs)) (ra : Reps K I ds vs) (hf : fr → I a = some (.lst vs)) (hb : H b = some (.lst ws)) (rb : Reps K I es ws) (hg : fr → I b = some (.lst ws)) :
    SrcOk K (Itz K a b) I H ((ds.zip es).map fun p => .tup [p.1, p.2]) fr := by
  refine ⟨fun H' => H' a = some (.lst vs) ∧ H' b = some (.lst ws), ⟨ha, hb⟩, fun H' k => ⟨k a _ ha, k b _ hb⟩, fun f H' k => ⟨(k a _ (hf f)).trans ha, (k b _ (hg f)).trans hb⟩, fun I' H' i ii su p => ⟨fun d hd => ?_, fun hi => ?_⟩⟩
  · rw [List.getElem?_map] at hd
    obtain ⟨z, hz, rfl⟩ := Option.map_eq_some_iff.mp hd
    obtain ⟨e1, e2⟩ := List.getElem?_zip_eq_some.mp hz
    obtain ⟨x, hx, rx⟩ := ra.get e1
    obtain ⟨y, hy, ry⟩ := rb.get e2
    refine ⟨⟨vs, ws, x, y, .inl (.inl p.1), .inl (.inl p.2), hx, hy⟩, fun v H'' hv => ?_⟩
    obtain ⟨T, x', y', rfl, nT, rfl, g1, g2⟩ := hv
    have q1 : x = x' := Option.some.inj (hx.symm.trans (g1 vs (.inl (.inl p.1))))
    have q2 : y = y' := Option.some.inj (hy.symm.trans (g2 ws (.inl (.inl p.2))))
    subst q1 q2
    exact ⟨_, rk_newT su nT (Reps.cons (rx.mono ii _ _) (Reps.cons (ry.mono ii _ _) Reps.nil)) (by show 2 ≤ LINE; decide)⟩
  · rw [List.length_map, List.length_zip] at hi
    exact ⟨vs, ws, .inl (.inl p.1), .inl (.inl p.2), by rw [ra.len, rb.len]; omega⟩
end
end R

set_option linter.all false
set_option maxHeartbeats 2000000
/-! Comprehensions; all expressions. -/
namespace R
open PySem L2
section
variable (K : PySem.W.Frag) (B : Bd)
def TIOk (wi : TI) (f : Env → Option (List D)) (fr : Prop) : Prop :=
  ∀ (σ : List (Option V)) (I H : Hp) (ρ : Env) (xs : List D) (R : It → Hp → Prop), Sta K B I H σ ρ → f ρ = some xs → (∀ J I' H', Ext I H I' H' → SrcOk K J I' H' xs fr → xs.length ≤ LINE → R J H') → wi σ H R
/-- one looked at; fr: handed on -/
def EvS (t : TE) (f : Env → Option D) (fr : Prop) : Prop :=
  ∀ (σ : List (Option V)) (I H : Hp) (ρ : Env) (d : D) (Q : VK), Sta K B I H σ ρ → f ρ = some d → (∀ v I' H', Ext I H I' H' → See K I' H' d v → (fr → Rep K I' d v) → Q v H') → t σ H Q
def EvSA (t : TA) (f : Env → Option (List D)) (fr : Prop) : Prop :=
  ∀ (σ : List (Option V)) (I H : Hp) (ρ : Env) (ds : List D) (Q : List V → Hp → Prop), Sta K B I H σ ρ → f ρ = some ds → (∀ vs I' H', Ext I H I' H' → Sees K I' H' ds vs → (fr → Reps K I' ds vs) → Q vs H') → t σ H Q
end
section
variable {K : PySem.W.Frag} {B : Bd} {cl : Nat → List D → Option (Kd × D)} {sp : Nat → Sp}
theorem consO_len (r : Option D) (ys : List D) : (consO r ys).length ≤ ys.length + 1 := by
  cases r with
  | none => exact Nat.le_succ _
  | some y => exact Nat.le_refl _
theorem lcRun_len {f : D → Option (Option D)} : ∀ {xs ys : List D}, lcRun f xs = some ys → ys.length ≤ xs.length
  | [], ys, h => by
    simp only [lcRun] at h
    cases h
    exact Nat.le_refl _
  | x :: xs, ys, h => by
    simp only [lcRun] at h
    split at h
    · cases h
    · split at h
      · cases h
      · rename_i zs e
        cases h
        have := lcRun_len e
        have := consO_len ‹Option D› zs
        simp only [List.length_cons]
        omega
/-- what a turn of a comprehension gives -/
def lcItem (g : Tg) (fI : Env → Option Bool) (fE : Env → Option (Kd × D)) (ρ : Env) (x : D) : Option (Option D) :=
  match setTg g x (wipeR ρ (tgS g)) with
  | none => none
  | some ρ' => match fI ρ' with
    | none => none
    | some false => some none
    | some true => match fE ρ' with
      | none => none
      | some r => match esc r with
        | none => none
        | some d => some (some d)
theorem np_pins {B : Bd} {x : Nat × Addr} : x ∉ B.np.pins := fun m => nomatch m
theorem lc_at {wi : TI} {g : Tg} {tt : TT} {te : TE} {fI : Env → Option Bool} {fE : Env → Option (Kd × D)} {fr : Prop} {σ : List (Option V)} {I H : Hp} {ρ : Env} {xs ys : List D} {Q : VK}
    (hS : ∀ R : It → Hp → Prop, (∀ J I' H', Ext I H I' H' → SrcOk K J I' H' xs fr → xs.length ≤ LINE → R J H') → wi σ H R) (hI : EvOkT K B.np tt fI) (hE : EvOk K B.np te fE)
    (s : Sta K B I H σ ρ) (e2 : lcRun (lcItem g fI fE ρ) xs = some ys) (q : ∀ v I' H', Ext I H I' H' → RK K B H I' H' .ow (.lst ys) v → Q v H') : tLc wi (rdG K g) tt te (tgS g) σ H Q := by
  refine hS _ fun J I1 H1 x1 src hz => ?_
  intro Dl hD
  obtain ⟨P, p0, pe, _, turn⟩ := src
  have s1 := s.ext x1
  refine ⟨fun i m H' => m = xs.length - i ∧ i ≤ xs.length ∧ ∃ (I' : Hp) (acc : List V) (as bs : List D), Ext I1 H1 I' H' ∧ H' Dl = some (.lst acc) ∧ I' Dl = none ∧ Reps K I' as acc ∧ as.length ≤ i ∧ lcRun (lcItem g fI fE ρ) (xs.drop i) = some bs ∧ as ++ bs = ys,
    ⟨xs.length, by omega, Nat.zero_le _, I1, [], [], ys, Ext.new x1.su hD, upd_same, x1.su.fresh hD, Reps.nil, Nat.le_refl _, e2, rfl⟩, ?_⟩
  rintro i m H' ⟨rfl, hi, I', acc, as, bs, x2, hDl, iDl, ra, la, eb, ey⟩
  have pH' : P H' := pe H' x2.hh
  by_cases hlt : i < xs.length
  · obtain ⟨go, yl⟩ := (turn I' H' i x2.ii x2.su pH').1 xs[i] (List.getElem?_eq_getElem hlt)
    refine .inr ⟨go, fun H'' => ∃ (I' : Hp) (acc : List V) (as bs : List D), Ext I1 H1 I' H'' ∧ H'' Dl = some (.lst acc) ∧ I' Dl = none ∧ Reps K I' as acc ∧ as.length ≤ i + 1 ∧ lcRun (lcItem g fI fE ρ) (xs.drop (i + 1)) = some bs ∧ as ++ bs = ys,
      fun H'' n => ⟨xs.length - (i + 1), by omega, rfl, hlt, n⟩, fun x H2 hy => ?_⟩
    obtain ⟨I2, x3, rx⟩ := yl x H2 hy
    rw [List.drop_eq_getElem_cons hlt] at eb
    simp only [lcRun] at eb
    cases ei : lcItem g fI fE ρ xs[i] with
    | none => rw [ei] at eb; cases eb
    | some r =>
      rw [ei] at eb
      cases er : lcRun (lcItem g fI fE ρ) (xs.drop (i + 1)) with
      | none => rw [er] at eb; cases eb
      | some zs =>
        rw [er] at eb
        have eb : some (consO r zs) = some bs := eb
        unfold lcItem at ei
        cases et : setTg g xs[i] (wipeR ρ (tgS g)) with
        | none => rw [et] at ei; cases ei
        | some ρ' =>
          rw [et] at ei
          have s2 : Sta K B.np I2 H2 (wipe σ (tgS g)) (wipeR ρ (tgS g)) := ((s1.ext x2).ext x3).wiped (tgS g)
          refine tg_ok et (fun _ _ _ => np_pins) s2 rx fun σ' s3 hw => ⟨?_, ?_⟩
          · rw [hw (tgS g) fun _ h => h, wipe_twice]
          · have x23 := x2.trans x3
            obtain ⟨o3, ho3⟩ : ∃ o, H' Dl = some o := ⟨_, hDl⟩
            cases eI : fI ρ' with
            | none =>
              simp only [eI] at ei
              cases ei
            | some b =>
              simp only [eI] at ei
              refine hI σ' I2 H2 ρ' b _ s3 eI fun I3 H3 x4 => ?_
              have x24 := x23.trans x4
              have x34 := x3.trans x4
              have hDl3 : H3 Dl = some (.lst acc) := x34.hh _ _ hDl
              have iDl3 : I3 Dl = none := (x34.fr _ _ hDl rfl).trans iDl
              have ra3 : Reps K I3 as acc := ra.mono x34.ii _ _
              cases b with
              | false =>
                rw [if_neg Bool.false_ne_true]
                cases ei
                cases eb
                exact ⟨I3, acc, as, zs, x24, hDl3, iDl3, ra3, by omega, rfl, ey⟩
              | true =>
                rw [if_pos rfl]
                cases eE : fE ρ' with
                | none =>
                  simp only [eE] at ei
                  cases ei
                | some r' =>
                  simp only [eE] at ei
                  cases ez : esc r' with
                  | none =>
                    simp only [ez] at ei
                    cases ei
                  | some d =>
                    simp only [ez] at ei
                    cases ei
                    cases eb
                    refine hE.fz (s3.ext x4) eE ez fun v I4 H4 x5 rv => ?_
                    have x25 := x24.trans x5
                    have hDl4 : H4 Dl = some (.lst acc) := x5.hh _ _ hDl3
                    have iDl4 : I4 Dl = none := (x5.fr _ _ hDl3 rfl).trans iDl3
                    have ra4 : Reps K I4 as acc := ra3.mono x5.ii _ _
                    refine ⟨acc, hDl4, ?_, I4, acc ++ [v], as ++ [d], zs, ?_, upd_same, iDl4, ra4.app (Reps.cons rv Reps.nil), ?_, rfl, ?_⟩
                    · rw [ra4.len]
                      exact lt_line (by omega)
                    · refine ⟨x25.ii, fun b o h => ?_, fun b u h => ?_, x25.fr⟩
                      · rw [upd_ne (ne_of_none h hD)]
                        exact x25.hh b o h
                      · have : b ≠ Dl := fun z => by rw [z, iDl4] at h; cases h
                        rw [upd_ne this]
                        exact x25.su b u h
                    · rw [List.length_append, List.length_singleton]
                      omega
                    · rw [List.append_assoc]
                      exact ey
  · have hi' : i = xs.length := by omega
    subst hi'
    rw [List.drop_length] at eb
    simp only [lcRun] at eb
    cases eb
    rw [List.append_nil] at ey
    subst ey
    refine .inl ⟨(turn I' H' _ x2.ii x2.su pH').2 (Nat.le_refl _), q _ I' H' (x1.trans x2) ⟨⟨Dl, rfl, iDl, acc, hDl, ra, by omega⟩, Dl, rfl, fun a m => ?_⟩⟩
    rw [List.mem_singleton.mp m]
    cases e : H Dl with
    | none => rfl
    | some o =>
      rw [x1.hh _ _ e] at hD
      cases hD
theorem lc_ok {wi : TI} {fS : Env → Option (List D)} {g : Tg} {tt : TT} {te : TE} {fI : Env → Option Bool} {fE : Env → Option (Kd × D)} {fr : Prop} (hS : TIOk K B wi fS fr) (hI : EvOkT K B.np tt fI) (hE : EvOk K B.np te fE) :
    ∀ (σ : List (Option V)) (I H : Hp) (ρ : Env) (xs ys : List D) (Q : VK), Sta K B I H σ ρ → fS ρ = some xs → lcRun (lcItem g fI fE ρ) xs = some ys →
      (∀ v I' H', Ext I H I' H' → RK K B H I' H' .ow (.lst ys) v → Q v H') → tLc wi (rdG K g) tt te (tgS g) σ H Q :=
  fun σ I H ρ xs ys Q s e1 e2 q => lc_at (fr := fr) (fun R r => hS σ I H ρ xs R s e1 r) hI hE s e2 q
theorem items_len {I H : Hp} {d : D} {v : V} {xs : List D} (s : Sub I H) (g : See K I H d v) (h : items d = some xs) : xs.length ≤ LINE := by
  cases d <;> simp only [items] at h <;> first | (cases h; done) | skip
  · cases h
    obtain ⟨a, ys, rfl, ha, ia, ra, za⟩ := g.tup s
    exact za
  · cases h
    obtain ⟨a, ys, rfl, ha, ra, za⟩ := g.lst s
    exact za
  · cases h
    obtain ⟨a, rfl, ha, za⟩ := g.scr s
    rw [List.length_map]
    exact za
/-- over a list, a tuple, a text -/
theorem seq_ok {t : TE} {f : Env → Option D} {fr : Prop} (h : EvS K B t f fr) : TIOk K B (fun σ H R => iList K t σ H R ∨ (iTup K t σ H R ∨ iStr t σ H R)) (fun ρ => (f ρ).bind fun d => srcD .seq [d]) fr := by
  intro σ I H ρ xs R s e q
  obtain ⟨d, e1, e2⟩ := Option.bind_eq_some_iff.mp e
  cases d with
  | lst ds =>
    refine .inl (h σ I H ρ _ _ s e1 fun v I' H' x g hf => ?_)
    have e2 : some ds = some xs := e2
    cases e2
    obtain ⟨a, ys, rfl, ha, ra, za⟩ := g.lst x.su
    refine ⟨a, rfl, ⟨ys, .inl (.inl ha)⟩, q _ I' H' x (src_list x.su ha ra fun z => ?_) za⟩
    have := hf z
    simp only [Rep] at this
    obtain ⟨a', zs, e3, h1, _⟩ := this
    cases e3
    have := sub_lst x.su h1
    rw [ha] at this
    cases this
    exact h1
  | tup ds =>
    refine .inr (.inl (h σ I H ρ _ _ s e1 fun v I' H' x g hf => ?_))
    have e2 : some ds = some xs := e2
    cases e2
    obtain ⟨a, ys, rfl, ha, ia, ra, za⟩ := g.tup x.su
    exact ⟨a, rfl, ⟨ys, .inl (.inl ha)⟩, q _ I' H' x (src_tup ia ra) za⟩
  | scr ns =>
    refine .inl (h σ I H ρ _ _ s e1 fun v I' H' x g hf => ?_)
    have e2 : some (ns.map D.int) = some xs := e2
    cases e2
    rcases g with g | ⟨_, _, _, c⟩
    · simp only [Rep] at g
      obtain ⟨a, rfl, ha, za⟩ := g
      exact ⟨a, rfl, ⟨_, sql_sub x.su ha⟩, q _ I' H' x (src_scr ha) (by rw [List.length_map]; exact za)⟩
    · exact False.elim c
  | str z =>
    refine .inr (.inr (h σ I H ρ _ _ s e1 fun v I' H' x g hf => ?_))
    have e2 : some (signs z) = some xs := e2
    cases e2
    obtain ⟨e3, h1, o1⟩ := g.str
    exact ⟨z, e3, q _ I' H' x (src_str o1) (by unfold signs; rw [List.length_map, Array.length_toList]; exact h1)⟩
  | _ => simp only [srcD, items] at e2; cases e2
theorem rng_ok {t : TA} {f : Env → Option (List D)} {fr : Prop} (h : EvSA K B t f fr) (n : Nat) (hn : ∀ ρ ds, f ρ = some ds → ds.length = n) : TIOk K B (match n with | 1 => iRng1 t | 2 => iRng2 t | 3 => iRng3 t | _ => fun _ _ _ => False) (fun ρ => (f ρ).bind (srcD .rng)) fr := by
  intro σ I H ρ xs R s e q
  obtain ⟨ds, e1, e2⟩ := Option.bind_eq_some_iff.mp e
  have hl := hn ρ ds e1
  match n, ds, hl with
  | 0, [], _ => simp only [srcD] at e2; cases e2
  | 1, [a], _ =>
    refine h σ I H ρ _ _ s e1 fun vs I' H' x g hf => ?_
    cases a <;> simp only [srcD] at e2 <;> first | (cases e2; done) | skip
    split at e2
    · rename_i j _ hz
      cases e2
      obtain ⟨v, rfl, g1⟩ := g.one
      obtain ⟨b1, b2⟩ := small62_iff.mp hz.1
      refine ⟨j, by rw [g1.int], b1, b2, ?_⟩
      have := src_rng (K := K) (I := I') (H := H') (a := 0) (b := j) (fr := fr)
      rw [Int.sub_zero] at this
      exact q _ I' H' x this (by rw [List.length_map, rangeL_len, Int.sub_zero]; exact hz.2)
    · cases e2
  | 2, [a, b], _ =>
    refine h σ I H ρ _ _ s e1 fun vs I' H' x g hf => ?_
    cases a <;> (try simp only [srcD] at e2) <;> first | (cases e2; done) | skip
    cases b <;> (try simp only [srcD] at e2) <;> first | (cases e2; done) | skip
    split at e2
    · rename_i i j _ hz
      cases e2
      obtain ⟨v, w, rfl, g1, g2⟩ := g.two
      obtain ⟨b1, b2⟩ := small62_iff.mp hz.1
      obtain ⟨b3, b4⟩ := small62_iff.mp hz.2.1
      exact ⟨i, j, by rw [g1.int, g2.int], ⟨b1, b2, b3, b4⟩, q _ I' H' x src_rng (by rw [List.length_map, rangeL_len]; exact hz.2.2)⟩
    · cases e2
  | 3, [a, b, c], _ =>
    refine h σ I H ρ _ _ s e1 fun vs I' H' x g hf => ?_
    cases a <;> (try simp only [srcD] at e2) <;> first | (cases e2; done) | skip
    cases b <;> (try simp only [srcD] at e2) <;> first | (cases e2; done) | skip
    cases c <;> (try simp only [srcD] at e2) <;> first | (cases e2; done) | skip
    split at e2
    · rename_i i j k _ hz
      cases e2
      obtain ⟨v, r, rfl, g0, g⟩ := g
      obtain ⟨v2, w2, rfl, g1, g2⟩ := g.two
      obtain ⟨b1, b2⟩ := small62_iff.mp hz.1
      obtain ⟨b3, b4⟩ := small62_iff.mp hz.2.1
      obtain ⟨_, _, hz3, hc⟩ := hz
      subst hc
      refine ⟨i, j, -1, (i - j).toNat, by rw [g0.int, g1.int, g2.int], RgC.neg b1 b2 b3 b4, q _ I' H' x ?_ ?_⟩
      · refine ⟨fun H' => True, trivial, fun _ _ => trivial, fun _ _ _ => trivial, fun I'' H'' n ii su _ => ⟨fun d hd => ?_, fun hi => ?_⟩⟩
        · unfold downL at hd
          rw [List.map_map, List.getElem?_map] at hd
          obtain ⟨m, hm, rfl⟩ := Option.map_eq_some_iff.mp hd
          have hn : n < (i - j).toNat := by
            have := (List.getElem?_eq_some_iff.mp hm).1
            rw [List.length_range] at this
            exact this
          rw [List.getElem?_range hn] at hm
          cases hm
          refine ⟨hn, fun y H3 hy => ?_⟩
          obtain ⟨rfl, rfl⟩ := hy
          refine ⟨I'', Ext.refl su, ?_⟩
          have : i + (n : Int) * -1 = i - (n : Int) := by omega
          rw [this]
          exact rep_int
        · unfold downL at hi
          rw [List.length_map, List.length_map, List.length_range] at hi
          exact hi
      · unfold downL
        rw [List.length_map, List.length_map, List.length_range]
        exact hz3
    · cases e2
  | n + 4, ds, hl =>
    exfalso
    rcases ds with _ | ⟨a, _ | ⟨b, _ | ⟨c, _ | ⟨d, r⟩⟩⟩⟩ <;> simp [srcD] at hl e2
theorem enum_ok {t : TA} {f : Env → Option (List D)} {fr : Prop} (h : EvSA K B t f fr) : TIOk K B (fun σ H R => iEnum K t σ H R ∨ iEnumT K t σ H R) (fun ρ => (f ρ).bind (srcD .enum)) fr := by
  intro σ I H ρ xs R s e q
  obtain ⟨ds, e1, e2⟩ := Option.bind_eq_some_iff.mp e
  unfold srcD at e2
  split at e2 <;> first | (rename_i z; cases z; done) | skip
  all_goals first | (cases e2; done) | skip
  · cases e2
    refine .inl (h σ I H ρ _ _ s e1 fun vs I' H' x g hf => ?_)
    obtain ⟨v, rfl, g1⟩ := g.one
    obtain ⟨a, ys, rfl, ha, ra, za⟩ := g1.lst x.su
    refine ⟨a, ys, rfl, .inl (.inl ha), q _ I' H' x (src_enum x.su ha ra fun z => ?_) (by rw [List.length_map, List.length_zipIdx]; exact za)⟩
    have := hf z
    simp only [Reps] at this
    obtain ⟨_, _, e3, h1, _⟩ := this
    simp only [Rep] at h1
    obtain ⟨a', zs, e4, h2, _⟩ := h1
    cases e3
    cases e4
    have := sub_lst x.su h2
    rw [ha] at this
    cases this
    exact h2
  · cases e2
    refine .inr (h σ I H ρ _ _ s e1 fun vs I' H' x g hf => ?_)
    obtain ⟨v, rfl, g1⟩ := g.one
    obtain ⟨a, ys, rfl, ha, ia, ra, za⟩ := g1.tup x.su
    exact ⟨a, ys, rfl, .inl (.inl ha), q _ I' H' x (src_enumT ia ra) (by rw [List.length_map, List.length_zipIdx]; exact za)⟩
end
end R

set_option linter.all false
set_option maxHeartbeats 4000000
/-! All expressions. -/
namespace R
open PySem L2
section
variable {K : PySem.W.Frag} {B : Bd} {cl : Nat → List D → Option (Kd × D)} {sp : Nat → Sp}
theorem EvOk.s0 {t : TE} {f : Env → Option (Kd × D)} (h : EvOk K B t f) : EvS K B t (fun ρ => (f ρ).map (·.2)) False := by
  intro σ I H ρ d Q s e q
  obtain ⟨⟨k, d'⟩, e1, rfl⟩ := Option.map_eq_some_iff.mp e
  exact h.see s e1 fun v I' H' x g => q v I' H' x g False.elim
theorem EvOk.s1 {t : TE} {f : Env → Option (Kd × D)} (h : EvOk K B t f) : EvS K B t (fun ρ => (f ρ).bind esc) True := by
  intro σ I H ρ d Q s e q
  obtain ⟨r, e1, e2⟩ := Option.bind_eq_some_iff.mp e
  exact h.fz s e1 e2 fun v I' H' x g => q v I' H' x (.inl g) fun _ => g
theorem Reps.sees {I H : Hp} : ∀ {ds : List D} {vs : List V}, Reps K I ds vs → Sees K I H ds vs
  | [], vs, h => by
    simp only [Reps] at h
    exact h
  | d :: ds, vs, h => by
    simp only [Reps] at h
    obtain ⟨x, r, e, h1, h2⟩ := h
    exact ⟨x, r, e, .inl h1, Reps.sees h2⟩
theorem EvOkB.s0 {t : TA} {f : Env → Option (List D)} (h : EvOkB K B t f) : EvSA K B t f False :=
  fun σ I H ρ d Q s e q => h σ I H ρ d Q s e fun vs I' H' x g => q vs I' H' x g False.elim
theorem EvOkF.s1 {t : TA} {f : Env → Option (List D)} (h : EvOkF K B t f) : EvSA K B t f True :=
  fun σ I H ρ d Q s e q => h σ I H ρ d Q s e fun vs I' H' x g => q vs I' H' x g.sees fun _ => g
theorem evB_len : ∀ {es : List IE} {ρ : Env} {ds : List D}, evB cl es ρ = some ds → ds.length = es.length
  | [], ρ, ds, h => by
    simp only [evB] at h
    cases h
    rfl
  | e :: es, ρ, ds, h => by
    simp only [evB] at h
    split at h
    · cases h
    · split at h
      · cases h
      · rename_i e2
        cases h
        rw [List.length_cons, List.length_cons, evB_len e2]
theorem evF_len : ∀ {es : List IE} {ρ : Env} {ds : List D}, evF cl es ρ = some ds → ds.length = es.length
  | [], ρ, ds, h => by
    simp only [evF] at h
    cases h
    rfl
  | e :: es, ρ, ds, h => by
    simp only [evF] at h
    split at h
    · cases h
    · split at h
      · cases h
      · split at h
        · cases h
        · rename_i e2
          cases h
          rw [List.length_cons, List.length_cons, evF_len e2]
theorem evB_one {e : IE} {ρ : Env} : evB cl [e] ρ = ((evE cl e ρ).map (·.2)).map fun d => [d] := by
  simp only [evB]
  cases evE cl e ρ <;> rfl
theorem evF_one {e : IE} {ρ : Env} : evF cl [e] ρ = ((evE cl e ρ).bind esc).map fun d => [d] := by
  simp only [evF]
  cases evE cl e ρ with
  | none => rfl
  | some r =>
    show (match esc r with | none => none | some d => some [d]) = (esc r).map fun d => [d]
    cases esc r <;> rfl
theorem zip_ok {t : TA} {f : Env → Option (List D)} {fr : Prop} (h : EvSA K B t f fr) : TIOk K B (iZip K t) (fun ρ => (f ρ).bind (srcD .zip)) fr := by
  intro σ I H ρ xs R s e q
  obtain ⟨ds, e1, e2⟩ := Option.bind_eq_some_iff.mp e
  refine h σ I H ρ _ _ s e1 fun vs I' H' x g hf => ?_
  unfold srcD at e2
  split at e2 <;> first | (rename_i z; cases z; done) | skip
  all_goals first | (cases e2; done) | skip
  cases e2
  rename_i z1 z2 es1 es2 _
  obtain ⟨v, w, rfl, g1, g2⟩ := g.two
  obtain ⟨a, ys, rfl, ha, ra, za⟩ := g1.lst x.su
  obtain ⟨b, zs, rfl, hb, rb, zb⟩ := g2.lst x.su
  have fz : fr → I' a = some (.lst ys) ∧ I' b = some (.lst zs) := fun z => by
    have := hf z
    simp only [Reps] at this
    obtain ⟨_, _, e3, h1, _, _, e5, h3, _⟩ := this
    simp only [Rep] at h1 h3
    obtain ⟨a', ys', e4, h2, _⟩ := h1
    obtain ⟨b', zs', e6, h4, _⟩ := h3
    cases e3
    cases e5
    cases e4
    cases e6
    have q1 := sub_lst x.su h2
    have q2 := sub_lst x.su h4
    rw [ha] at q1
    rw [hb] at q2
    cases q1
    cases q2
    exact ⟨h2, h4⟩
  exact ⟨a, b, ys, zs, rfl, .inl (.inl ha), .inl (.inl hb), q _ I' H' x (src_zip x.su ha ra (fun z => (fz z).1) hb rb fun z => (fz z).2) (by rw [List.length_map, List.length_zip]; omega)⟩
/-- what is walked -/
theorem src_any {k : SK} {es : List IE} {f : Env → Option (List D)} {fr : Prop} (hk : k ≠ .keys) (hA : EvSA K B (rdA K sp es) f fr) (hn : ∀ ρ ds, f ρ = some ds → ds.length = es.length)
    (h1 : ∀ e, es = [e] → ∃ g, EvS K B (rdE K sp e) g fr ∧ ∀ ρ, f ρ = (g ρ).map fun d => [d]) : TIOk K B (rdSrc K k (rdL K sp es) (rdA K sp es)) (fun ρ => (f ρ).bind (srcD k)) fr := by
  have bad : ∀ {wi : TI}, (∀ ρ ds, f ρ = some ds → srcD k ds = none) → TIOk K B wi (fun ρ => (f ρ).bind (srcD k)) fr := fun {wi} hb σ I H ρ xs R s e q => by
    obtain ⟨ds, e1, e2⟩ := Option.bind_eq_some_iff.mp e
    rw [hb ρ ds e1] at e2
    cases e2
  cases k with
  | keys => exact absurd rfl hk
  | seq =>
    match es, hn, h1, hA with
    | [e], hn, h1, hA =>
      obtain ⟨g, hg, eg⟩ := h1 e rfl
      have := seq_ok hg
      simp only [rdL, rdSrc]
      intro σ I H ρ xs R s e q
      refine this σ I H ρ xs R s ?_ q
      have e : (f ρ).bind (srcD .seq) = some xs := e
      rw [eg] at e
      cases e3 : g ρ with
      | none => rw [e3] at e; cases e
      | some d =>
        rw [e3] at e
        show (g ρ).bind _ = _
        rw [e3]
        exact e
    | [], hn, _, _ =>
      refine bad fun ρ ds e => ?_
      have := hn ρ ds e
      cases ds <;> first | rfl | simp at this
    | _ :: _ :: _, hn, _, _ =>
      refine bad fun ρ ds e => ?_
      have := hn ρ ds e
      rcases ds with _ | ⟨a, _ | ⟨b, r⟩⟩ <;> first | (simp at this; done) | (simp [srcD])
  | rng =>
    match es, hn, hA with
    | [], hn, hA =>
      refine bad fun ρ ds e => ?_
      have := hn ρ ds e
      cases ds <;> first | rfl | simp at this
    | [_], hn, hA => exact rng_ok hA 1 hn
    | [_, _], hn, hA => exact rng_ok hA 2 hn
    | [_, _, _], hn, hA => exact rng_ok hA 3 hn
    | _ :: _ :: _ :: _ :: _, hn, hA =>
      refine bad fun ρ ds e => ?_
      have := hn ρ ds e
      rcases ds with _ | ⟨a, _ | ⟨b, _ | ⟨c, _ | ⟨d, r⟩⟩⟩⟩ <;> first | (simp at this; done) | (simp [srcD])
  | enum =>
    match es, hn, hA with
    | [_], hn, hA => exact enum_ok hA
    | [], hn, _ =>
      refine bad fun ρ ds e => ?_
      have := hn ρ ds e
      cases ds <;> first | rfl | simp at this
    | _ :: _ :: _, hn, _ =>
      refine bad fun ρ ds e => ?_
      have := hn ρ ds e
      rcases ds with _ | ⟨a, _ | ⟨b, r⟩⟩ <;> first | (simp at this; done) | (simp [srcD])
  | zip =>
    match es, hn, hA with
    | [_, _], hn, hA => exact zip_ok hA
    | [], hn, _ =>
      refine bad fun ρ ds e => ?_
      have := hn ρ ds e
      cases ds <;> first | rfl | simp at this
    | [_], hn, _ =>
      refine bad fun ρ ds e => ?_
      have := hn ρ ds e
      rcases ds with _ | ⟨a, _ | ⟨b, r⟩⟩ <;> first | (simp at this; done) | (simp [srcD])
    | _ :: _ :: _ :: _, hn, _ =>
      refine bad fun ρ ds e => ?_
      have := hn ρ ds e
      rcases ds with _ | ⟨a, _ | ⟨b, _ | ⟨c, r⟩⟩⟩ <;> first | (simp at this; done) | (simp [srcD])
  | rev =>
    refine bad fun ρ ds e => ?_
    simp [srcD]
end
end R

set_option linter.all false
set_option maxHeartbeats 8000000
/-! All expressions. -/
namespace R
open PySem L2
section
variable {K : PySem.W.Frag} {B : Bd} {cl : Nat → List D → Option (Kd × D)} {sp : Nat → Sp}
/-! ### walking a dict -/
theorem zip_get {κ : Type} {ks : List κ} {xs : List V} {i : Nat} (hl : ks.length = xs.length) : ∀ k v, (ks.zip xs)[i]? = some (k, v) → ks[i]? = some k := fun k v h => (List.getElem?_zip_eq_some.mp h).1
theorem src_keysK {I H1 : Hp} {a : Addr} {od : Obj} {ks : List Key} {xs : List V} {fr : Prop} (hl : ks.length = xs.length) (hi : I a = some (.dK (ks.zip xs))) (hok : ks.all okK = true) (h1 : H1 a = some (.frz od (.dK (ks.zip xs)))) : SrcOk K (Itk a od (ks.zip xs)) I H1 (ks.map dOfKey) fr := by
  have zl : (ks.zip xs).length = ks.length := by rw [List.length_zip]; omega
  refine ⟨fun H' => H' a = some (.frz od (.dK (ks.zip xs))), h1, fun H' k => k a _ h1, fun _ H' k => (k a _ hi).trans h1, fun I' H' i ii su p => ⟨fun d hd => ?_, fun hle => ⟨p, by rw [zl]; rw [List.length_map] at hle; exact hle⟩⟩⟩
  rw [List.getElem?_map] at hd
  obtain ⟨k, hk, rfl⟩ := Option.map_eq_some_iff.mp hd
  have hlt := (List.getElem?_eq_some_iff.mp hk).1
  refine ⟨⟨p, by rw [zl]; exact hlt⟩, fun x H'' hy => ?_⟩
  obtain ⟨rfl, k', v, hkv, rfl⟩ := hy
  have := zip_get hl k' v hkv
  rw [hk] at this
  cases this
  exact ⟨I', Ext.refl su, okK_rep (List.all_eq_true.mp hok k (List.mem_of_getElem? hk))⟩
theorem nref_kV (k : List Key) : (k.map kV).all nref = true := by
  rw [List.all_eq_true]
  intro x h
  obtain ⟨q, _, rfl⟩ := List.mem_map.mp h
  cases q <;> rfl
theorem src_keysT {I H1 : Hp} {a : Addr} {od : Obj} {ks : List (List Key)} {xs : List V} {fr : Prop} (hl : ks.length = xs.length) (hi : I a = some (.dT (ks.zip xs))) (hok : ks.all okKs = true) (h1 : H1 a = some (.frz od (.dT (ks.zip xs)))) : SrcOk K (Itkt a od (ks.zip xs)) I H1 (ks.map fun k => .tup (k.map dOfKey)) fr := by
  have zl : (ks.zip xs).length = ks.length := by rw [List.length_zip]; omega
  refine ⟨fun H' => H' a = some (.frz od (.dT (ks.zip xs))), h1, fun H' k => k a _ h1, fun _ H' k => (k a _ hi).trans h1, fun I' H' i ii su p => ⟨fun d hd => ?_, fun hle => ⟨p, by rw [zl]; rw [List.length_map] at hle; exact hle⟩⟩⟩
  rw [List.getElem?_map] at hd
  obtain ⟨k, hk, rfl⟩ := Option.map_eq_some_iff.mp hd
  have hlt := (List.getElem?_eq_some_iff.mp hk).1
  refine ⟨⟨p, by rw [zl]; exact hlt⟩, fun x H'' hy => ?_⟩
  obtain ⟨rfl, k', v, q, hkv, rfl, hq⟩ := hy
  have := zip_get hl k' v hkv
  rw [hk] at this
  cases this
  have hk2 := List.all_eq_true.mp hok k (List.mem_of_getElem? hk)
  simp only [okKs, Bool.and_eq_true, decide_eq_true_eq] at hk2
  -- the key's own tuple: frozen from here on
  cases e : I' q with
  | none =>
    exact ⟨upd I' q (.tup (k.map kV)), (Ext.refl su).freezeT hq (nref_kV _) e, rep_tup upd_same (okKs_rep hk2.2) (by rw [List.length_map]; exact hk2.1)⟩
  | some u =>
    have : u = .tup (k.map kV) := by
      rcases su q u e with z | ⟨z, od', z2⟩
      · rw [hq] at z
        cases z
        rfl
      · rw [hq] at z2
        cases z2
    subst this
    exact ⟨I', Ext.refl su, rep_tup e (okKs_rep hk2.2) (by rw [List.length_map]; exact hk2.1)⟩

/-- the place of a dict that is walked -/
theorem path_ok {e : IE} {σ : List (Option V)} {I H : Hp} {ρ : Env} {d : D} (hp : keysPath [e] = true) (s : Sta K B I H σ ρ) (h : evE cl e ρ = some (.fz, d)) (hd : isDct d = true) :
    ∃ a u, I a = some u ∧ isDic u = true ∧ Rep K I d (.ref a) ∧ ∀ (H1 : Hp) (Q : VK), (∀ b o, b ≠ a → H b = some o → H1 b = some o) → Q (.ref a) H1 → rdE K sp e σ H1 Q := by
  have key : ∀ v, Rep K I d v → ∃ a u, v = .ref a ∧ I a = some u ∧ isDic u = true := fun v r => by
    cases d with
    | dk ks ws =>
      simp only [Rep] at r
      obtain ⟨a, xs, e, h1, _⟩ := r
      exact ⟨a, _, e, h1, rfl⟩
    | dt ks ws =>
      simp only [Rep] at r
      obtain ⟨a, xs, e, h1, _⟩ := r
      exact ⟨a, _, e, h1, rfl⟩
    | _ => cases hd
  cases e with
  | var i =>
    simp only [evE] at h
    split at h
    · rename_i d' hd'
      cases h
      obtain ⟨v, h1, h2⟩ := s.sl.fz i d hd'
      obtain ⟨a, u, rfl, h3, h4⟩ := key v h2
      refine ⟨a, u, h3, h4, h2, fun H1 Q _ q => ?_⟩
      simp only [rdE]
      exact ⟨_, h1, q⟩
    · cases h
    · cases h
  | ix e1 e2 =>
    cases e1 <;> first | (simp only [keysPath] at hp; cases hp; done) | skip
    cases e2 <;> first | (simp only [keysPath] at hp; cases hp; done) | skip
    rename_i i j
    rw [evE] at h
    have fin : ∀ (x : D) (v : V), σ[i]? = some (some v) → See K I H x v → ixD x (.int j) = some d →
        ∃ a u, I a = some u ∧ isDic u = true ∧ Rep K I d (.ref a) ∧ ∀ (H1 : Hp) (Q : VK), (∀ b o, b ≠ a → H b = some o → H1 b = some o) → Q (.ref a) H1 → rdE K sp (.ix (.var i) (.int j)) σ H1 Q := fun x v hv g hx => by
      cases x with
      | lst ds =>
        obtain ⟨p, xs, rfl, hp', ra, za⟩ := g.lst s.su
        obtain ⟨w, h1, h2⟩ := ra.at hx
        obtain ⟨a, u, rfl, h3, h4⟩ := key w h2
        have ne : p ≠ a := fun z => by
          rcases s.su a u h3 with q | ⟨_, od, q⟩
          · rw [← z, hp'] at q
            cases q
            cases h4
          · rw [← z, hp'] at q
            cases q
        refine ⟨a, u, h3, h4, h2, fun H1 Q hk q => ?_⟩
        simp only [rdE]
        exact .inl ⟨_, hv, .inl ⟨p, xs, j, .ref a, rfl, rfl, .inl (.inl (hk p _ ne hp')), h1, q⟩⟩
      | tup ds =>
        obtain ⟨p, xs, rfl, hp', ip, ra, za⟩ := g.tup s.su
        obtain ⟨w, h1, h2⟩ := ra.at hx
        obtain ⟨a, u, rfl, h3, h4⟩ := key w h2
        have ne : p ≠ a := fun z => by
          rcases s.su a u h3 with q | ⟨_, od, q⟩
          · rw [← z, hp'] at q
            cases q
            cases h4
          · rw [← z, hp'] at q
            cases q
        refine ⟨a, u, h3, h4, h2, fun H1 Q hk q => ?_⟩
        simp only [rdE]
        exact .inl ⟨_, hv, .inr (.inl ⟨p, xs, j, .ref a, rfl, rfl, .inl (.inl (hk p _ ne hp')), h1, q⟩)⟩
      | dk ks ws =>
        simp only [keysPath, decide_eq_true_eq] at hp
        simp only [ixD, if_pos hp] at hx
        cases hx
      | dt ks ws => simp only [ixD] at hx; cases hx
      | scr ns =>
        simp only [ixD] at hx
        obtain ⟨n, _, rfl⟩ := Option.map_eq_some_iff.mp hx
        cases hd
      | str z =>
        simp only [ixD] at hx
        obtain ⟨n, _, rfl⟩ := Option.map_eq_some_iff.mp hx
        cases hd
      | _ => simp only [ixD] at hx; cases hx
    cases ev : evE cl (.var i) ρ with
    | none => rw [ev] at h; cases h
    | some r =>
      obtain ⟨k0, x⟩ := r
      rw [ev] at h
      simp only [evE] at h
      cases ex : ixD x (.int j) with
      | none => rw [ex] at h; cases h
      | some d' =>
        rw [ex] at h
        cases h
        simp only [evE] at ev
        cases er : ρ[i]? with
        | none => rw [er] at ev; cases ev
        | some o =>
          cases o with
          | none => rw [er] at ev; cases ev
          | some r =>
            obtain ⟨k1, y⟩ := r
            rw [er] at ev
            cases k1 with
            | fz =>
              cases ev
              obtain ⟨v, h1, h2⟩ := s.sl.fz i _ er
              exact fin _ v h1 (.inl h2) ex
            | ow =>
              cases ev
              obtain ⟨p, h1, h2, h3, _⟩ := s.sl.ow i _ er
              exact fin _ (.ref p) h1 (.inr ⟨p, rfl, h2, h3⟩) ex
            | bo => exact absurd er (s.sl.bo i y)
  | _ => simp only [keysPath] at hp; cases hp
end
end R

set_option linter.all false
set_option maxHeartbeats 8000000
/-! All expressions. -/
namespace R
open PySem L2
section
variable {K : PySem.W.Frag} {B : Bd} {cl : Nat → List D → Option (Kd × D)} {sp : Nat → Sp}
theorem snd_var (i : Nat) : EvOk K B (tVar i) (evE cl (.var i)) := by
  intro σ I H ρ k d Q s h q
  simp only [evE] at h
  cases er : ρ[i]? with
  | none => rw [er] at h; cases h
  | some o =>
    cases o with
    | none => rw [er] at h; cases h
    | some r =>
      obtain ⟨k1, y⟩ := r
      rw [er] at h
      cases k1 with
      | fz =>
        cases h
        obtain ⟨v, h1, h2⟩ := s.sl.fz i _ er
        exact ⟨v, h1, q v I H (Ext.refl s.su) h2⟩
      | ow =>
        cases h
        obtain ⟨p, h1, h2, h3, h4⟩ := s.sl.ow i _ er
        exact ⟨_, h1, q _ I H (Ext.refl s.su) ⟨⟨p, rfl, h2, h3⟩, p, rfl, h4⟩⟩
      | bo => exact absurd er (s.sl.bo i y)
theorem snd_c {e : IE} {d : D} {x : V} (h : ∀ ρ, evE cl e ρ = some (.fz, d)) (r : ∀ I : Hp, Rep K I d x) : EvOk K B (tC x) (evE cl e) := by
  intro σ I H ρ k d' Q s h' q
  rw [h] at h'
  cases h'
  exact q x I H (Ext.refl s.su) (r I)
theorem snd_ix {a b : IE} {ta tb : TE} (ha : EvOk K B ta (evE cl a)) (hb : EvOk K B tb (evE cl b)) : EvOk K B (fun σ H Q => tOp (rIx K) ta tb σ H Q ∨ tDGet ta tb σ H Q) (evE cl (.ix a b)) := by
  intro σ I H ρ k d Q s h q
  rw [evE] at h
  split at h
  · cases h
  · rename_i k1 x e1
    split at h
    · cases h
    · rename_i k2 y e2
      split at h
      · cases h
      · rename_i d' e3
        cases h
        cases hd : isDct x with
        | false =>
          exact .inl (two_ok ha hb s e1 e2 fun v w I' H' z g1 g2 => (ix_ok e3 z.su g1 g2 (Q := Q) fun u r => q u I' H' z r).1 hd)
        | true =>
          refine .inr (two_ok ha hb s e1 e2 fun v w I' H' z g1 g2 => ?_)
          obtain ⟨a, u, h1, h2, h3⟩ := (ix_ok e3 z.su g1 g2 (Q := Q) fun u r => q u I' H' z r).2 hd
          exact ⟨a, u, h1, h2, h3⟩
theorem snd_call (hc : CallOk K cl sp) {f : Nat} {es : List IE} {ta : TA} (ha : EvOkF K B ta (evF cl es)) : EvOk K B (tCall (sp f) [] E0 ta) (evE cl (.call f es)) := by
  intro σ I H ρ k d Q s h q
  rw [evE] at h
  split at h
  · cases h
  · rename_i ds e1
    refine ha σ I H ρ ds _ s e1 fun vs I' H' x r => ?_
    rw [List.append_nil]
    obtain ⟨h, nb⟩ := okc_some h
    exact hc.fz f ds k d h (fun z => absurd z nb) B vs I' H' Q E0 x.su r (fun _ v I'' H'' y g => q v I'' H'' (x.trans y) (RK.step x g)) fun z => absurd z nb
theorem OwnC1.nfz {I H : Hp} {p : Addr} {d : D} (h : OwnC1 K I H p d) {od : Obj} {u : HO} : H p ≠ some (.frz od u) := by
  intro z
  cases d with
  | lst _ => obtain ⟨xs, e, _⟩ := h; rw [e] at z; cases z
  | dk _ _ => obtain ⟨xs, e, _⟩ := h; rw [e] at z; cases z
  | dt _ _ => obtain ⟨xs, e, _⟩ := h; rw [e] at z; cases z
  | _ => exact False.elim h
theorem OwnC.nfz {I H : Hp} {p : Addr} {d : D} (h : OwnC K I H p d) {od : Obj} {u : HO} : ∀ a ∈ foot H p d, H a ≠ some (.frz od u) := by
  intro a m z
  cases d with
  | ob c ns ks ds =>
    obtain ⟨dx, xs, e, l, f, n, _⟩ := h
    rcases List.mem_cons.mp m with q | q
    · subst q
      rw [e] at z
      cases z
    · rw [kids_ob e l] at q
      obtain ⟨h1, d', h2⟩ := f.kid q
      exact h2.nfz z
  | io js r outs =>
    obtain ⟨ds, xs, rfl, e, f, n, ne, _⟩ := h
    rcases List.mem_cons.mp m with q | q
    · subst q
      rw [e] at z
      cases z
    · rw [kids_io e] at q
      obtain ⟨h1, d', h2⟩ := f.kid q
      exact h2.nfz z
  | lst _ =>
    have := List.mem_singleton.mp m
    subst this
    exact OwnC1.nfz (d := .lst _) h z
  | dk _ _ =>
    have := List.mem_singleton.mp m
    subst this
    exact OwnC1.nfz (d := .dk _ _) h z
  | dt _ _ =>
    have := List.mem_singleton.mp m
    subst this
    exact OwnC1.nfz (d := .dt _ _) h z
  | _ => exact False.elim h
theorem OwnC1.ntup {I H : Hp} {p : Addr} {d : D} (h : OwnC1 K I H p d) {xs : List V} : H p ≠ some (.tup xs) := by
  intro z
  cases d with
  | lst _ => obtain ⟨xs, e, _⟩ := h; rw [e] at z; cases z
  | dk _ _ => obtain ⟨xs, e, _⟩ := h; rw [e] at z; cases z
  | dt _ _ => obtain ⟨xs, e, _⟩ := h; rw [e] at z; cases z
  | _ => exact False.elim h
theorem OwnC.ntup {I H : Hp} {p : Addr} {d : D} (h : OwnC K I H p d) (n : nio d = true) : ∀ a ∈ foot H p d, ∀ xs, H a ≠ some (.tup xs) := by
  intro a m xs z
  cases d with
  | ob c ns ks ds =>
    obtain ⟨dx, xs, e, l, f, n, _⟩ := h
    rcases List.mem_cons.mp m with q | q
    · subst q
      rw [e] at z
      cases z
    · rw [kids_ob e l] at q
      obtain ⟨h1, d', h2⟩ := f.kid q
      exact h2.ntup z
  | io js r outs => cases n
  | lst _ =>
    have := List.mem_singleton.mp m
    subst this
    exact OwnC1.ntup (d := .lst _) h z
  | dk _ _ =>
    have := List.mem_singleton.mp m
    subst this
    exact OwnC1.ntup (d := .dk _ _) h z
  | dt _ _ =>
    have := List.mem_singleton.mp m
    subst this
    exact OwnC1.ntup (d := .dt _ _) h z
  | _ => exact False.elim h
theorem OwnC.rep {I I' H : Hp} {p : Addr} {d : D} (h : OwnC K I H p d) (ii : ∀ b o, I b = some o → I' b = some o) (at_ : ∀ b ∈ foot H p d, I' b = H b) : Rep K I' d (.ref p) := by
  cases d with
  | ob c ns ks ds =>
    obtain ⟨dx, xs, e, l, f, n, z⟩ := h
    simp only [Rep]
    refine ⟨p, dx, xs, rfl, (at_ p foot_self).trans e, f.reps ii fun a m => at_ a ?_, l⟩
    unfold foot
    rw [kids_ob e l]
    exact List.mem_cons_of_mem _ m
  | io js r outs =>
    obtain ⟨ds, xs, rfl, e, f, n, ne, z⟩ := h
    simp only [Rep]
    refine ⟨⟨ds, rfl⟩, p, xs, rfl, (at_ p foot_self).trans e, f.reps ii fun a m => at_ a ?_, z⟩
    unfold foot
    rw [kids_io e]
    exact List.mem_cons_of_mem _ m
  | lst _ => exact OwnC1.rep (d := .lst _) h ii (at_ p foot_self)
  | dk _ _ => exact OwnC1.rep (d := .dk _ _) h ii (at_ p foot_self)
  | dt _ _ => exact OwnC1.rep (d := .dt _ _) h ii (at_ p foot_self)
  | _ => exact False.elim h
/-- lent: frozen for a while -/
theorem lend {I H : Hp} (su : Sub I H) : ∀ {ds : List D} {vs : List V}, Sees K I H ds vs → ∃ I1, (∀ b o, I b = some o → I1 b = some o) ∧ Sub I1 H ∧ Reps K I1 ds vs
  | [], vs, h => by
    obtain rfl : vs = [] := h
    exact ⟨I, fun _ _ h => h, su, Reps.nil⟩
  | d :: ds, vs, h => by
    obtain ⟨v, r, rfl, h1, h2⟩ := h
    obtain ⟨I1, i1, s1, r1⟩ := lend su h2
    rcases h1 with h1 | ⟨p, rfl, hp, c⟩
    · exact ⟨I1, i1, s1, Reps.cons (h1.mono i1 _ _) r1⟩
    · have at_ : ∀ b ∈ foot H p d, (fun b => if b ∈ foot H p d then H b else I1 b) b = H b := fun b m => if_pos m
      have i2 : ∀ b o, I1 b = some o → (fun b => if b ∈ foot H p d then H b else I1 b) b = some o := fun b u e => by
        show (if b ∈ foot H p d then H b else I1 b) = some u
        by_cases m : b ∈ foot H p d
        · rw [if_pos m]
          rcases s1 b u e with q | ⟨_, od, q⟩
          · exact q
          · exact absurd q (c.nfz b m)
        · rw [if_neg m]
          exact e
      refine ⟨_, fun b o e => i2 b o (i1 b o e), fun b u e => ?_, Reps.cons (c.rep (fun b o e => i2 b o (i1 b o e)) at_) (r1.mono i2 _ _)⟩
      have e : (if b ∈ foot H p d then H b else I1 b) = some u := e
      split at e
      · exact .inl e
      · exact s1 b u e
theorem flat_rep {I I' : Hp} {d : D} {v : V} (f : flat d = true) (r : Rep K I d v) : Rep K I' d v := by
  cases d <;> first | (cases f; done) | (simpa only [Rep] using r)
theorem flc_some {as : List D} {r : Option (Kd × D)} {k : Kd} {d : D} (h : flc as r = some (k, d)) : r = some (k, d) ∧ k = .fz ∧ (flat d = true ∨ (d.nol = true ∧ as.all nio = true)) := by
  unfold flc at h
  split at h
  · split at h
    · rename_i hf
      cases h
      rw [Bool.or_eq_true, Bool.and_eq_true] at hf
      exact ⟨rfl, rfl, hf⟩
    · cases h
  · cases h
mutual
theorem nol_rep {I I' : Hp} (tt : ∀ b xs, I b = some (.tup xs) → I' b = some (.tup xs)) : ∀ (d : D) (v : V), d.nol = true → Rep K I d v → Rep K I' d v
  | .non, v, _, h => by simpa only [Rep] using h
  | .bl _, v, _, h => by simpa only [Rep] using h
  | .int _, v, _, h => by simpa only [Rep] using h
  | .str _, v, _, h => by simpa only [Rep] using h
  | .tup ds, v, n, h => by
    simp only [D.nol] at n
    simp only [Rep] at h ⊢
    obtain ⟨a, xs, e, h1, h2, h3⟩ := h
    exact ⟨a, xs, e, tt _ _ h1, nols_rep tt ds xs n h2, h3⟩
  | .lst _, _, n, _ => by simp [D.nol] at n
  | .dk _ _, _, n, _ => by simp [D.nol] at n
  | .dt _ _, _, n, _ => by simp [D.nol] at n
  | .scr _, _, n, _ => by simp [D.nol] at n
  | .exc _, _, n, _ => by simp [D.nol] at n
  | .ob _ _ _ _, _, n, _ => by simp [D.nol] at n
  | .io _ _ _, _, n, _ => by simp [D.nol] at n
theorem nols_rep {I I' : Hp} (tt : ∀ b xs, I b = some (.tup xs) → I' b = some (.tup xs)) : ∀ (ds : List D) (xs : List V), D.nols ds = true → Reps K I ds xs → Reps K I' ds xs
  | [], xs, _, h => by simpa only [Reps] using h
  | d :: ds, xs, n, h => by
    simp only [D.nols, Bool.and_eq_true] at n
    simp only [Reps] at h ⊢
    obtain ⟨x, r, e, h1, h2⟩ := h
    exact ⟨x, r, e, nol_rep tt d x n.1 h1, nols_rep tt ds r n.2 h2⟩
end
/-- lent: what is frozen for a while is no tuple -/
theorem lendT {I H : Hp} (su : Sub I H) : ∀ {ds : List D} {vs : List V}, ds.all nio = true → Sees K I H ds vs → ∃ I1, (∀ b o, I b = some o → I1 b = some o) ∧ Sub I1 H ∧ Reps K I1 ds vs ∧ ∀ b xs, I1 b = some (.tup xs) → I b = some (.tup xs)
  | [], vs, _, h => by
    obtain rfl : vs = [] := h
    exact ⟨I, fun _ _ h => h, su, Reps.nil, fun _ _ h => h⟩
  | d :: ds, vs, n, h => by
    rw [List.all_cons, Bool.and_eq_true] at n
    obtain ⟨v, r, rfl, h1, h2⟩ := h
    obtain ⟨I1, i1, s1, r1, t1⟩ := lendT su n.2 h2
    rcases h1 with h1 | ⟨p, rfl, hp, c⟩
    · exact ⟨I1, i1, s1, Reps.cons (h1.mono i1 _ _) r1, t1⟩
    · have at_ : ∀ b ∈ foot H p d, (fun b => if b ∈ foot H p d then H b else I1 b) b = H b := fun b m => if_pos m
      have i2 : ∀ b o, I1 b = some o → (fun b => if b ∈ foot H p d then H b else I1 b) b = some o := fun b u e => by
        show (if b ∈ foot H p d then H b else I1 b) = some u
        by_cases m : b ∈ foot H p d
        · rw [if_pos m]
          rcases s1 b u e with q | ⟨_, od, q⟩
          · exact q
          · exact absurd q (c.nfz b m)
        · rw [if_neg m]
          exact e
      refine ⟨_, fun b o e => i2 b o (i1 b o e), fun b u e => ?_, Reps.cons (c.rep (fun b o e => i2 b o (i1 b o e)) at_) (r1.mono i2 _ _), fun b xs e => ?_⟩
      · have e : (if b ∈ foot H p d then H b else I1 b) = some u := e
        split at e
        · exact .inl e
        · exact s1 b u e
      · have e : (if b ∈ foot H p d then H b else I1 b) = some (.tup xs) := e
        split at e
        · rename_i m
          exact (c.ntup n.1 b m xs e).elim
        · exact t1 b xs e
theorem snd_bcall (hc : CallOk K cl sp) {f : Nat} {es : List IE} {ta : TA} (ha : EvOkB K B ta (evB cl es)) : EvOk K B (tCall (sp f) [] E0 ta) (evE cl (.bcall f es)) := by
  intro σ I H ρ k d Q s h q
  rw [evE] at h
  split at h
  · cases h
  · rename_i ds e1
    refine ha σ I H ρ ds _ s e1 fun vs I' H' x r => ?_
    rw [List.append_nil]
    obtain ⟨h, rfl, hf⟩ := flc_some h
    rcases hf with hf | ⟨hn, ha⟩
    · obtain ⟨I1, i1, s1, r1⟩ := lend x.su r
      refine hc.fz f ds .fz d h (fun z => nomatch z) B vs I1 H' Q E0 s1 r1 (fun _ v I'' H'' y g => ?_) fun z => nomatch z
      refine q v I' H'' (x.trans ⟨fun _ _ h => h, y.hh, fun b u e => y.su b u (y.ii b u (i1 b u e)), fun _ _ _ _ => rfl⟩) (flat_rep hf g)
    · obtain ⟨I1, i1, s1, r1, t1⟩ := lendT x.su ha r
      refine hc.fz f ds .fz d h (fun z => nomatch z) B vs I1 H' Q E0 s1 r1 (fun _ v I'' H'' y g => ?_) fun z => nomatch z
      have two : ∀ b, I' b = none → ∀ u, (match I'' b with | some (.tup xs) => some (HO.tup xs) | _ => none) = some u → I'' b = some u ∧ ∃ xs, u = .tup xs := fun b _ u e => by
        split at e
        · rename_i xs e2
          cases e
          exact ⟨e2, xs, rfl⟩
        · cases e
      refine q v (fun b => match I' b with | some o => some o | none => match I'' b with | some (.tup xs) => some (HO.tup xs) | _ => none) H'' (x.trans ⟨fun b o e => ?_, y.hh, fun b u e => ?_, fun b o e n => ?_⟩) (nol_rep (fun b xs e => ?_) d v hn g)
      · show (match I' b with | some o => some o | none => _) = some o
        rw [e]
      · have e : (match I' b with | some o => some o | none => match I'' b with | some (.tup xs) => some (HO.tup xs) | _ => none) = some u := e
        cases q1 : I' b with
        | some o =>
          rw [q1] at e
          cases e
          exact y.su b u (y.ii b u (i1 b u q1))
        | none =>
          rw [q1] at e
          exact y.su b u (two b q1 u e).1
      · show (match I' b with | some o => some o | none => match I'' b with | some (.tup xs) => some (HO.tup xs) | _ => none) = I' b
        cases q1 : I' b with
        | some o => rfl
        | none =>
          cases q2 : (match I'' b with | some (.tup xs) => some (HO.tup xs) | _ => none) with
          | none => rfl
          | some u =>
            obtain ⟨q3, xs, rfl⟩ := two b q1 u q2
            rw [y.fr b o e n] at q3
            rw [t1 b xs q3] at q1
            cases q1
      · show (match I' b with | some o => some o | none => match I'' b with | some (.tup xs) => some (HO.tup xs) | _ => none) = some (.tup xs)
        cases q1 : I' b with
        | some o => rw [y.ii b o (i1 b o q1)] at e; exact e
        | none =>
          show (match I'' b with | some (.tup xs) => some (HO.tup xs) | _ => none) = some (.tup xs)
          rw [e]
theorem flat_reps : ∀ {ds : List D} {xs : List V} {I I' : Hp}, ds.all flat = true → Reps K I' ds xs → Reps K I ds xs
  | [], xs, _, _, _, h => by simpa only [Reps] using h
  | d :: ds, xs, _, _, f, h => by
    rw [List.all_cons, Bool.and_eq_true] at f
    simp only [Reps] at h ⊢
    obtain ⟨x, r, e, h1, h2⟩ := h
    exact ⟨x, r, e, flat_rep f.1 h1, flat_reps f.2 h2⟩
/-- things that hang on nothing that was there in H: seen by themselves -/
theorem evG_ok : ∀ (es : List IE), (∀ e ∈ es, EvOk K B (rdE K sp e) (evE cl e)) → ∀ (σ : List (Option V)) (I H : Hp) (ρ : Env) (ds : List D) (Q : List V → Hp → Prop), Sta K B I H σ ρ → evG cl es ρ = some ds →
    (∀ vs I' H', Ext I H I' H' → (∃ I1, Sub I1 H' ∧ Reps K I1 ds vs ∧ ∀ b o, I1 b = some o → H b = none ∧ I' b = none) → Q vs H') → rdA K sp es σ H Q
  | [], _, σ, I, H, ρ, ds, Q, s, h, q => by
    simp only [evG] at h
    cases h
    exact q [] I H (Ext.refl s.su) ⟨fun _ => none, (fun _ _ z => nomatch z), Reps.nil, fun _ _ z => nomatch z⟩
  | e :: es, he, σ, I, H, ρ, ds, Q, s, h, q => by
    have heT : ∀ e' ∈ es, EvOk K B (rdE K sp e') (evE cl e') := fun e' m => he e' (List.mem_cons_of_mem _ m)
    simp only [evG] at h
    split at h
    · cases h
    · rename_i r e1
      split at h
      · rename_i lo
        split at h
        · cases h
        · rename_i ds' e2
          cases h
          obtain ⟨k, d⟩ := r
          refine he e List.mem_cons_self σ I H ρ k d _ s e1 fun v I1 H1 x1 g => ?_
          refine evG_ok es heT σ I1 H1 ρ ds' _ (s.ext x1) e2 fun vs I2 H2 x2 w => ?_
          obtain ⟨J, j1, j2, j3⟩ := w
          have up : ∀ b, H1 b = none → H b = none := fun b z => by
            cases z2 : H b with
            | none => rfl
            | some o' =>
              rw [x1.hh b o' z2] at z
              cases z
          cases k with
          | fz => exact q (v :: vs) I2 H2 (x1.trans x2) ⟨J, j1, Reps.cons (flat_rep lo g) j2, fun b o z => ⟨up b (j3 b o z).1, (j3 b o z).2⟩⟩
          | bo => cases d <;> cases lo
          | ow =>
            obtain ⟨⟨p, rfl, hp, c⟩, p', e', hs⟩ := g
            cases e'
            obtain ⟨c2, _, hI2⟩ := c.ext hp x2
            obtain ⟨o, ho, _⟩ := c.there
            have ho2 := x2.hh p o ho
            have jj : ∀ b u, J b = some u → (fun b => if b = p then H2 p else J b) b = some u := fun b u z => by
              show (if b = p then H2 p else J b) = some u
              rw [if_neg fun e => by rw [e] at z; rw [(j3 p u z).1] at ho; cases ho]
              exact z
            have at_ : (fun b => if b = p then H2 p else J b) p = H2 p := if_pos rfl
            have rep : Rep K (fun b => if b = p then H2 p else J b) d (.ref p) := by
              cases d <;> first | (cases lo; done) | skip
              · obtain ⟨xs, h1, h2, h3⟩ := c2
                simp only [Rep]
                exact ⟨p, xs, rfl, at_.trans h1, flat_reps lo h2, h3⟩
              · obtain ⟨xs, h1, h2, h3⟩ := c2
                simp only [Rep]
                exact ⟨p, xs, rfl, at_.trans h1, flat_reps lo h2, h3⟩
              · obtain ⟨xs, h1, h2, h3⟩ := c2
                simp only [Rep]
                exact ⟨p, xs, rfl, at_.trans h1, flat_reps lo h2, h3⟩
            refine q (.ref p :: vs) I2 H2 (x1.trans x2) ⟨_, fun b u z => ?_, Reps.cons rep (j2.mono jj _ _), fun b u z => ?_⟩
            · have z : (if b = p then H2 p else J b) = some u := z
              split at z
              · rename_i eb
                rw [eb]
                exact .inl z
              · exact j1 b u z
            · have z : (if b = p then H2 p else J b) = some u := z
              split at z
              · rename_i eb
                rw [eb]
                exact ⟨hs p foot_self, hI2⟩
              · exact ⟨up b (j3 b u z).1, (j3 b u z).2⟩
      · cases h
theorem frc_some {r : Option (Kd × D)} {k : Kd} {d : D} (h : frc r = some (k, d)) : ∃ k' ls, r = some (k', .lst ls) ∧ k' ≠ .bo ∧ k = .ow ∧ d = .lst ls ∧ ls.all flat = true := by
  unfold frc at h
  split at h
  · split at h
    · rename_i ls hf
      cases h
      exact ⟨_, ls, rfl, (fun z => nomatch z), rfl, rfl, hf⟩
    · cases h
  · split at h
    · rename_i ls hf
      cases h
      exact ⟨_, ls, rfl, (fun z => nomatch z), rfl, rfl, hf⟩
    · cases h
  · cases h
/-- what it gives is new -/
theorem snd_callF (hc : CallOk K cl sp) {f : Nat} {es : List IE} (he : ∀ e ∈ es, EvOk K B (rdE K sp e) (evE cl e)) : EvOk K B (tCall (sp f) [] E0 (rdA K sp es)) (evE cl (.callF f es)) := by
  intro σ I H ρ k d Q s h q
  rw [evE] at h
  split at h
  · cases h
  · rename_i ds e1
    refine evG_ok es he σ I H ρ ds _ s e1 fun vs I' H' x w => ?_
    rw [List.append_nil]
    obtain ⟨J, j1, j2, j3⟩ := w
    obtain ⟨k', ls, e2, nb, rfl, rfl, hf⟩ := frc_some h
    refine hc.fz f ds k' (.lst ls) e2 (fun z => absurd z nb) B vs J H' Q E0 j1 j2 (fun _ v I2 H2 y g => ?_) fun z => absurd z nb
    have x' : Ext I H I' H2 := x.trans ⟨fun _ _ h => h, y.hh, fun b u e => by
      rcases x.su b u e with z | ⟨z, od, z2⟩
      · exact .inl (y.hh b u z)
      · exact .inr ⟨z, od, y.hh b _ z2⟩, fun _ _ _ _ => rfl⟩
    have fin : ∀ (p : Addr) (xs : List V), v = .ref p → H2 p = some (.lst xs) → Reps K I' ls xs → ls.length ≤ LINE → H p = none → I' p = none → Q v H2 := fun p xs ev h2 rs z hn hi => by
      subst ev
      exact q (.ref p) I' H2 x' ⟨⟨p, rfl, hi, xs, h2, rs, z⟩, p, rfl, fun a m => by rw [List.mem_singleton.mp m]; exact hn⟩
    have up : ∀ b, H' b = none → H b = none := fun b z => by
      cases z2 : H b with
      | none => rfl
      | some o' =>
        rw [x.hh b o' z2] at z
        cases z
    cases k' with
    | fz =>
      have g : Rep K I2 (.lst ls) v := g
      simp only [Rep] at g
      obtain ⟨p, xs, ev, hi, rs, z⟩ := g
      have h2 : H2 p = some (.lst xs) := by
        rcases y.su p _ hi with w | ⟨w, _⟩
        · exact w
        · cases w
      cases hp : H' p with
      | none => exact fin p xs ev h2 (flat_reps hf rs) z (up p hp) (x.su.fresh hp)
      | some o =>
        have e3 := y.hh p o hp
        rw [h2] at e3
        cases e3
        have e4 := (y.fr p _ hp rfl).symm.trans hi
        obtain ⟨n1, n2⟩ := j3 p _ e4
        exact fin p xs ev h2 (flat_reps hf rs) z n1 n2
    | ow =>
      obtain ⟨⟨p, ev, hp, xs, h2, rs, z⟩, p', e', hs⟩ := g
      rw [ev] at e'
      cases e'
      have hn := hs p foot_self
      exact fin p xs ev h2 (flat_reps hf rs) z (up p hn) (x.su.fresh hn)
    | bo => exact absurd rfl nb
theorem strsD_v {I : Hp} : ∀ {ds : List D} {ys : List Str} {xs : List V}, strsD ds = some ys → Reps K I ds xs → xs = ys.map V.str
  | [], ns, xs, h, r => by
    simp only [strsD] at h
    simp only [Reps] at r
    cases h
    exact r
  | d :: ds, ns, xs, h, r => by
    simp only [Reps] at r
    obtain ⟨x, r', rfl, h1, h2⟩ := r
    cases d <;> simp only [strsD] at h <;> first | cases h | skip
    cases e : strsD ds with
    | none => rw [e] at h; cases h
    | some ms =>
      rw [e] at h
      cases h
      have q1 := strsD_v e h2
      simp only [Rep] at h1
      rw [q1, h1.1]
      rfl
theorem fparts_ok : ∀ (ps : List (Option Str)) (es : List IE) (h1 : ∀ e ∈ es, EvOk K B (rdE K sp e) (evE cl e)) (ds : List D) {ρ : Env} (e1 : evB cl es ρ = some ds) (z : Str) (hz : fsJ ps ds = some z) (acc : Str) (bd : (acc ++ z).length ≤ LINE) {σ : List (Option V)} {I H : Hp} (s : Sta K B I H σ ρ) (Q : Str → Hp → Prop)
    (q : ∀ I' H', Ext I H I' H' → Q (acc ++ z) H'), tJs (fParts ps (rdL K sp es)) acc σ H Q
  | [], es, h1, ds, ρ, e1, z, hz, acc, bd, σ, I, H, s, Q, q => by
    cases ds with
    | nil =>
      simp only [fsJ, Option.some.injEq] at hz
      have q := q I H (Ext.refl s.su)
      rw [← hz, Str.append_empty] at q
      exact q
    | cons d ds => simp [fsJ] at hz
  | some t :: ps, es, h1, ds, ρ, e1, z, hz, acc, bd, σ, I, H, s, Q, q => by
    rw [fsJ] at hz
    obtain ⟨z', e2, rfl⟩ := Option.map_eq_some_iff.mp hz
    rw [← Str.append_assoc] at bd q
    refine ⟨t, rfl, ?_, fparts_ok ps es h1 ds e1 z' e2 (acc ++ t) bd s Q q⟩
    rw [Str.length_append] at bd
    exact le_line (by omega)
  | none :: ps, [], h1, ds, ρ, e1, z, hz, acc, bd, σ, I, H, s, Q, q => by
    rw [evB] at e1
    cases e1
    simp [fsJ] at hz
  | none :: ps, e :: es, h1, ds, ρ, e1, z, hz, acc, bd, σ, I, H, s, Q, q => by
    rw [evB] at e1
    split at e1
    · cases e1
    · rename_i k0 d0 f1
      split at e1
      · cases e1
      · rename_i ds' f2
        cases e1
        refine (h1 e List.mem_cons_self).see s f1 fun v I1 H1 x1 g => ?_
        cases d0 with
        | str x =>
          rw [fsJ] at hz
          obtain ⟨z', e2, rfl⟩ := Option.map_eq_some_iff.mp hz
          rw [← Str.append_assoc] at bd q
          have bd2 := bd
          rw [Str.length_append, Str.length_append] at bd2
          exact .inl ⟨x, g.str.1, le_line (by omega), x, rfl, by rw [Str.length_append]; exact le_line (by omega), fparts_ok ps es (fun e m => h1 e (List.mem_cons_of_mem _ m)) ds' f2 z' e2 (acc ++ x) bd (s.ext x1) Q fun I' H' y => q I' H' (x1.trans y)⟩
        | int i =>
          rw [fsJ] at hz
          split at hz
          · rename_i hi
            obtain ⟨z', e2, rfl⟩ := Option.map_eq_some_iff.mp hz
            rw [← Str.append_assoc] at bd q
            have bd2 := bd
            rw [Str.length_append] at bd2
            exact .inr ⟨i, g.int, hi, _, rfl, le_line (by omega), fparts_ok ps es (fun e m => h1 e (List.mem_cons_of_mem _ m)) ds' f2 z' e2 _ bd (s.ext x1) Q fun I' H' y => q I' H' (x1.trans y)⟩
          · cases hz
        | _ => simp [fsJ] at hz
theorem snd_bi {b : BI} {es : List IE} (ar : biAr b es.length = true) (hA : EvOkB K B (rdA K sp es) (evB cl es)) (h1 : ∀ e ∈ es, EvOk K B (rdE K sp e) (evE cl e)) : EvOk K B (rdBi K b (rdL K sp es) (rdA K sp es)) (evE cl (.bi b es)) := by
  intro σ I H ρ k d Q s h q
  rw [evE] at h
  split at h
  · cases h
  · rename_i ds e1
    have hl := evB_len e1
    have val : ∀ {r : List V → Hp → VK → Prop}, (∀ vs I' H', Ext I H I' H' → Sees K I' H' ds vs → (∀ u I'' H'', Ext I' H' I'' H'' → RK K B H' I'' H'' k d u → Q u H'') → r vs H' Q) → tCB r (rdA K sp es) σ H Q := fun hr =>
      hA σ I H ρ ds _ s e1 fun vs I' H' x g => hr vs I' H' x g fun u I'' H'' y z => q u I'' H'' (x.trans y) (RK.step x z)
    have one : ∀ e, es = [e] → ∃ k0 d0, evE cl e ρ = some (k0, d0) ∧ ds = [d0] := fun e he => by
      subst he
      rw [evB_one] at e1
      cases e3 : evE cl e ρ with
      | none => rw [e3] at e1; cases e1
      | some r =>
        rw [e3] at e1
        cases e1
        exact ⟨r.1, r.2, rfl, rfl⟩
    have sees : ∀ e, es = [e] → ∀ {R : VK}, (∀ d0 v I' H', ds = [d0] → Ext I H I' H' → See K I' H' d0 v → (∀ u I'' H'', Ext I' H' I'' H'' → RK K B H' I'' H'' k d u → Q u H'') → R v H') → rdE K sp e σ H R := fun e he R hr => by
      obtain ⟨k0, d0, e3, e4⟩ := one e he
      subst he
      exact (h1 e List.mem_cons_self).see s e3 fun v I' H' x g => hr d0 v I' H' e4 x g fun u I'' H'' y z => q u I'' H'' (x.trans y) (RK.step x z)
    have isT : ∀ e, es = [e] → (∃ d0, ds = [d0] ∧ ∃ c, isD b d0 = some c ∧ (k, d) = (Kd.fz, D.bl c)) → tCB (rIsi K) (tCons (rdE K sp e) (tCons (tC (.ty (tyNm b))) tNil)) σ H Q := fun e he hx => by
      refine sees e he fun d0 v I' H' hd x g hq => ?_
      obtain ⟨d0', e5, c, e6, e7⟩ := hx
      rw [hd] at e5
      cases e5
      cases e7
      exact isi_ok e6 x.su g (hq _ I' H' (Ext.refl x.su) (rk_fz rep_bl))
    have isM : ∀ e, es = [e] → (∀ d0, biD b [d0] = (isD b d0).map fun c => (Kd.fz, D.bl c)) → ∃ d0, ds = [d0] ∧ ∃ c, isD b d0 = some c ∧ (k, d) = (Kd.fz, D.bl c) := fun e he hb => by
      obtain ⟨k0, d0, e3, e4⟩ := one e he
      subst e4
      rw [hb] at h
      obtain ⟨c, h2, h3⟩ := Option.map_eq_some_iff.mp h
      exact ⟨d0, rfl, c, h2, h3.symm⟩
    cases b with
    | len =>
      rcases es with _ | ⟨e, _ | ⟨e', r⟩⟩ <;> first | (simp [biAr] at ar; done) | skip
      exact val fun vs I' H' x g hq => len_ok h x.su g hq
    | tuple =>
      rcases es with _ | ⟨e, _ | ⟨e', r⟩⟩ <;> first | (simp [biAr] at ar; done) | skip
      exact sees e rfl fun d0 v I' H' hd x g hq => tuple_ok (by rw [← hd]; exact h) x.su g hq
    | list =>
      rcases es with _ | ⟨e, _ | ⟨e', r⟩⟩ <;> first | (simp [biAr] at ar; done) | skip
      exact val fun vs I' H' x g hq => list_ok h x.su g hq hl
    | dict =>
      rcases es with _ | ⟨e, _ | ⟨e', r⟩⟩ <;> first | (simp [biAr] at ar; done) | skip
      exact val fun vs I' H' x g hq => dict_ok h x.su g hq hl
    | int =>
      rcases es with _ | ⟨e, _ | ⟨e', r⟩⟩ <;> first | (simp [biAr] at ar; done) | skip
      exact val fun vs I' H' x g hq => int_ok h x.su g hq hl
    | str =>
      rcases es with _ | ⟨e, _ | ⟨e', r⟩⟩ <;> first | (simp [biAr] at ar; done) | skip
      exact val fun vs I' H' x g hq => str_ok h x.su g hq hl
    | all =>
      rcases es with _ | ⟨e, _ | ⟨e', r⟩⟩ <;> first | (simp [biAr] at ar; done) | skip
      exact val fun vs I' H' x g hq => all_ok h x.su g hq hl
    | sum =>
      rcases es with _ | ⟨e, _ | ⟨e', r⟩⟩ <;> first | (simp [biAr] at ar; done) | skip
      exact val fun vs I' H' x g hq => sum_ok h x.su g hq hl
    | max =>
      rcases es with _ | ⟨e, _ | ⟨e', _ | ⟨e'', r⟩⟩⟩ <;> first | (simp [biAr] at ar; done) | skip
      · exact val fun vs I' H' x g hq => max_ok h x.su g hq
      · exact val fun vs I' H' x g hq => max_ok h x.su g hq
    | min =>
      rcases es with _ | ⟨e, _ | ⟨e', _ | ⟨e'', r⟩⟩⟩ <;> first | (simp [biAr] at ar; done) | skip
      · exact val fun vs I' H' x g hq => min_ok h x.su g hq
      · exact val fun vs I' H' x g hq => min_ok h x.su g hq
    | isBool =>
      rcases es with _ | ⟨e, _ | ⟨e', r⟩⟩ <;> first | (simp [biAr] at ar; done) | skip
      exact isT e rfl (isM e rfl fun d0 => rfl)
    | isInt =>
      rcases es with _ | ⟨e, _ | ⟨e', r⟩⟩ <;> first | (simp [biAr] at ar; done) | skip
      exact isT e rfl (isM e rfl fun d0 => rfl)
    | isStr =>
      rcases es with _ | ⟨e, _ | ⟨e', r⟩⟩ <;> first | (simp [biAr] at ar; done) | skip
      exact isT e rfl (isM e rfl fun d0 => rfl)
    | isList =>
      rcases es with _ | ⟨e, _ | ⟨e', r⟩⟩ <;> first | (simp [biAr] at ar; done) | skip
      exact isT e rfl (isM e rfl fun d0 => rfl)
    | isTuple =>
      rcases es with _ | ⟨e, _ | ⟨e', r⟩⟩ <;> first | (simp [biAr] at ar; done) | skip
      exact isT e rfl (isM e rfl fun d0 => rfl)
    | sorted =>
      rcases es with _ | ⟨e, _ | ⟨e', r⟩⟩ <;> first | (simp [biAr] at ar; done) | skip
      exact val (r := fun vs H Q => rSortedI K vs H Q ∨ (rSortedPO K vs H Q ∨ rSortedTL K vs H Q)) fun vs I' H' x g hq => sorted_ok h x.su g hq hl
    | maxd dd =>
      rcases es with _ | ⟨e, _ | ⟨e', r⟩⟩ <;> first | (simp [biAr] at ar; done) | skip
      exact val (r := fun vs H Q => rMaxDef K vs [.int dd] H Q) fun vs I' H' x g hq => by
        unfold biD at h
        split at h <;> first | (rename_i z; cases z; done) | skip
        all_goals first | (cases h; done) | skip
        rename_i z
        cases z
        split at h
        · rename_i ns e5
          cases h
          obtain ⟨v, rfl, g1⟩ := g.one
          obtain ⟨a, ys, rfl, ha, ra, za⟩ := g1.lst x.su
          exact ⟨a, ns, _, rfl, rfl, by rw [← (intsD_v e5 ra).1]; exact .inl (.inl ha), hq _ I' H' (Ext.refl x.su) (rk_fz rep_int)⟩
        · cases h
    | sortedSet =>
      rcases es with _ | ⟨e, _ | ⟨e', r⟩⟩ <;> first | (simp [biAr] at ar; done) | skip
      obtain ⟨k0, d0, e3, e4⟩ := one e rfl
      subst e4
      cases d0 <;> first | (simp only [biD] at h; cases h; done) | skip
      rename_i xs0
      refine sees e rfl fun d0 v I' H' hd x g hq => ?_
      cases hd
      simp only [biD] at h
      cases e5 : intsD xs0 with
      | none => rw [e5] at h; cases h
      | some ns =>
        rw [e5] at h
        have h : (if ns.length ≤ 4000 ∧ (dedup ns).length < 64 then some (Kd.ow, D.lst ((sortI (dedup ns)).map .int)) else none) = some (k, d) := h
        split at h
        · rename_i hz
          cases h
          obtain ⟨a, ys, rfl, ha, ra, za⟩ := g.lst x.su
          refine ⟨a, ns, rfl, by rw [← (intsD_v e5 ra).1]; exact .inl (.inl ha), hz.1, hz.2, fun ms p hs hm hp => ?_⟩
          obtain ⟨d1, d2, d3⟩ := dedupF ns [] List.nodup_nil
          have nd : ms.Nodup := hs.imp fun h e => by omega
          have pm : ms.Perm (dedup ns) := (List.perm_ext_iff_of_nodup nd d1).mpr fun k => by
            rw [hm k]
            show _ ↔ k ∈ ns.foldl PyProof.Rows.step_dedup []
            rw [d2 k]
            simp
          have em : ms = sortI (dedup ns) := sortI_uniq pm (hs.imp fun h => Int.le_of_lt h)
          have zl : LINE = 16777216 := rfl
          have lz : ms.length ≤ LINE := by rw [pm.length_eq]; omega
          obtain ⟨y1, y2⟩ := rk_newL (B := B) x.su hp (reps_ints (K := K) (I := I') ms) (by rw [List.length_map]; exact lz)
          rw [em] at y2 y1 ⊢
          exact hq _ _ _ y1 y2
        · cases h
    | lenset =>
      rcases es with _ | ⟨e, _ | ⟨e', r⟩⟩ <;> first | (simp [biAr] at ar; done) | skip
      obtain ⟨k0, d0, e3, e4⟩ := one e rfl
      subst e4
      cases d0 with
      | lst xs0 =>
        simp only [biD] at h
        cases e5 : intsD xs0 with
        | none =>
          rw [e5] at h
          cases e6 : strsD xs0 with
          | none =>
            rw [e6] at h
            cases e7 : pairsD xs0 with
            | none => rw [e7] at h; cases h
            | some ps =>
              rw [e7] at h
              have h : (if ps.all smallP = true ∧ ps.Nodup ∧ ps.length ≤ 76 then some (Kd.fz, D.int ps.length) else none) = some (k, d) := h
              split at h
              · rename_i hz
                cases h
                refine .inr (.inr (.inr (sees e rfl fun d0 v I' H' hd x g hq => ?_)))
                cases hd
                obtain ⟨a, ys, rfl, ha, ra, za⟩ := g.lst x.su
                rw [pairsD_eq e7] at ra
                obtain ⟨ks, k1, k2, k3, k4⟩ := pairs_refs x.su ra
                have kl : ks.length = ps.length := by
                  have := congrArg List.length k2
                  rwa [List.length_map, List.length_map] at this
                refine ⟨a, ks, rfl, by rw [← k1]; exact .inl (.inl ha), fun q m => .inl (.inl (k3 q m)), fun q m => ?_, ?_, by rw [kl]; exact hz.2.2, ?_⟩
                · obtain ⟨p, mp, e⟩ := k4 q m
                  have sm := List.all_eq_true.mp hz.1 p mp
                  unfold smallP at sm
                  simp only [Bool.and_eq_true, decide_eq_true_eq] at sm
                  exact ⟨p.1, p.2, e, ⟨sm.1.1.1, sm.1.1.2⟩, sm.1.2, sm.2⟩
                · rw [k2]
                  have nd := hz.2.1
                  unfold List.Nodup at nd ⊢
                  rw [List.pairwise_map]
                  refine nd.imp fun {p q} ne e => ne ?_
                  simp only [List.cons.injEq, and_true] at e
                  exact Prod.ext e.1 e.2
                · rw [kl]
                  exact hq _ I' H' (Ext.refl x.su) (rk_fz rep_int)
              · cases h
          | some ks =>
            rw [e6] at h
            have h : (if ks.length ≤ 4000 then some (Kd.fz, D.int (onceS ks).length) else none) = some (k, d) := h
            split at h
            · rename_i hz
              cases h
              refine .inr (.inr (.inl (sees e rfl fun d0 v I' H' hd x g hq => ?_)))
              cases hd
              obtain ⟨a, ys, rfl, ha, ra, za⟩ := g.lst x.su
              exact ⟨ks, .inr ⟨a, rfl, by rw [← strsD_v e6 ra]; exact .inl (.inl ha)⟩, hz, hq _ I' H' (Ext.refl x.su) (rk_fz rep_int)⟩
            · cases h
        | some ns =>
          rw [e5] at h
          have h : (if ns.length ≤ 4000 then some (Kd.fz, D.int (dedup ns).length) else none) = some (k, d) := h
          split at h
          · rename_i hz
            cases h
            refine .inl (sees e rfl fun d0 v I' H' hd x g hq => ?_)
            cases hd
            obtain ⟨a, ys, rfl, ha, ra, za⟩ := g.lst x.su
            exact ⟨a, ns, rfl, by rw [← (intsD_v e5 ra).1]; exact .inl (.inl ha), hz, hq _ I' H' (Ext.refl x.su) (rk_fz rep_int)⟩
          · cases h
      | tup xs0 =>
        refine .inr (.inl (sees e rfl fun d0 v I' H' hd x g hq => ?_))
        cases hd
        simp only [biD] at h
        cases e5 : intsD xs0 with
        | none => rw [e5] at h; cases h
        | some ns =>
          rw [e5] at h
          have h : (if ns.length ≤ 4000 then some (Kd.fz, D.int (dedup ns).length) else none) = some (k, d) := h
          split at h
          · rename_i hz
            cases h
            obtain ⟨a, ys, rfl, ha, ia, ra, za⟩ := g.tup x.su
            exact ⟨a, ns, rfl, by rw [← (intsD_v e5 ra).1]; exact .inl (.inl ha), hz, hq _ I' H' (Ext.refl x.su) (rk_fz rep_int)⟩
          · cases h
      | str x0 =>
        simp only [biD] at h
        split at h
        · rename_i hz
          cases h
          refine .inr (.inr (.inl (sees e rfl fun d0 v I' H' hd x g hq => ?_)))
          cases hd
          exact ⟨signL x0, .inl ⟨x0, g.str.1, rfl⟩, by unfold signL; rw [List.length_map, Array.length_toList]; exact hz, hq _ I' H' (Ext.refl x.su) (rk_fz rep_int)⟩
        · cases h
      | _ => simp only [biD] at h; cases h
    | fstr ps =>
      simp only [biD] at h
      cases e5 : fsJ ps ds with
      | none => rw [e5] at h; cases h
      | some z =>
        rw [e5] at h
        have h : (if okS z = true then some (Kd.fz, D.str z) else none) = some (k, d) := h
        split at h
        · rename_i hz
          cases h
          have bd : (Str.empty ++ z).length ≤ LINE := by
            rw [Str.empty_append]
            simp only [okS, Bool.and_eq_true, decide_eq_true_eq] at hz
            exact hz.1
          refine fparts_ok ps es h1 ds e1 z e5 Str.empty bd s (fun out H1 => Q (.str out) H1) fun I' H' x => ?_
          rw [Str.empty_append]
          exact q _ I' H' x (rk_fz (rep_okS hz))
        · cases h
    | tupRange =>
      rcases es with _ | ⟨e, _ | ⟨e', _ | ⟨e'', r⟩⟩⟩ <;> first | (simp [biAr] at ar; done) | skip
      · refine sees e rfl fun d0 v I' H' hd x g hq => ?_
        subst hd
        cases d0 with
        | int n =>
          simp only [biD] at h
          split at h
          · rename_i hz
            cases h
            obtain ⟨b1, b2⟩ := small62_iff.mp hz.1
            refine ⟨n, g.int, ⟨by omega, by omega, b1, b2, by rw [Int.sub_zero]; exact hz.2⟩, fun p hp => ?_⟩
            rw [rgV_eq]
            obtain ⟨y, r⟩ := rk_newT x.su hp (reps_ints (K := K) (I := I') (rangeL 0 n)) (by rw [List.length_map, rangeL_len, Int.sub_zero]; exact hz.2)
            exact hq _ _ _ y r
          · cases h
        | _ => simp only [biD] at h; cases h
      · rw [evB] at e1
        split at e1
        · cases e1
        · rename_i k1 d1 f1
          rw [evB_one] at e1
          cases f2 : evE cl e' ρ with
          | none => rw [f2] at e1; cases e1
          | some r2 =>
            rw [f2] at e1
            cases e1
            refine two_ok (R := fun v w H2 => ∃ i j, v = .int i ∧ w = .int j ∧ RgOk i j ∧ ∀ q, H2 q = none → Q (.ref q) (upd H2 q (.tup (rgV i j)))) (h1 e List.mem_cons_self) (h1 e' (List.mem_cons_of_mem _ List.mem_cons_self)) s f1 f2 fun v w I' H' x g1 g2 => ?_
            obtain ⟨k2, d2⟩ := r2
            cases d1 <;> (try simp only [biD] at h) <;> first | (cases h; done) | skip
            cases d2 <;> (try simp only [biD] at h) <;> first | (cases h; done) | skip
            split at h
            · rename_i hz
              cases h
              obtain ⟨b1, b2⟩ := small62_iff.mp hz.1
              obtain ⟨b3, b4⟩ := small62_iff.mp hz.2.1
              refine ⟨_, _, g1.int, g2.int, ⟨b1, b2, b3, b4, hz.2.2⟩, fun p hp => ?_⟩
              rw [rgV_eq]
              obtain ⟨y, r⟩ := rk_newT x.su hp (reps_ints (K := K) (I := I') (rangeL _ _)) (by rw [List.length_map, rangeL_len]; exact hz.2.2)
              exact q _ _ _ (x.trans y) r
            · cases h
    | lstRange =>
      rcases es with _ | ⟨e, _ | ⟨e', _ | ⟨e'', r⟩⟩⟩ <;> first | (simp [biAr] at ar; done) | skip
      · refine sees e rfl fun d0 v I' H' hd x g hq => ?_
        subst hd
        cases d0 with
        | int n =>
          simp only [biD] at h
          split at h
          · rename_i hz
            cases h
            obtain ⟨b1, b2⟩ := small62_iff.mp hz.1
            refine ⟨n, g.int, ⟨by omega, by omega, b1, b2, by rw [Int.sub_zero]; exact hz.2⟩, fun p hp => ?_⟩
            rw [rgV_eq]
            obtain ⟨y, r⟩ := rk_newL (B := B) x.su hp (reps_ints (K := K) (I := I') (rangeL 0 n)) (by rw [List.length_map, rangeL_len, Int.sub_zero]; exact hz.2)
            exact hq _ _ _ y r
          · cases h
        | _ => simp only [biD] at h; cases h
      · rw [evB] at e1
        split at e1
        · cases e1
        · rename_i k1 d1 f1
          rw [evB_one] at e1
          cases f2 : evE cl e' ρ with
          | none => rw [f2] at e1; cases e1
          | some r2 =>
            rw [f2] at e1
            cases e1
            refine two_ok (R := fun v w H2 => ∃ i j, v = .int i ∧ w = .int j ∧ RgOk i j ∧ ∀ q, H2 q = none → Q (.ref q) (upd H2 q (.lst (rgV i j)))) (h1 e List.mem_cons_self) (h1 e' (List.mem_cons_of_mem _ List.mem_cons_self)) s f1 f2 fun v w I' H' x g1 g2 => ?_
            obtain ⟨k2, d2⟩ := r2
            cases d1 <;> (try simp only [biD] at h) <;> first | (cases h; done) | skip
            cases d2 <;> (try simp only [biD] at h) <;> first | (cases h; done) | skip
            split at h
            · rename_i hz
              cases h
              obtain ⟨b1, b2⟩ := small62_iff.mp hz.1
              obtain ⟨b3, b4⟩ := small62_iff.mp hz.2.1
              refine ⟨_, _, g1.int, g2.int, ⟨b1, b2, b3, b4, hz.2.2⟩, fun p hp => ?_⟩
              rw [rgV_eq]
              obtain ⟨y, r⟩ := rk_newL (B := B) x.su hp (reps_ints (K := K) (I := I') (rangeL _ _)) (by rw [List.length_map, rangeL_len]; exact hz.2.2)
              exact q _ _ _ (x.trans y) (RK.step x r)
            · cases h
    | isExc tp rz cs =>
      rcases es with _ | ⟨e, _ | ⟨e', r⟩⟩ <;> first | (simp [biAr] at ar; done) | skip
      simp only [biAr, Bool.and_eq_true, decide_eq_true_eq] at ar
      cases tp with
      | false =>
        rcases cs with _ | ⟨d, _ | ⟨d', r'⟩⟩ <;> first | (simp at ar; done) | skip
        refine sees e rfl fun d0 v I' H' hd x g hq => ?_
        subst hd
        obtain ⟨a, cc, b, cls, dd, rfl, h0, ha, hr, he, hQ⟩ := isx_ok h x.su g hq
        exact ⟨a, cc, _, b, cls, dd, rfl, ⟨d, rfl, rfl⟩, h0, ha, hr, he, hQ _ _ (Ext.refl x.su)⟩
      | true =>
        refine sees e rfl fun d0 v I' H' hd x g hq => ?_
        subst hd
        obtain ⟨a, cc, b, cls, dd, rfl, h0, ha, hr, he, hQ⟩ := isx_ok h x.su g hq
        refine tCls_by ⟨by rw [List.length_map]; exact le_line ar.1.2, fun p hp => ?_⟩
        exact ⟨a, p, cc, b, cls, dd, rfl, upd_same, h0.mono (Ext.new x.su hp).hh, by rw [upd_ne (ne_of_none ha hp)]; exact ha, hr, he, hQ _ _ (Ext.new x.su hp)⟩
    | excAt rz =>
      rcases es with _ | ⟨e, _ | ⟨e', r⟩⟩ <;> first | (simp [biAr] at ar; done) | skip
      refine sees e rfl fun d0 v I' H' hd x g hq => ?_
      subst hd
      cases d0 <;> simp only [biD] at h <;> first | cases h | skip
      rename_i c
      split at h
      · rename_i n en
        split at h
        · rename_i hc
          cases h
          obtain ⟨a, cls, dd, rfl, h0, ha⟩ := g.exc x.su
          exact ⟨a, c, cls, dd, n, rfl, h0, ha, en, hc, hq _ _ _ (Ext.refl x.su) (rk_fz rep_int)⟩
        · cases h
      · cases h
    | _ => simp only [biAr] at ar; cases ar
theorem reps_strs {I : Hp} : ∀ {ys : List Str}, ys.all okS = true → Reps K I (ys.map .str) (ys.map V.str)
  | [], _ => Reps.nil
  | y :: ys, h => by
    simp only [List.all_cons, Bool.and_eq_true] at h
    exact Reps.cons (rep_okS h.1) (reps_strs h.2)
theorem pys_at : ∀ (ds : List D) (j : Nat), (D.pys ds)[j]? = (ds[j]?).map D.py
  | [], j => by simp [D.pys]
  | d :: ds, 0 => by simp [D.pys]
  | d :: ds, j + 1 => by
    simp only [D.pys, List.getElem?_cons_succ]
    exact pys_at ds j
theorem snd_index {o e : IE} (ho : EvOk K B (rdE K sp o) (evE cl o)) (he : EvOk K B (rdE K sp e) (evE cl e)) {x d1 d : D} {k0 k1 k : Kd} {σ : List (Option V)} {I H : Hp} {ρ : Env} {Q : VK} (s : Sta K B I H σ ρ)
    (e0 : evE cl o ρ = some (k0, x)) (e1 : evE cl e ρ = some (k1, d1)) (h : mtD .index x [d1] = some (k, d)) (q : ∀ v I' H', Ext I H I' H' → RK K B H I' H' k d v → Q v H') : tBM K "list" (rIndexD K) (rdE K sp o) (tCons (rdE K sp e) tNil) σ H Q := by
  cases x <;> first | (simp [mtD] at h; done) | skip
  rename_i xs
  simp only [mtD] at h
  split at h
  · rename_i hz
    obtain ⟨j, ej, e2⟩ := Option.map_eq_some_iff.mp h
    cases e2
    refine ho.see s e0 fun v I1 H1 x1 g => ?_
    obtain ⟨a, ys, rfl, ha, ra, za⟩ := g.lst x1.su
    refine ⟨.inl ⟨rfl, ys, .inl (.inl ha)⟩, he.see (s.ext x1) e1 fun y I2 H2 x2 g2 => ?_⟩
    have g' := g.ext x2
    obtain ⟨a1, a2, a3⟩ := g'.dp x2.su (by simp only [D.dep]; omega)
    obtain ⟨b1, b2, b3⟩ := g2.dp x2.su (by omega)
    simp only [D.py] at a1 a2 a3
    simp only [D.dep] at a3
    obtain ⟨jl, pj, nj⟩ := List.findIdx?_eq_some_iff_getElem.mp ej
    refine ⟨a, y, d1.py, D.pys xs, j, (xs[j]).py, rfl, rfl, a1, b1, shaped_of a2 a3 (by omega), shaped_of b2 b3 (by omega), ?_, pj, fun m z' hm hz' => ?_, q _ I2 H2 (x1.trans x2) (rk_fz rep_int)⟩
    · rw [pys_at, List.getElem?_eq_getElem jl]
      rfl
    · rw [pys_at, List.getElem?_eq_getElem (by omega)] at hz'
      cases hz'
      have := nj m hm
      rw [Bool.not_eq_true] at this
      exact this
  · cases h
theorem snd_mt {m : MI} {o : IE} {es : List IE} (ar : mtAr m es.length = true) (ho : EvOk K B (rdE K sp o) (evE cl o)) (h1 : ∀ e ∈ es, EvOk K B (rdE K sp e) (evE cl e)) : EvOk K B (rdMt K m (rdE K sp o) (rdL K sp es) (rdA K sp es)) (evE cl (.mt m o es)) := by
  intro σ I H ρ k d Q s h q
  rw [evE] at h
  split at h
  · cases h
  · rename_i k0 x e0
    split at h
    · cases h
    · rename_i ds e1
      cases m with
      | index =>
        rcases es with _ | ⟨e, _ | ⟨e', r⟩⟩ <;> first | (simp [mtAr] at ar; done) | skip
        rw [evB_one] at e1
        cases f1 : evE cl e ρ with
        | none => rw [f1] at e1; cases e1
        | some r1 =>
          rw [f1] at e1
          cases e1
          obtain ⟨k1, d1⟩ := r1
          simp only [rdL, rdMt]
          exact snd_index ho (h1 e List.mem_cons_self) s e0 f1 h q
      | get =>
        rcases es with _ | ⟨e, _ | ⟨e', _ | ⟨e'', r⟩⟩⟩ <;> first | (simp [mtAr] at ar; done) | skip
        rw [evB] at e1
        split at e1
        · cases e1
        · rename_i k1 d1 f1
          rw [evB_one] at e1
          cases f2 : evE cl e' ρ with
          | none => rw [f2] at e1; cases e1
          | some r2 =>
            rw [f2] at e1
            cases e1
            obtain ⟨k2, d2⟩ := r2
            simp only [rdL, rdMt]
            refine ho.see s e0 fun v I1 H1 x1 g => ?_
            have isd : isDct x = true := by
              cases x <;> first | rfl | (simp [mtD] at h)
            have hD : ∃ a, v = .ref a ∧ IsD H1 a := by
              cases x with
              | dk ks ws =>
                obtain ⟨a, xs, rfl, ha, _⟩ := g.dk x1.su
                exact ⟨a, rfl, .inl ⟨_, ha⟩⟩
              | dt ks ws =>
                obtain ⟨a, xs, rfl, ha, _⟩ := g.dt x1.su
                exact ⟨a, rfl, .inr ⟨_, ha⟩⟩
              | _ => cases isd
            obtain ⟨a, hv, hIs⟩ := hD
            refine ⟨a, hv, hIs, two_ok (R := fun y z H3 => ∃ o, DGet H3 a y o ∧ Q (o.getD z) H3) (h1 e List.mem_cons_self) (h1 e' (List.mem_cons_of_mem _ List.mem_cons_self)) (s.ext x1) f1 f2 fun y z I3 H3 x3 g1 g2 => ?_⟩
            have g' := g.ext x3
            have fin : ∀ (o : Option V) (r : Option D), flat d2 = true → (∀ dd, r = some dd → ∃ u, o = some u ∧ Rep K I3 dd u) → (r = none → o = none) → some (Kd.fz, r.getD d2) = some (k, d) → Q (o.getD z) H3 := fun o r hf h1 h2 h3 => by
              cases h3
              cases r with
              | some dd =>
                obtain ⟨u, rfl, ru⟩ := h1 dd rfl
                exact q _ _ _ (x1.trans x3) ru
              | none =>
                rw [h2 rfl]
                refine q _ _ _ (x1.trans x3) ?_
                rcases g2 with g2 | ⟨_, _, _, c⟩
                · exact g2
                · cases d2 <;> first | (cases hf; done) | exact False.elim c
            cases x with
            | dk ks ws =>
              obtain ⟨a', xs, e5, ha, ra, la, za⟩ := g'.dk x3.su
              rw [hv] at e5
              cases e5
              simp only [mtD] at h
              split at h
              · rename_i hf
                cases ek : keyOf d1 with
                | none => rw [ek] at h; cases h
                | some kk =>
                  rw [ek] at h
                  obtain ⟨q1, q2, _⟩ := valV_look kk ra la
                  exact ⟨_, .inl ⟨_, kk, ha, keyOf_v ek g1, rfl⟩, fin _ (look ks ws kk) hf q1 q2 h⟩
              · cases h
            | dt ks ws =>
              obtain ⟨a', xs, e5, ha, ra, la, za⟩ := g'.dt x3.su
              rw [hv] at e5
              cases e5
              cases d1 with
              | tup dd =>
                simp only [mtD] at h
                split at h
                · rename_i hf
                  cases ek : keysOf dd with
                  | none => rw [ek] at h; cases h
                  | some kk =>
                    rw [ek] at h
                    obtain ⟨q1, q2, _⟩ := valV_look kk ra la
                    obtain ⟨b, ys, e6, hb, ib, rb, zb⟩ := g1.tup x3.su
                    exact ⟨_, .inr ⟨_, kk, b, ha, e6, by rw [hb, keysOf_v ek rb], rfl⟩, fin _ (look ks ws kk) hf q1 q2 h⟩
                · cases h
              | _ => simp [mtD] at h
            | _ => cases isd
      | join =>
        rcases es with _ | ⟨e, _ | ⟨e', r⟩⟩ <;> first | (simp [mtAr] at ar; done) | skip
        rw [evB_one] at e1
        cases f1 : evE cl e ρ with
        | none => rw [f1] at e1; cases e1
        | some r1 =>
          rw [f1] at e1
          cases e1
          obtain ⟨k1, d1⟩ := r1
          simp only [rdL, rdMt]
          cases x with
          | str a =>
            cases d1 with
            | lst ds1 =>
              simp only [mtD] at h
              cases e5 : strsD ds1 with
              | none => rw [e5] at h; cases h
              | some ys =>
                rw [e5] at h
                have h : (if (ys.map (·.length)).sum + ys.length * a.length ≤ LINE ∧ okS (Txt.join a ys) = true then some (Kd.fz, D.str (Txt.join a ys)) else none) = some (k, d) := h
                split at h
                · rename_i hz
                  cases h
                  refine ho.see s e0 fun v I1 H1 x1 g => ⟨⟨a, g.str.1⟩, (h1 e List.mem_cons_self).see (s.ext x1) f1 fun w I2 H2 x2 g2 => ?_⟩
                  obtain ⟨p, xs, rfl, hp, ra, za⟩ := g2.lst x2.su
                  exact ⟨a, p, ys, g.str.1, rfl, .inl (by rw [← strsD_v e5 ra]; exact .inl (.inl hp)), hz.1, q _ _ _ (x1.trans x2) (rk_fz (rep_okS hz.2))⟩
                · cases h
            | _ => simp [mtD] at h
          | _ => simp [mtD] at h
      | split =>
        rcases es with _ | ⟨e, _ | ⟨e', r⟩⟩ <;> first | (simp [mtAr] at ar; done) | skip
        rw [evB_one] at e1
        cases f1 : evE cl e ρ with
        | none => rw [f1] at e1; cases e1
        | some r1 =>
          rw [f1] at e1
          cases e1
          obtain ⟨k1, d1⟩ := r1
          simp only [rdL, rdMt]
          cases x with
          | str a =>
            cases d1 with
            | str b =>
              simp only [mtD] at h
              split at h
              · rename_i hz
                cases h
                refine ho.see s e0 fun v I1 H1 x1 g => ⟨⟨a, g.str.1⟩, (h1 e List.mem_cons_self).see (s.ext x1) f1 fun w I2 H2 x2 g2 => ?_⟩
                refine ⟨a, b, g.str.1, by rw [g2.str.1], hz.1, le_line hz.2.1, fun p hp => ?_⟩
                obtain ⟨y, r⟩ := rk_newL (B := B) x2.su hp (reps_strs (K := K) (I := I2) hz.2.2.2) (by rw [List.length_map]; exact hz.2.2.1)
                exact q _ _ _ ((x1.trans x2).trans y) (RK.step (x1.trans x2) r)
              · cases h
            | _ => simp [mtD] at h
          | _ => simp [mtD] at h
      | strip =>
        rcases es with _ | ⟨e, _ | ⟨e', r⟩⟩ <;> first | (simp [mtAr] at ar; done) | skip
        rw [evB_one] at e1
        cases f1 : evE cl e ρ with
        | none => rw [f1] at e1; cases e1
        | some r1 =>
          rw [f1] at e1
          cases e1
          obtain ⟨k1, d1⟩ := r1
          simp only [rdL, rdMt]
          cases x with
          | str a =>
            cases d1 with
            | str b =>
              simp only [mtD] at h
              split at h
              · rename_i hz
                cases h
                refine ho.see s e0 fun v I1 H1 x1 g => ⟨by rw [g.str.1]; rfl, (h1 e List.mem_cons_self).see (s.ext x1) f1 fun w I2 H2 x2 g2 => ?_⟩
                exact ⟨a, b, g.str.1, by rw [g2.str.1], le_line hz.1, q _ _ _ (x1.trans x2) (rk_fz (rep_okS hz.2))⟩
              · cases h
            | _ => simp [mtD] at h
          | _ => simp [mtD] at h
end
end R

set_option linter.all false
set_option maxHeartbeats 8000000
/-! All expressions. -/
namespace R
open PySem L2
section
variable {K : PySem.W.Frag} {B : Bd} {cl : Nat → List D → Option (Kd × D)} {sp : Nat → Sp}
/-- the item's function, as evE spells it -/
theorem lc_spell (g : Tg) (ifs : List IE) (elt : IE) (ρ : Env) : (fun x => match setTg g x (wipeR ρ (tgS g)) with
          | none => none
          | some ρ' => match evI cl ifs ρ' with
            | none => none
            | some false => some none
            | some true => match evE cl elt ρ' with
              | none => none
              | some r => match esc r with
                | none => none
                | some d => some (some d)) = lcItem g (evI cl ifs) (evE cl elt) ρ := rfl
theorem isDct_of {k : Kd} {d : D} {xs : List D} (h : srcD .keys [d] = some xs) : isDct d = true := by
  cases d <;> first | rfl | (simp [srcD] at h)
/-- what is frozen is not of one's own -/
theorem OwnC.off {I H : Hp} {p a : Addr} {d : D} {u u' : HO} (c : OwnC K I H p d) (hp : I p = none) (ia : I a = some u) : OwnC K I (upd H a u') p d ∧ foot (upd H a u') p d = foot H p d := by
  have ft := c.ft hp
  refine c.same (fun _ _ h => h) (fun b m => upd_ne fun z => ?_) fun b m => (ft b m).1
  rw [z] at m
  rw [(ft a m).1] at ia
  cases ia
theorem Sta.at_ {I H : Hp} {σ : List (Option V)} {ρ : Env} {a : Addr} {u u' : HO} (s : Sta K B I H σ ρ) (ia : I a = some u) (su : Sub I (upd H a u')) : Sta K B I (upd H a u') σ ρ := by
  refine ⟨su, fun b hb => ?_, s.pn, s.sl.len, s.sl.fz, fun i d' hi => ?_, s.sl.bo, fun i j d d' p q n h1 h2 h3 h4 => ?_⟩
  · by_cases e5 : b = a
    · rw [e5]
      exact ⟨_, upd_same⟩
    · rw [upd_ne e5]
      exact s.ba b hb
  · obtain ⟨p, h2, h3, h4, h5⟩ := s.sl.ow i d' hi
    obtain ⟨q1, q2⟩ := h4.off (u' := u') h3 ia
    exact ⟨p, h2, h3, q1, by rw [q2]; exact h5⟩
  · obtain ⟨p1, g1, g2, g3, _⟩ := s.sl.ow i d h1
    obtain ⟨p2, k1, k2, k3, _⟩ := s.sl.ow j d' h2
    rw [h3] at g1
    rw [h4] at k1
    cases g1
    cases k1
    rw [(g3.off g2 ia).2, (k3.off k2 ia).2]
    exact s.sl.ne i j d d' p q n h1 h2 h3 h4
/-- a dict is locked -/
theorem Sta.lock {I H : Hp} {σ : List (Option V)} {ρ : Env} {a : Addr} {u : HO} {od : Obj} (s : Sta K B I H σ ρ) (ia : I a = some u) (du : isDic u = true) : Sta K B I (upd H a (.frz od u)) σ ρ := by
  refine s.at_ ia fun b o hb => ?_
  by_cases e5 : b = a
  · rw [e5, ia] at hb
    cases hb
    rw [e5]
    exact .inr ⟨du, od, upd_same⟩
  · rw [upd_ne e5]
    exact s.su b o hb
/-- a comprehension over a dict -/
theorem lcKeys {g : Tg} {e : IE} {tt : TT} {te : TE} {fI : Env → Option Bool} {fE : Env → Option (Kd × D)} (hp : keysPath [e] = true) (hI : EvOkT K B.np tt fI) (hE : EvOk K B.np te fE)
    {σ : List (Option V)} {I H : Hp} {ρ : Env} {d : D} {xs ys : List D} {Q : VK} (s : Sta K B I H σ ρ) (e0 : evE cl e ρ = some (.fz, d)) (e1 : srcD .keys [d] = some xs) (e2 : lcRun (lcItem g fI fE ρ) xs = some ys)
    (q : ∀ v I' H', Ext I H I' H' → RK K B H I' H' .ow (.lst ys) v → Q v H') :
    tLockE (tLc (iKeys (rdE K sp e)) (rdG K g) tt te (tgS g)) σ H Q ∨ tLc (iKeys (rdE K sp e)) (rdG K g) tt te (tgS g) σ H Q := by
  have hd := isDct_of (k := .fz) e1
  obtain ⟨a, u, ia, du, ra, pe⟩ := path_ok (sp := sp) hp s e0 hd
  -- the walk, the dict being locked
  have go : ∀ (H1 : Hp) (od : Obj), (∀ b o, b ≠ a → H b = some o → H1 b = some o) → H1 a = some (.frz od u) → Sta K B I H1 σ ρ → ∀ (R : VK), (∀ v I' H', Ext I H1 I' H' → RK K B H1 I' H' .ow (.lst ys) v → R v H') →
      tLc (iKeys (rdE K sp e)) (rdG K g) tt te (tgS g) σ H1 R := fun H1 od hk h1 s1 R r => by
    refine lc_at (fr := False) (fun R' r' => ?_) hI hE s1 e2 r
    refine pe H1 _ hk ?_
    cases d with
    | dk ks ws =>
      simp only [srcD] at e1
      cases e1
      have ra' := ra
      simp only [Rep] at ra'
      obtain ⟨a', zs, e3, i3, r3, l3, z3, k3⟩ := ra'
      cases e3
      rw [ia] at i3
      cases i3
      exact ⟨a, od, rfl, .inl ⟨_, h1, r' _ I H1 (Ext.refl s1.su) (src_keysK l3 ia k3 h1) (by rw [List.length_map]; exact z3)⟩⟩
    | dt ks ws =>
      simp only [srcD] at e1
      cases e1
      have ra' := ra
      simp only [Rep] at ra'
      obtain ⟨a', zs, e3, i3, r3, l3, z3, k3⟩ := ra'
      cases e3
      rw [ia] at i3
      cases i3
      exact ⟨a, od, rfl, .inr ⟨_, h1, r' _ I H1 (Ext.refl s1.su) (src_keysT l3 ia k3 h1) (by rw [List.length_map]; exact z3)⟩⟩
    | _ => cases hd
  rcases s.su a u ia with h1 | ⟨_, od, h1⟩
  · refine .inl ⟨a, u, h1, (by cases u <;> first | trivial | (cases du)), fun od => ?_⟩
    have ne : ∀ b, b ≠ a → upd H a (.frz od u) b = H b := fun b hb => upd_ne hb
    have s1 : Sta K B I (upd H a (.frz od u)) σ ρ := s.lock ia du
    refine go _ od (fun b o hb h => by rw [ne b hb]; exact h) upd_same s1 _ fun v I' H' x r => ?_
    have ha' : H' a = some (.frz od u) := x.hh _ _ upd_same
    refine ⟨ha', q v I' _ ?_ ?_⟩
    · refine ⟨x.ii, fun b o hb => ?_, fun b o hb => ?_, fun b o hb n => ?_⟩
      · by_cases e5 : b = a
        · rw [e5, h1] at hb
          cases hb
          rw [e5]
          exact upd_same
        · rw [upd_ne e5]
          exact x.hh b o (by rw [ne b e5]; exact hb)
      · by_cases e5 : b = a
        · rw [e5, x.ii a u ia] at hb
          cases hb
          rw [e5]
          exact .inl upd_same
        · rw [upd_ne e5]
          exact x.su b o hb
      · by_cases e5 : b = a
        · rw [e5, ia]
          exact x.ii a u ia
        · exact x.fr b o (by rw [ne b e5]; exact hb) n
    · obtain ⟨⟨p, rfl, h3, h4⟩, p', e6, h5⟩ := r
      cases e6
      have np : p ≠ a := fun z => by rw [z, x.ii a u ia] at h3; cases h3
      refine ⟨⟨p, rfl, h3, (h4.same (fun _ _ h => h) (fun b m => ?_) fun b m => ?_).1⟩, p, rfl, fun b m => ?_⟩
      · rw [List.mem_singleton.mp m, upd_ne np]
      · rw [List.mem_singleton.mp m]
        exact h3
      · have h6 := h5 b m
        rw [List.mem_singleton.mp m] at h6 ⊢
        rw [ne p np] at h6
        exact h6
  · exact .inr (go H od (fun b o _ h => h) h1 s Q q)
theorem lookup_at {x : Str} : ∀ {ns : List Str} {xs : List V} {j : Nat}, ns.findIdx? (fun y => decide (y = x)) = some j → (ns.zip xs).lookup x = xs[j]?
  | [], xs, j, h => by simp at h
  | n :: ns, [], j, h => by simp
  | n :: ns, v :: xs, j, h => by
    rw [List.findIdx?_cons] at h
    by_cases c : n = x
    · rw [if_pos (by simpa using c)] at h
      cases h
      rw [List.zip_cons_cons, List.lookup_cons, c, beq_self_eq_true]
      rfl
    · rw [if_neg (by simpa using c)] at h
      cases e : ns.findIdx? (fun y => decide (y = x)) with
      | none => rw [e] at h; cases h
      | some i =>
        rw [e] at h
        cases h
        have hb : (x == n) = false := beq_eq_false_iff_ne.mpr fun z => c z.symm
        rw [List.zip_cons_cons, List.lookup_cons, hb]
        exact lookup_at e
theorem OwnC1.own {I H : Hp} {p : Addr} {d : D} (h : OwnC1 K I H p d) : OwnC K I H p d ∧ ∀ H p, kids H p d = [] := by
  refine ⟨?_, ?_⟩ <;> (cases d <;> first | exact h | exact fun _ _ => rfl | exact False.elim h)
/-- a field -/
theorem snd_fld {cs : List Str} {o : IE} {x : Str} {to : TE} (ho : EvOk K B to (evE cl o)) : EvOk K B (tFldC K cs to x) (evE cl (.fld cs o x)) := by
  intro σ I H ρ k d Q s h q
  rw [evE] at h
  split at h
  · cases h
  · rename_i k0 d0 e0
    refine ho σ I H ρ k0 d0 _ s e0 fun v I' H' z g => ?_
    cases d0 <;> first | (simp only [fldD] at h; cases h; done) | skip
    rename_i c ns ks ds
    simp only [fldD] at h
    split at h
    · rename_i hc
      split at h
      · cases h
      · rename_i j ej
        split at h
        · cases h
        · rename_i d1 e1
          have fin : ∀ (a dx : Addr) (xs : List V) (u : V), v = .ref a → H' a = some (.ins (cA K c) dx (ns.zip xs)) → xs[j]? = some u → RK K B H I' H' k d u → ∃ (a dx : Addr) (c : Str) (fs : List (Str × V)) (u : V), c ∈ cs ∧ v = .ref a ∧ H' a = some (.ins (cA K c) dx fs) ∧ fs.lookup x = some u ∧ Q u H' := fun a dx xs u e2 e3 e4 r => ⟨a, dx, c, _, u, hc, e2, e3, by rw [lookup_at ej]; exact e4, q u I' H' z r⟩
          have old : ∀ (p : Addr), v = .ref p → OwnC K I' H' p (.ob c ns ks ds) → (∀ a ∈ foot H' p (.ob c ns ks ds), ¬ B a ∨ H a = none) → k0 ≠ .fz → ∃ (a dx : Addr) (c : Str) (fs : List (Str × V)) (u : V), c ∈ cs ∧ v = .ref a ∧ H' a = some (.ins (cA K c) dx fs) ∧ fs.lookup x = some u ∧ Q u H' := fun p ev oc nb nf => by
            obtain ⟨dx, xs, e2, l, f, n, _⟩ := oc
            have key : ∀ (ks : List Bool) (ds : List D) (xs : List V) (j : Nat), OwnFs K I' H' ks ds xs → ds[j]? = some d1 → ∃ u, xs[j]? = some u ∧ ((ks[j]? ≠ some true ∧ Rep K I' d1 u) ∨ (ks[j]? = some true ∧ ∃ q, u = .ref q ∧ q ∈ kidsOf ks xs ∧ I' q = none ∧ OwnC1 K I' H' q d1)) := fun ks => by
              induction ks with
              | nil =>
                intro ds xs j f hj
                cases ds <;> cases xs <;> first | (cases f; done) | skip
                simp at hj
              | cons k ks ih =>
                intro ds xs j f hj
                cases ds with
                | nil => cases k <;> cases f
                | cons d ds =>
                  cases xs with
                  | nil => cases k <;> cases f
                  | cons x xs =>
                    cases k with
                    | true =>
                      obtain ⟨⟨q, rfl, h1, h2⟩, h3⟩ := f
                      cases j with
                      | zero =>
                        cases hj
                        exact ⟨_, rfl, .inr ⟨rfl, q, rfl, List.mem_cons_self, h1, h2⟩⟩
                      | succ j =>
                        obtain ⟨u, i1, i2⟩ := ih ds xs j h3 hj
                        refine ⟨u, i1, ?_⟩
                        rcases i2 with i2 | ⟨i2, q', i3, i4, i5⟩
                        · exact .inl i2
                        · exact .inr ⟨i2, q', i3, List.mem_cons_of_mem _ i4, i5⟩
                    | false =>
                      obtain ⟨h1, h3⟩ := f
                      cases j with
                      | zero =>
                        cases hj
                        exact ⟨_, rfl, .inl ⟨(by simp), h1⟩⟩
                      | succ j =>
                        obtain ⟨u, i1, i2⟩ := ih ds xs j h3 hj
                        refine ⟨u, i1, ?_⟩
                        rcases i2 with i2 | ⟨i2, q', i3, i4, i5⟩
                        · exact .inl i2
                        · refine .inr ⟨i2, q', i3, ?_, i5⟩
                          cases x <;> exact i4
            obtain ⟨u, e4, e5⟩ := key ks ds xs j f e1
            refine fin p dx xs u ev e2 e4 ?_
            rcases e5 with ⟨n1, r1⟩ | ⟨n1, q1, rfl, m1, i1, c1⟩
            · rw [if_pos (.inr n1)] at h
              cases h
              exact r1
            · rw [if_neg (by rintro (z | z); exact nf z; exact z n1)] at h
              cases h
              obtain ⟨oc1, nob⟩ := c1.own
              have hq : q1 ∈ foot H' p (.ob c ns ks ds) := by
                unfold foot
                rw [kids_ob e2 l]
                exact List.mem_cons_of_mem _ m1
              refine ⟨⟨q1, rfl, i1, oc1⟩, q1, rfl, fun a ha => ?_⟩
              rw [foot_one nob ha]
              rcases nb q1 hq with z | z
              · exact z
              · intro hb
                obtain ⟨o, ho⟩ := s.ba q1 hb
                rw [z] at ho
                cases ho
          cases k0 with
          | fz =>
            rw [if_pos (.inl rfl)] at h
            cases h
            have g : Rep K I' (.ob c ns ks ds) v := g
            simp only [Rep] at g
            obtain ⟨a, dx, xs, rfl, h1, h2, h3⟩ := g
            obtain ⟨u, hu, ru⟩ := h2.get e1
            refine fin a dx xs u rfl ?_ hu ru
            rcases z.su a _ h1 with q | ⟨q, _⟩
            · exact q
            · cases q
          | ow =>
            obtain ⟨⟨p, rfl, hp, oc⟩, p', e, hf⟩ := g
            cases e
            exact old p rfl oc (fun a m => .inr (hf a m)) (by intro z; cases z)
          | bo =>
            obtain ⟨⟨p, rfl, hp, oc⟩, p', e, hf⟩ := g
            cases e
            exact old p rfl oc (fun a m => .inl (hf a m)) (by intro z; cases z)
    · cases h
/-- a new instance -/
theorem snd_make (hc : CallOk K cl sp) {c : Str} {f : Nat} {es : List IE} {ta : TA} (ha : EvOkF K B ta (evF cl es)) : EvOk K B (tMake (cA K c) (sp f) [] E0 ta) (evE cl (.make c f es)) := by
  intro σ I H ρ k d Q s h q
  rw [evE] at h
  split at h
  · cases h
  · rename_i ds e1
    refine ha σ I H ρ ds _ s e1 fun vs I1 H1 x1 r => ?_
    intro x dx hx hdx ne
    rw [List.append_nil]
    have hm : ∃ c' ns ks ds', cl f (.ob c [] [] [] :: ds) = some (.bo, .io [0] .non [.ob c' ns ks ds']) ∧ (k, d) = (Kd.ow, .ob c' ns ks ds') := by
      unfold mkR at h
      split at h
      · rename_i e
        cases h
        exact ⟨_, _, _, _, e, rfl⟩
      · cases h
    obtain ⟨c', ns, ks, ds', e2, e3⟩ := hm
    cases e3
    have su1 : Sub I1 (upd (upd H1 dx (.own x)) x (.ins (cA K c) dx [])) := fun b u hb => by
      have n1 : b ≠ x := fun z => by rw [z, x1.su.fresh hx] at hb; cases hb
      have n2 : b ≠ dx := fun z => by rw [z, x1.su.fresh hdx] at hb; cases hb
      rw [upd_ne n1, upd_ne n2]
      exact x1.su b u hb
    have hd : OwnC K I1 (upd (upd H1 dx (.own x)) x (.ins (cA K c) dx [])) x (.ob c [] [] []) := ⟨dx, [], upd_same, rfl, trivial, List.nodup_nil, Nat.zero_le _⟩
    have ft : foot (upd (upd H1 dx (.own x)) x (.ins (cA K c) dx [])) x (.ob c [] [] []) = [x] := by
      exact congrArg (x :: ·) (kids_ob (c := c) (ns := []) (ks := []) (ds := []) (xs := []) (dx := dx) (C := cA K c) upd_same rfl)
    refine hc.io f _ [0] .non [.ob c' ns ks ds'] e2 [(0, x)] _ I1 _ _ _ su1 rfl ⟨by rw [List.length_cons, List.length_cons, r.len], fun i d hi hd => ?_, fun i p m => ?_, fun i j p q d e n m1 m2 => ?_⟩ fun v I' H' st su rv ou => ?_
    · cases i with
      | zero => exact absurd List.mem_cons_self hi
      | succ i =>
        obtain ⟨u, h1, h2⟩ := r.get (i := i) hd
        exact ⟨u, h1, h2⟩
    · cases List.mem_singleton.mp m
      exact ⟨_, rfl, rfl, x1.su.fresh hx, hd⟩
    · cases List.mem_singleton.mp m1
      cases List.mem_singleton.mp m2
      exact absurd rfl n
    · simp only [Rep] at rv
      refine ⟨rv, ?_⟩
      obtain ⟨d0, o1, o2, o3, o4⟩ := ou.ow 0 0 x rfl
      cases o1
      have cb : ∀ b o, H1 b = some o → (callB (upd (upd H1 dx (.own x)) x (.ins (cA K c) dx [])) [(0, x)] (.ob c [] [] [] :: ds)) b ∧ upd (upd H1 dx (.own x)) x (.ins (cA K c) dx []) b = some o := fun b o hb => by
        have n1 : b ≠ x := fun z => by rw [z, hx] at hb; cases hb
        have n2 : b ≠ dx := fun z => by rw [z, hdx] at hb; cases hb
        have e : upd (upd H1 dx (.own x)) x (.ins (cA K c) dx []) b = some o := by rw [upd_ne n1, upd_ne n2]; exact hb
        refine ⟨⟨⟨o, e⟩, fun i p d m hd hm => ?_⟩, e⟩
        cases List.mem_singleton.mp m
        cases hd
        rw [ft] at hm
        exact n1 (List.mem_singleton.mp hm)
      have xt : Ext I1 H1 I' H' := ⟨st.ii, fun b o hb => by
        obtain ⟨q1, q2⟩ := cb b o hb
        rw [st.bh b q1]
        exact q2, su, fun b o hb nt => by
        obtain ⟨q1, q2⟩ := cb b o hb
        exact st.bi b o q1 q2 nt⟩
      refine q _ I' H' (x1.trans xt) ⟨⟨x, rfl, o2, o3⟩, x, rfl, fun a m => ?_⟩
      cases e : H a with
      | none => rfl
      | some o => exact absurd (cb a o (x1.hh a o e)).1 (o4 a m)
theorem kOk {K : PySem.W.Frag} {I H : Hp} {y : D} {k : Key} {z : V} (h : keyOf y = some k) (g : See K I H y z) : okK k = true := by
  cases y <;> simp only [keyOf] at h <;> first | (cases h; done) | skip
  · cases h; rfl
  · cases h
    obtain ⟨_, h1, h2⟩ := g.str
    simp only [okK, okS, Bool.and_eq_true, decide_eq_true_eq]
    exact ⟨h1, h2⟩
theorem ksOk {K : PySem.W.Frag} {I : Hp} : ∀ {ds : List D} {k : List Key} {xs : List V}, keysOf ds = some k → Reps K I ds xs → ds.length ≤ LINE → okKs k = true := fun {ds k xs} h r z => by
  have key : ∀ (ds : List D) (k : List Key) (xs : List V), keysOf ds = some k → Reps K I ds xs → k.all okK = true ∧ k.length = ds.length := fun ds => by
    induction ds with
    | nil =>
      intro k xs h _
      simp only [keysOf] at h
      cases h
      exact ⟨rfl, rfl⟩
    | cons d ds ih =>
      intro k xs h r
      simp only [Reps] at r
      obtain ⟨x, r', rfl, h1, h2⟩ := r
      simp only [keysOf] at h
      cases e1 : keyOf d with
      | none => rw [e1] at h; cases h
      | some k1 =>
        cases e2 : keysOf ds with
        | none => rw [e1, e2] at h; cases h
        | some k2 =>
          rw [e1, e2] at h
          cases h
          obtain ⟨q1, q2⟩ := ih k2 r' e2 h2
          refine ⟨?_, by rw [List.length_cons, List.length_cons, q2]⟩
          rw [List.all_cons, q1, kOk (I := I) (H := I) e1 (.inl h1)]
          rfl
  obtain ⟨q1, q2⟩ := key ds k xs h r
  simp only [okKs, Bool.and_eq_true, decide_eq_true_eq]
  exact ⟨by rw [q2]; exact z, q1⟩
mutual
theorem snd0 (hc : CallOk K cl sp) : ∀ e : IE, okE e = true → EvOk K B.np (rdE K sp e) (evE cl e)
  | .var i, _ => by simp only [rdE]; exact snd_var i
  | .int i, _ => by simp only [rdE]; exact snd_c (d := .int i) (fun ρ => by simp only [evE]) fun I => rep_int
  | .bl i, _ => by simp only [rdE]; exact snd_c (d := .bl i) (fun ρ => by simp only [evE]) fun I => rep_bl
  | .non, _ => by simp only [rdE]; exact snd_c (d := .non) (fun ρ => by simp only [evE]) fun I => rep_non
  | .str x, h => by
    simp only [okE] at h
    simp only [rdE]
    exact snd_c (d := .str x) (fun ρ => by simp only [evE]) fun I => rep_okS h
  | .glb x d, h => by
    simp only [okE] at h
    simp only [rdE]
    refine snd_c (d := d) (fun ρ => by simp only [evE]) fun I => gl_rep rfl ?_
    cases d <;> first | rfl | exact h
  | .bin op a b, h => by
    simp only [okE, Bool.and_eq_true] at h
    simp only [rdE]
    intro σ I H ρ k d Q s h' q
    rw [evE] at h'
    split at h'
    · cases h'
    · rename_i k1 x e1
      split at h'
      · cases h'
      · rename_i k2 y e2
        exact two_ok (snd0 hc a h.1) (snd0 hc b h.2) s e1 e2 fun v w I' H' z g1 g2 => bin_ok h' z.su g1 g2 fun u I'' H'' y r => q u I'' H'' (z.trans y) (RK.step z r)
  | .cmp op a b, h => by
    simp only [okE, Bool.and_eq_true] at h
    simp only [rdE]
    intro σ I H ρ k d Q s h' q
    rw [evE] at h'
    split at h'
    · cases h'
    · rename_i k1 x e1
      split at h'
      · cases h'
      · rename_i k2 y e2
        split at h'
        · cases h'
        · rename_i c e3
          cases h'
          exact cmp2_ok (snd0 hc a h.1) (snd0 hc b h.2) s e1 e2 e3 fun I' H' x => q _ I' H' x (rk_fz rep_bl)
  | .chain op op' a b c, h => by
    simp only [okE, Bool.and_eq_true, bne_iff_ne, ne_eq] at h
    obtain ⟨⟨⟨⟨⟨⟨ha, hb⟩, hcc⟩, n1⟩, n2⟩, n3⟩, n4⟩ := h
    simp only [rdE]
    intro σ I H ρ k d Q s h' q
    rw [evE] at h'
    split at h'
    · cases h'
    · rename_i k1 x e1
      split at h'
      · cases h'
      · rename_i k2 y e2
        refine two_ok (snd0 hc a ha) (snd0 hc b hb) s e1 e2 fun v w I' H' z g1 g2 => ?_
        split at h'
        · cases h'
        · rename_i e3
          cases h'
          refine cmp_ok e3 z.su g1 g2 ⟨n1, n2⟩ ⟨false, rfl, ?_⟩
          rw [if_neg Bool.false_ne_true]
          exact q _ I' H' z (rk_fz rep_bl)
        · rename_i e3
          split at h'
          · cases h'
          · rename_i k3 z3 e4
            split at h'
            · cases h'
            · rename_i c' e5
              cases h'
              refine cmp_ok e3 z.su g1 g2 ⟨n1, n2⟩ ⟨true, rfl, ?_⟩
              rw [if_pos rfl]
              exact (snd0 hc c hcc).see (s.ext z) e4 fun u I'' H'' y2 g3 => cmp_ok e5 y2.su (g2.ext y2) g3 ⟨n3, n4⟩ (q _ _ _ (z.trans y2) (rk_fz rep_bl))
  | .and a b, h => by
    simp only [okE, Bool.and_eq_true] at h
    simp only [rdE]
    intro σ I H ρ k d Q s h' q
    rw [evE] at h'
    split at h'
    · cases h'
    · rename_i e1
      obtain ⟨k1, x, e2, e3⟩ := onT_some e1
      refine (snd0 hc a h.1).see s e2 fun v I' H' z g => ⟨true, tru_okD e3 z.su g, ?_⟩
      rw [if_pos rfl]
      exact snd0 hc b h.2 _ _ _ _ _ _ _ (s.ext z) h' fun u I'' H'' y r => q u I'' H'' (z.trans y) (RK.step z r)
    · rename_i e1
      obtain ⟨k1, x, e2, e3⟩ := onT_some e1
      rw [e2] at h'
      cases h'
      refine snd0 hc a h.1 _ _ _ _ _ _ _ s e2 fun v I' H' z g => ⟨false, tru_okD e3 z.su g.see, ?_⟩
      rw [if_neg Bool.false_ne_true]
      exact q v I' H' z g
  | .or a b, h => by
    simp only [okE, Bool.and_eq_true] at h
    simp only [rdE]
    intro σ I H ρ k d Q s h' q
    rw [evE] at h'
    split at h'
    · cases h'
    · rename_i e1
      obtain ⟨k1, x, e2, e3⟩ := onT_some e1
      rw [e2] at h'
      cases h'
      refine snd0 hc a h.1 _ _ _ _ _ _ _ s e2 fun v I' H' z g => ⟨true, tru_okD e3 z.su g.see, ?_⟩
      rw [if_pos rfl]
      exact q v I' H' z g
    · rename_i e1
      obtain ⟨k1, x, e2, e3⟩ := onT_some e1
      refine (snd0 hc a h.1).see s e2 fun v I' H' z g => ⟨false, tru_okD e3 z.su g, ?_⟩
      rw [if_neg Bool.false_ne_true]
      exact snd0 hc b h.2 _ _ _ _ _ _ _ (s.ext z) h' fun u I'' H'' y r => q u I'' H'' (z.trans y) (RK.step z r)
  | .not a, h => by
    simp only [okE] at h
    simp only [rdE]
    intro σ I H ρ k d Q s h' q
    rw [evE] at h'
    split at h'
    · cases h'
    · rename_i c e1
      obtain ⟨k1, x, e2, e3⟩ := onT_some e1
      cases h'
      exact (snd0 hc a h).see s e2 fun v I' H' z g => ⟨c, tru_okD e3 z.su g, q _ I' H' z (rk_fz rep_bl)⟩
  | .neg a, h => by
    simp only [okE] at h
    simp only [rdE]
    intro σ I H ρ k d Q s h' q
    rw [evE] at h'
    split at h'
    · rename_i k1 i e1
      cases h'
      exact (snd0 hc a h).see s e1 fun v I' H' z g => ⟨i, g.int, q _ I' H' z (rk_fz rep_int)⟩
    · cases h'
  | .ifx c a b, h => by
    simp only [okE, Bool.and_eq_true] at h
    simp only [rdE]
    intro σ I H ρ k d Q s h' q
    rw [evE] at h'
    split at h'
    · cases h'
    · rename_i e1
      refine sndT0 hc c h.1.1 σ I H ρ true _ s e1 fun I' H' z => ?_
      rw [if_pos rfl]
      exact snd0 hc a h.1.2 _ _ _ _ _ _ _ (s.ext z) h' fun u I'' H'' y r => q u I'' H'' (z.trans y) (RK.step z r)
    · rename_i e1
      refine sndT0 hc c h.1.1 σ I H ρ false _ s e1 fun I' H' z => ?_
      rw [if_neg Bool.false_ne_true]
      exact snd0 hc b h.2 _ _ _ _ _ _ _ (s.ext z) h' fun u I'' H'' y r => q u I'' H'' (z.trans y) (RK.step z r)
  | .tup es, h => by
    simp only [okE, Bool.and_eq_true, decide_eq_true_eq] at h
    simp only [rdE]
    intro σ I H ρ k d Q s h' q
    rw [evE] at h'
    split at h'
    · cases h'
    · rename_i ds e1
      cases h'
      have hl := evF_len e1
      refine sndF0 hc es h.1 _ _ _ _ _ _ s e1 fun vs I' H' x r => ⟨by rw [r.len, hl]; exact le_line h.2, fun p hp => ?_⟩
      obtain ⟨y, r'⟩ := rk_newT x.su hp r (by rw [hl]; exact h.2)
      exact q _ _ _ (x.trans y) r'
  | .lst es, h => by
    simp only [okE, Bool.and_eq_true, decide_eq_true_eq] at h
    simp only [rdE]
    intro σ I H ρ k d Q s h' q
    rw [evE] at h'
    split at h'
    · cases h'
    · rename_i ds e1
      cases h'
      have hl := evF_len e1
      refine sndF0 hc es h.1 _ _ _ _ _ _ s e1 fun vs I' H' x r => ⟨by rw [r.len, hl]; exact le_line h.2, fun p hp => ?_⟩
      obtain ⟨y, r'⟩ := rk_newL (B := B) x.su hp r (by rw [hl]; exact h.2)
      exact q _ _ _ (x.trans y) (RK.step x r')
  | .ix a b, h => by
    simp only [okE, Bool.and_eq_true] at h
    simp only [rdE]
    exact snd_ix (snd0 hc a h.1) (snd0 hc b h.2)
  | .slc a lo hi, h => by
    simp only [okE, Bool.and_eq_true] at h
    simp only [rdE]
    intro σ I H ρ k d Q s h' q
    rw [evE] at h'
    split at h'
    · cases h'
    · rename_i k1 x e1
      split at h'
      · cases h'
      · rename_i l e2
        split at h'
        · cases h'
        · rename_i hh e3
          refine (snd0 hc a h.1.1).see s e1 fun v I1 H1 x1 g => ?_
          refine sndO0 hc lo h.1.2 _ _ _ _ _ _ (s.ext x1) e2 fun I2 H2 x2 => ?_
          refine sndO0 hc hi h.2 _ _ _ _ _ _ ((s.ext x1).ext x2) e3 fun I3 H3 x3 => ?_
          exact slc_ok h' x3.su ((g.ext x2).ext x3) fun u I' H' y r => q u I' H' (((x1.trans x2).trans x3).trans y) (RK.step ((x1.trans x2).trans x3) r)
  | .call f es, h => by
    simp only [okE] at h
    simp only [rdE]
    exact snd_call hc (sndF0 hc es h)
  | .bcall f es, h => by
    simp only [okE] at h
    simp only [rdE]
    exact snd_bcall hc (sndB0 hc es h)
  | .callF f es, h => by
    simp only [okE] at h
    simp only [rdE]
    exact snd_callF hc (sndL0 hc es h)
  | .bi b es, h => by
    simp only [okE, Bool.and_eq_true] at h
    simp only [rdE]
    exact snd_bi h.2 (sndB0 hc es h.1) (sndL0 hc es h.1)
  | .mt m o es, h => by
    simp only [okE, Bool.and_eq_true] at h
    simp only [rdE]
    exact snd_mt h.2 (snd0 hc o h.1.1) (sndL0 hc es h.1.2)
  | .lc elt g k src ifs, h => by
    simp only [okE, Bool.and_eq_true] at h
    obtain ⟨⟨⟨h1, h2⟩, h3⟩, h4⟩ := h
    have hE := snd0 hc elt h1
    have hI := sndI0 hc ifs h3
    intro σ I H ρ k' d Q s h' q
    rw [evE] at h'
    split at h'
    · cases h'
    · rename_i ds e1
      split at h'
      · cases h'
      · rename_i xs e2
        split at h'
        · cases h'
        · rename_i ys e3
          cases h'
          have e3 : lcRun (lcItem g (evI cl ifs) (evE cl elt) ρ) xs = some ys := e3
          have plain : k ≠ .keys → tLc (rdSrc K k (rdL K sp src) (rdA K sp src)) (rdG K g) (rdI K sp ifs) (rdE K sp elt) (tgS g) σ H Q := fun hk => by
            have e1 : evB cl src ρ = some ds := by
              cases k <;> first | exact absurd rfl hk | exact e1
            refine lc_ok (fr := False) (src_any (k := k) hk (sndB0 hc src h2).s0 (fun ρ ds h => evB_len h) fun e he => ?_) hI hE σ I H ρ xs ys Q s ?_ e3 q
            · subst he
              exact ⟨_, (sndL0 hc [e] h2 e List.mem_cons_self).s0, fun ρ => evB_one⟩
            · show (evB cl src ρ).bind (srcD k) = some xs
              rw [e1]
              exact e2
          cases k with
          | keys =>
            simp only [bne_self_eq_false, Bool.false_or] at h4
            match src, h4, h2, e1 with
            | [e], h4, h2, e1 =>
              have e1 : evF cl [e] ρ = some ds := e1
              rw [evF_one] at e1
              cases e5 : evE cl e ρ with
              | none => rw [e5] at e1; cases e1
              | some r =>
                obtain ⟨k0, d0⟩ := r
                have k1 : k0 = .fz := by
                  rw [e5] at e1
                  have kp : ∀ e : IE, keysPath [e] = true → ∀ r, evE cl e ρ = some r → r.1 = .fz ∨ r.1 = .bo := fun e hp r he => by
                    cases e with
                    | var i =>
                      simp only [evE] at he
                      split at he
                      · cases he; exact .inl rfl
                      · cases he; exact .inr rfl
                      · cases he
                    | ix a b =>
                      rw [evE] at he
                      split at he
                      · cases he
                      · split at he
                        · cases he
                        · split at he
                          · cases he
                          · cases he; exact .inl rfl
                    | _ => simp only [keysPath] at hp; cases hp
                  rcases kp e h4 _ e5 with z | z
                  · exact z
                  · have z : k0 = .bo := z
                    subst z
                    cases e1
                subst k1
                rw [e5] at e1
                cases e1
                simp only [rdE, rdL, rdSrc]
                exact lcKeys (B := B.np) h4 hI hE s e5 e2 e3 q
            | [], h4, _, _ => simp only [keysPath] at h4; cases h4
            | _ :: _ :: _, h4, _, _ => simp only [keysPath] at h4; cases h4
          | seq => simp only [rdE]; exact plain (by intro h; injection h)
          | rng => simp only [rdE]; exact plain (by intro h; injection h)
          | enum => simp only [rdE]; exact plain (by intro h; injection h)
          | zip => simp only [rdE]; exact plain (by intro h; injection h)
          | rev => simp only [rdE]; exact plain (by intro h; injection h)
  | .dnew t, h => by
    simp only [rdE]
    intro σ I H ρ k d Q s h' q
    rw [evE] at h'
    cases t with
    | true =>
      rw [if_pos rfl]
      cases h'
      intro p hp
      exact q _ I _ (Ext.new s.su hp) ⟨⟨p, rfl, s.su.fresh hp, [], upd_same, Reps.nil, rfl, Nat.zero_le _, rfl⟩, p, rfl, fun a m => by rw [List.mem_singleton.mp m]; exact hp⟩
    | false =>
      rw [if_neg Bool.false_ne_true]
      cases h'
      intro p hp
      exact q _ I _ (Ext.new s.su hp) ⟨⟨p, rfl, s.su.fresh hp, [], upd_same, Reps.nil, rfl, Nat.zero_le _, rfl⟩, p, rfl, fun a m => by rw [List.mem_singleton.mp m]; exact hp⟩
  | .disp t ks vs, h => by
    simp only [okE, Bool.and_eq_true, beq_iff_eq] at h
    obtain ⟨⟨⟨⟨rfl, l1⟩, l2⟩, h1⟩, h2⟩ := h
    have SK := sndL0 hc ks h1
    have SV := sndL0 hc vs h2
    match ks, vs, l1, l2, SK, SV with
    | [k], [v], _, _, SK, SV =>
      have sk := SK k List.mem_cons_self
      have sv := SV v List.mem_cons_self
      simp only [rdE, rdL]
      intro σ I H ρ kk d Q s h' q
      rw [evE] at h'
      cases e1 : evE cl k ρ with
      | none => simp only [evF, e1] at h'; cases h'
      | some r =>
        cases e2 : esc r with
        | none => simp only [evF, e1, e2] at h'; cases h'
        | some dk =>
          cases e3 : evE cl v ρ with
          | none => simp only [evF, e1, e2, e3] at h'; cases h'
          | some r2 =>
            cases e4 : esc r2 with
            | none => simp only [evF, e1, e2, e3, e4] at h'; cases h'
            | some dv =>
              simp only [evF, e1, e2, e3, e4] at h'
              cases dk with
              | tup a =>
                simp only [dispD] at h'
                obtain ⟨kq, ek, eq⟩ := Option.map_eq_some_iff.mp h'
                cases eq
                intro p hp
                have x0 : Ext I H I (upd H p (.dT [])) := Ext.new s.su hp
                refine sk.fz (s.ext x0) e1 e2 fun w I1 H1 x1 g1 => ?_
                refine sv.fz ((s.ext x0).ext x1) e3 e4 fun z I2 H2 x2 g2 => ?_
                have x := x0.trans (x1.trans x2)
                have hp2 : H2 p = some (.dT []) := (x1.trans x2).hh p _ upd_same
                have ip : I2 p = none := ((x1.trans x2).fr p _ upd_same rfl).trans (s.su.fresh hp)
                have g1' := g1.mono x2.ii _ _
                simp only [Rep] at g1'
                obtain ⟨b, zs, rfl, ib, rb, zb⟩ := g1'
                have ne : ∀ b, H b ≠ none → b ≠ p := fun b hb e => hb (by rw [e]; exact hp)
                refine ⟨hp2, b, kq, rfl, by rw [sub_tup x2.su ib, keysOf_v ek rb], q _ I2 _ ⟨x.ii, fun c o ho => ?_, fun c u hu => ?_, x.fr⟩ ⟨⟨p, rfl, ip, [z], upd_same, Reps.cons g2 Reps.nil, rfl, by show 1 ≤ LINE; decide, ?_⟩, p, rfl, fun a m => by rw [List.mem_singleton.mp m]; exact hp⟩⟩
                · rw [upd_ne (fun e => by rw [e, hp] at ho; cases ho)]
                  exact x.hh c o ho
                · rw [upd_ne (fun e => by rw [e, ip] at hu; cases hu)]
                  exact x2.su c u hu
                · simp only [List.all_cons, List.all_nil, Bool.and_true]
                  exact ksOk ek rb zb
              | _ => simp only [dispD] at h'; cases h'
  | .fld cs o x, h => by
    simp only [okE] at h
    simp only [rdE]
    exact snd_fld (snd0 hc o h)
  | .make c f es, h => by
    simp only [okE] at h
    simp only [rdE]
    exact snd_make hc (sndF0 hc es h)
  | .callm _ _ _, h => by simp only [okE] at h; cases h
  | .mcall _ _ _ _ _, h => by simp only [okE] at h; cases h
theorem sndT0 (hc : CallOk K cl sp) : ∀ e : IE, okT e = true → EvOkT K B.np (rdT K sp e) (fun ρ => onT (evE cl e ρ))
  | .cmp op a b, h => by
    simp only [okT, Bool.and_eq_true] at h
    simp only [rdT]
    intro σ I H ρ c Q s e q
    obtain ⟨k, d, h', e2⟩ := onT_some e
    rw [evE] at h'
    split at h'
    · cases h'
    · rename_i k1 x e1
      split at h'
      · cases h'
      · rename_i k2 y e2
        split at h'
        · cases h'
        · rename_i c e3
          cases h'
          simp only [truD] at e2
          cases e2
          exact cmp2_ok (snd0 hc a h.1) (snd0 hc b h.2) s e1 (by assumption) e3 fun I' H' x => ⟨_, rfl, q I' H' x⟩
  | .chain op op' a b c, h => by
    simp only [okT, Bool.and_eq_true, bne_iff_ne, ne_eq] at h
    obtain ⟨⟨⟨⟨⟨⟨ha, hb⟩, hcc⟩, n1⟩, n2⟩, n3⟩, n4⟩ := h
    simp only [rdT]
    intro σ I H ρ c0 Q s e q
    obtain ⟨k, d, h', ec⟩ := onT_some e
    rw [evE] at h'
    split at h'
    · cases h'
    · rename_i k1 x e1
      split at h'
      · cases h'
      · rename_i k2 y e2
        refine two_ok (snd0 hc a ha) (snd0 hc b hb) s e1 e2 fun v w I' H' z g1 g2 => ?_
        split at h'
        · cases h'
        · rename_i e3
          cases h'
          simp only [truD] at ec
          cases ec
          refine cmp_ok e3 z.su g1 g2 ⟨n1, n2⟩ ⟨false, rfl, ?_⟩
          rw [if_neg Bool.false_ne_true]
          exact ⟨_, rfl, q I' H' z⟩
        · rename_i e3
          split at h'
          · cases h'
          · rename_i k3 z3 e4
            split at h'
            · cases h'
            · rename_i c' e5
              cases h'
              simp only [truD] at ec
              cases ec
              refine cmp_ok e3 z.su g1 g2 ⟨n1, n2⟩ ⟨true, rfl, ?_⟩
              rw [if_pos rfl]
              exact (snd0 hc c hcc).see (s.ext z) e4 fun u I'' H'' y2 g3 => cmp_ok e5 y2.su (g2.ext y2) g3 ⟨n3, n4⟩ ⟨_, rfl, q _ _ (z.trans y2)⟩
  | .and a b, h => by
    simp only [okT, Bool.and_eq_true] at h
    simp only [rdT]
    intro σ I H ρ c Q s e q
    have e : onT (evE cl (.and a b) ρ) = some c := e
    rw [evE] at e
    split at e
    · cases e
    · rename_i e1
      refine sndT0 hc a h.1 σ I H ρ true _ s e1 fun I' H' z => ?_
      rw [if_pos rfl]
      exact sndT0 hc b h.2 _ _ _ _ _ _ (s.ext z) e fun I'' H'' y => q I'' H'' (z.trans y)
    · rename_i e1
      refine sndT0 hc a h.1 σ I H ρ false _ s e1 fun I' H' z => ?_
      rw [if_neg Bool.false_ne_true]
      rw [e1] at e
      cases e
      exact q I' H' z
  | .or a b, h => by
    simp only [okT, Bool.and_eq_true] at h
    simp only [rdT]
    intro σ I H ρ c Q s e q
    have e : onT (evE cl (.or a b) ρ) = some c := e
    rw [evE] at e
    split at e
    · cases e
    · rename_i e1
      refine sndT0 hc a h.1 σ I H ρ true _ s e1 fun I' H' z => ?_
      rw [if_pos rfl]
      rw [e1] at e
      cases e
      exact q I' H' z
    · rename_i e1
      refine sndT0 hc a h.1 σ I H ρ false _ s e1 fun I' H' z => ?_
      rw [if_neg Bool.false_ne_true]
      exact sndT0 hc b h.2 _ _ _ _ _ _ (s.ext z) e fun I'' H'' y => q I'' H'' (z.trans y)
  | .not a, h => by
    simp only [okT] at h
    simp only [rdT]
    intro σ I H ρ c Q s e q
    have e : onT (evE cl (.not a) ρ) = some c := e
    rw [evE] at e
    split at e
    · cases e
    · rename_i c' e1
      simp only [onT, truD] at e
      cases e
      exact sndT0 hc a h σ I H ρ c' _ s e1 q
  | .var i, _ => by simp only [rdT]; exact (snd_var i).tru
  | .int i, _ => by simp only [rdT]; exact (snd_c (d := .int i) (fun ρ => by simp only [evE]) fun I => rep_int).tru
  | .bl i, _ => by simp only [rdT]; exact (snd_c (d := .bl i) (fun ρ => by simp only [evE]) fun I => rep_bl).tru
  | .ix a b, h => by
    simp only [okT, Bool.and_eq_true] at h
    simp only [rdT]
    exact (snd_ix (snd0 hc a h.1) (snd0 hc b h.2)).tru
  | .call f es, h => by
    simp only [okT] at h
    simp only [rdT]
    exact (snd_call hc (sndF0 hc es h)).tru
  | .bcall f es, h => by
    simp only [okT] at h
    simp only [rdT]
    exact (snd_bcall hc (sndB0 hc es h)).tru
  | .bi b es, h => by
    simp only [okT, Bool.and_eq_true] at h
    simp only [rdT]
    exact (snd_bi h.2 (sndB0 hc es h.1) (sndL0 hc es h.1)).tru
  | .non, h => by simp only [okT] at h; cases h
  | .str _, h => by simp only [okT] at h; cases h
  | .glb _ _, h => by simp only [okT] at h; cases h
  | .bin _ _ _, h => by simp only [okT] at h; cases h
  | .neg _, h => by simp only [okT] at h; cases h
  | .ifx _ _ _, h => by simp only [okT] at h; cases h
  | .tup _, h => by simp only [okT] at h; cases h
  | .lst _, h => by simp only [okT] at h; cases h
  | .slc _ _ _, h => by simp only [okT] at h; cases h
  | .mt _ _ _, h => by simp only [okT] at h; cases h
  | .lc _ _ _ _ _, h => by simp only [okT] at h; cases h
  | .dnew _, h => by simp only [okT] at h; cases h
  | .disp _ _ _, h => by simp only [okT] at h; cases h
  | .fld cs o x, h => by
    simp only [okT] at h
    simp only [rdT]
    exact (snd_fld (snd0 hc o h)).tru
  | .make _ _ _, h => by simp only [okT] at h; cases h
  | .callF _ _, h => by simp only [okT] at h; cases h
  | .callm _ _ _, h => by simp only [okT] at h; cases h
  | .mcall _ _ _ _ _, h => by simp only [okT] at h; cases h
theorem sndI0 (hc : CallOk K cl sp) : ∀ es : List IE, okI es = true → EvOkT K B.np (rdI K sp es) (evI cl es)
  | [], _ => by
    intro σ I H ρ c Q s e q
    simp only [evI] at e
    cases e
    simp only [rdI]
    exact q I H (Ext.refl s.su)
  | [e0], h => by
    simp only [okI] at h
    intro σ I H ρ c Q s e q
    simp only [rdI]
    refine sndT0 hc e0 h σ I H ρ c Q s ?_ q
    simp only [evI] at e
    show onT (evE cl e0 ρ) = some c
    split at e
    · cases e
    · rename_i e1
      cases e
      exact e1
    · rename_i e1
      cases e
      exact e1
  | _ :: _ :: _, h => by simp only [okI] at h; cases h
theorem sndO0 (hc : CallOk K cl sp) : ∀ o : Option IE, okO o = true → EvOkO K B.np (rdO K sp o) (evO cl o)
  | none, _ => by
    intro σ I H ρ c Q s e q
    simp only [evO] at e
    cases e
    simp only [rdO]
    exact q I H (Ext.refl s.su)
  | some e0, h => by
    simp only [okO] at h
    intro σ I H ρ c Q s e q
    simp only [rdO]
    simp only [evO] at e
    split at e
    · rename_i k i e1
      cases e
      exact (snd0 hc e0 h).see s e1 fun v I' H' x g => ⟨i, g.int, q I' H' x⟩
    · cases e
theorem sndF0 (hc : CallOk K cl sp) : ∀ es : List IE, okL es = true → EvOkF K B.np (rdA K sp es) (evF cl es)
  | [], _ => by
    intro σ I H ρ ds Q s e q
    simp only [evF] at e
    cases e
    simp only [rdA]
    exact q [] I H (Ext.refl s.su) Reps.nil
  | e0 :: es, h => by
    simp only [okL, Bool.and_eq_true] at h
    intro σ I H ρ ds Q s e q
    simp only [rdA]
    rw [evF] at e
    split at e
    · cases e
    · rename_i r e1
      split at e
      · cases e
      · rename_i d e2
        split at e
        · cases e
        · rename_i ds' e3
          cases e
          refine (snd0 hc e0 h.1).fz s e1 e2 fun v I1 H1 x1 g => ?_
          exact sndF0 hc es h.2 _ _ _ _ _ _ (s.ext x1) e3 fun vs I2 H2 x2 gs => q (v :: vs) I2 H2 (x1.trans x2) (Reps.cons (g.mono x2.ii _ _) gs)
theorem sndB0 (hc : CallOk K cl sp) : ∀ es : List IE, okL es = true → EvOkB K B.np (rdA K sp es) (evB cl es)
  | [], _ => by
    intro σ I H ρ ds Q s e q
    simp only [evB] at e
    cases e
    simp only [rdA]
    exact q [] I H (Ext.refl s.su) rfl
  | e0 :: es, h => by
    simp only [okL, Bool.and_eq_true] at h
    intro σ I H ρ ds Q s e q
    simp only [rdA]
    rw [evB] at e
    split at e
    · cases e
    · rename_i k d e1
      split at e
      · cases e
      · rename_i ds' e3
        cases e
        refine (snd0 hc e0 h.1).see s e1 fun v I1 H1 x1 g => ?_
        exact sndB0 hc es h.2 _ _ _ _ _ _ (s.ext x1) e3 fun vs I2 H2 x2 gs => q (v :: vs) I2 H2 (x1.trans x2) ⟨v, vs, rfl, g.ext x2, gs⟩
theorem sndL0 (hc : CallOk K cl sp) : ∀ es : List IE, okL es = true → ∀ e ∈ es, EvOk K B.np (rdE K sp e) (evE cl e)
  | [], _, e, m => by cases m
  | e' :: es, h, e, m => by
    simp only [okL, Bool.and_eq_true] at h
    rcases List.mem_cons.mp m with q | q
    · rw [q]
      exact snd0 hc e' h.1
    · exact sndL0 hc es h.2 e q
end
/-- the same with slots pinned -/
theorem EvOk.up {t : TE} {f : Env → Option (Kd × D)} (h : EvOk K B.np t f) : EvOk K B t f := fun σ I H ρ k d Q s e q => h σ I H ρ k d Q s.np e fun v I' H' x r => q v I' H' x (by cases k <;> exact r)
theorem EvOkT.up {t : TT} {f : Env → Option Bool} (h : EvOkT K B.np t f) : EvOkT K B t f := fun σ I H ρ c Q s e q => h σ I H ρ c Q s.np e q
theorem EvOkF.up {t : TA} {f : Env → Option (List D)} (h : EvOkF K B.np t f) : EvOkF K B t f := fun σ I H ρ c Q s e q => h σ I H ρ c Q s.np e q
theorem EvOkB.up {t : TA} {f : Env → Option (List D)} (h : EvOkB K B.np t f) : EvOkB K B t f := fun σ I H ρ c Q s e q => h σ I H ρ c Q s.np e q
theorem EvOkO.up {t : TO} {f : Env → Option (Option Int)} (h : EvOkO K B.np t f) : EvOkO K B t f := fun σ I H ρ c Q s e q => h σ I H ρ c Q s.np e q
theorem snd (hc : CallOk K cl sp) (e : IE) (h : okE e = true) : EvOk K B (rdE K sp e) (evE cl e) := (snd0 hc e h).up
theorem sndT (hc : CallOk K cl sp) (e : IE) (h : okT e = true) : EvOkT K B (rdT K sp e) (fun ρ => onT (evE cl e ρ)) := (sndT0 hc e h).up
theorem sndI (hc : CallOk K cl sp) (es : List IE) (h : okI es = true) : EvOkT K B (rdI K sp es) (evI cl es) := (sndI0 hc es h).up
theorem sndO (hc : CallOk K cl sp) (o : Option IE) (h : okO o = true) : EvOkO K B (rdO K sp o) (evO cl o) := (sndO0 hc o h).up
theorem sndF (hc : CallOk K cl sp) (es : List IE) (h : okL es = true) : EvOkF K B (rdA K sp es) (evF cl es) := (sndF0 hc es h).up
theorem sndB (hc : CallOk K cl sp) (es : List IE) (h : okL es = true) : EvOkB K B (rdA K sp es) (evB cl es) := (sndB0 hc es h).up
theorem sndL (hc : CallOk K cl sp) (es : List IE) (h : okL es = true) : ∀ e ∈ es, EvOk K B (rdE K sp e) (evE cl e) := fun e m => (sndL0 hc es h e m).up
end
end R

set_option linter.all false
set_option maxHeartbeats 8000000
/-! Statements. -/
namespace R
open PySem L2
section
variable {K : PySem.W.Frag} {B : Bd} {W : Str → Hp → Prop} {I H I' H' I1 H1 I2 H2 : Hp} {σ σ' : List (Option V)} {ρ ρ' : Env}
theorem Stp.refl : Stp B I H I H := ⟨fun _ _ h => h, fun _ _ _ => rfl, fun _ _ => rfl, fun _ _ _ _ _ => rfl⟩
theorem Stp.trans (a : Stp B I H I1 H1) (b : Stp B I1 H1 I2 H2) : Stp B I H I2 H2 :=
  ⟨fun c o h => b.ii c o (a.ii c o h), fun c o h => (b.fz c o (a.ii c o h)).trans (a.fz c o h), fun c h => (b.bh c h).trans (a.bh c h),
    fun c o h1 h2 h3 => (b.bi c o h1 ((a.bh c h1).trans h2) h3).trans (a.bi c o h1 h2 h3)⟩
theorem Ext.stp (x : Ext I H I' H') (su : Sub I H) (ba : ∀ b, B b → ∃ o, H b = some o) : Stp B I H I' H' := by
  refine ⟨x.ii, fun b o h => ?_, fun b h => ?_, fun b o h1 h2 h3 => x.fr b o h2 h3⟩
  · obtain ⟨u, hu⟩ := su.there h
    rw [hu]
    exact x.hh b u hu
  · obtain ⟨u, hu⟩ := ba b h
    rw [hu]
    exact x.hh b u hu
theorem Sta.stp (s : Sta K B I H σ ρ) (x : Ext I H I' H') : Stp B I H I' H' := x.stp s.su s.ba
def RV (K : PySem.W.Frag) (B : Bd) (I H : Hp) : Kd → D → V → Prop
  | .fz, d, v => Rep K I d v
  | _, d, v => Own K I H d v ∧ ∃ p, v = .ref p ∧ ∀ a ∈ foot H p d, ¬ B a
def Sat (K : PySem.W.Frag) (B : Bd) (W : Str → Hp → Prop) (D : Ends) (I H : Hp) : Out → Prop
  | .nx ρ' => ∀ (σ' : List (Option V)) (I' H' : Hp), Stp B I H I' H' → Sta K B I' H' σ' ρ' → D.nx σ' H'
  | .bk ρ' => ∀ (σ' : List (Option V)) (I' H' : Hp), Stp B I H I' H' → Sta K B I' H' σ' ρ' → D.bk σ' H'
  | .ct ρ' => ∀ (σ' : List (Option V)) (I' H' : Hp), Stp B I H I' H' → Sta K B I' H' σ' ρ' → D.ct σ' H'
  | .rt k d => (k ≠ .bo → ∀ (v : V) (I' H' : Hp), Stp B I H I' H' → Sub I' H' → RV K B I' H' k d v → D.rt v H') ∧ (k = .bo → (∀ c : Str, d = .exc c → ∀ (I' H' : Hp), Stp B I H I' H' → Sub I' H' → W c H') ∧ ∀ (js : List Nat) (r : R.D) (outs : List R.D), d = .io js r outs → ∀ (v : V) (I' H' : Hp), Stp B I H I' H' → Sub I' H' → Rep K I' r v → OutsP K B I' H' outs → D.rt v H')
theorem Sat.step {D : Ends} {o : Out} (h : Sat K B W D I H o) (x : Stp B I H I' H') : Sat K B W D I' H' o := by
  cases o with
  | nx ρ' => exact fun σ' I2 H2 y s => h σ' I2 H2 (x.trans y) s
  | bk ρ' => exact fun σ' I2 H2 y s => h σ' I2 H2 (x.trans y) s
  | ct ρ' => exact fun σ' I2 H2 y s => h σ' I2 H2 (x.trans y) s
  | rt k d => exact ⟨fun nb v I2 H2 y s r => h.1 nb v I2 H2 (x.trans y) s r, fun eb => ⟨fun c ec I2 H2 y s => (h.2 eb).1 c ec I2 H2 (x.trans y) s, fun js r outs e v I2 H2 y s rv ou => (h.2 eb).2 js r outs e v I2 H2 (x.trans y) s rv ou⟩⟩
def EvOkS (K : PySem.W.Frag) (B : Bd) (W : Str → Hp → Prop) (t : TS) (f : Env → Option Out) : Prop :=
  ∀ (σ : List (Option V)) (I H : Hp) (ρ : Env) (out : Out) (D : Ends), Sta K B I H σ ρ → f ρ = some out → Sat K B W D I H out → t D σ H
/-- an owned thing is changed: it, and its parts -/
theorem Sta.mutG {i : Nat} {d d' : D} {p : Addr} {H' : Hp} (s : Sta K B I H σ ρ) (hi : ρ[i]? = some (some (.ow, d))) (hp : σ[i]? = some (some (.ref p))) (hH : ∀ b, b ∉ foot H p d → H' b = H b) (c : OwnC K I H' p d')
    (hF : ∀ a ∈ foot H' p d', a ∈ foot H p d ∨ (¬ B a ∧ ∀ (j : Nat) (e : D) (q : Addr), j ≠ i → ρ[j]? = some (some (Kd.ow, e)) → σ[j]? = some (some (V.ref q)) → a ∉ foot H q e)) :
    Sta K B I H' σ (ρ.set i (some (.ow, d'))) ∧ Stp B I H I H' := by
  have hl : i < ρ.length := (List.getElem?_eq_some_iff.mp hi).1
  obtain ⟨p0, g1, h0, oc, nb⟩ := s.sl.ow i d hi
  rw [hp] at g1
  cases g1
  have ft := oc.ft h0
  have nf : ∀ b o, I b = some o → b ∉ foot H p d := fun b o h m => by rw [(ft b m).1] at h; cases h
  have nB : ∀ b, B b → b ∉ foot H p d := fun b h m => nb b m h
  have oth : ∀ (j : Nat) (e : D) (q : Addr), i ≠ j → ρ[j]? = some (some (Kd.ow, e)) → σ[j]? = some (some (V.ref q)) → OwnC K I H' q e ∧ foot H' q e = foot H q e ∧ I q = none ∧ ∀ a ∈ foot H q e, ¬ B a := fun j e q n h1 h2 => by
    obtain ⟨q0, k1, k2, k3, k4⟩ := s.sl.ow j e h1
    rw [h2] at k1
    cases k1
    have fq := k3.ft k2
    obtain ⟨r1, r2⟩ := k3.same (I' := I) (H' := H') (fun _ _ h => h) (fun a m => hH a fun m' => s.sl.ne i j d e p q n hi h1 hp h2 a m' m) fun a m => (fq a m).1
    exact ⟨r1, r2, k2, k4⟩
  refine ⟨⟨fun b u h => ?_, fun b h => ?_, fun j q m => ?_, by rw [List.length_set]; exact s.sl.len, fun j e h => ?_, fun j e h => ?_, fun j e h => ?_, fun j k e e' q q' nq h1 h2 h3 h4 => ?_⟩,
    fun _ _ h => h, fun b o h => hH b (nf b o h), fun b h => hH b (nB b h), fun _ _ _ _ _ => rfl⟩
  · rw [hH b (nf b u h)]
    exact s.su b u h
  · rw [hH b (nB b h)]
    exact s.ba b h
  · obtain ⟨m1, e, m2⟩ := s.pn j q m
    refine ⟨m1, ?_⟩
    by_cases z : i = j
    · subst z
      exact ⟨d', List.getElem?_set_self hl⟩
    · exact ⟨e, by rw [List.getElem?_set_ne z]; exact m2⟩
  · by_cases q : i = j
    · subst q
      rw [List.getElem?_set_self hl] at h
      cases h
    · rw [List.getElem?_set_ne q] at h
      exact s.sl.fz j e h
  · by_cases q : i = j
    · subst q
      rw [List.getElem?_set_self hl] at h
      cases h
      refine ⟨p, hp, h0, c, fun a m => ?_⟩
      rcases hF a m with z | z
      · exact nb a z
      · exact z.1
    · rw [List.getElem?_set_ne q] at h
      obtain ⟨w, q1, _⟩ := s.sl.ow j e h
      obtain ⟨r1, r2, r3, r4⟩ := oth j e w q h q1
      exact ⟨w, q1, r3, r1, by rw [r2]; exact r4⟩
  · by_cases q : i = j
    · subst q
      rw [List.getElem?_set_self hl] at h
      cases h
    · rw [List.getElem?_set_ne q] at h
      exact s.sl.bo j e h
  · by_cases z1 : i = j
    · subst z1
      rw [List.getElem?_set_self hl] at h1
      rw [List.getElem?_set_ne nq] at h2
      cases h1
      rw [hp] at h3
      cases h3
      rw [(oth k e' q' nq h2 h4).2.1]
      intro a m m'
      rcases hF a m with z | z
      · exact s.sl.ne i k d e' p q' nq hi h2 hp h4 a z m'
      · exact z.2 k e' q' (fun w => nq w.symm) h2 h4 m'
    · rw [List.getElem?_set_ne z1] at h1
      rw [(oth j e q z1 h1 h3).2.1]
      by_cases z2 : i = k
      · subst z2
        rw [List.getElem?_set_self hl] at h2
        cases h2
        rw [hp] at h4
        cases h4
        intro a m m'
        rcases hF a m' with z | z
        · exact s.sl.ne i j d e p q z1 hi h1 hp h3 a z m
        · exact z.2 j e q (fun w => z1 w.symm) h1 h3 m
      · rw [List.getElem?_set_ne z2] at h2
        rw [(oth k e' q' z2 h2 h4).2.1]
        exact s.sl.ne j k e e' q q' nq h1 h2 h3 h4
/-- .. with no parts -/
theorem Sta.mut {i : Nat} {d d' : D} {p : Addr} {o' : HO} (s : Sta K B I H σ ρ) (hi : ρ[i]? = some (some (.ow, d))) (hp : σ[i]? = some (some (.ref p))) (h0 : I p = none) (c : OwnC1 K I (upd H p o') p d') :
    Sta K B I (upd H p o') σ (ρ.set i (some (.ow, d'))) ∧ Stp B I H I (upd H p o') := by
  obtain ⟨c', n⟩ := c.own
  refine s.mutG hi hp (fun b m => upd_ne fun z => m (z ▸ foot_self)) c' fun a m => .inl ?_
  rw [foot_one n m]
  exact foot_self
/-- an owned thing is frozen -/
theorem Sta.frz {i : Nat} {d : D} (s : Sta K B I H σ ρ) (hi : ρ[i]? = some (some (.ow, d))) (np : ∀ p, (i, p) ∉ B.pins) : ∃ I', Stp B I H I' H ∧ Sta K B I' H σ (ρ.set i (some (.fz, d))) := by
  have hl : i < ρ.length := (List.getElem?_eq_some_iff.mp hi).1
  obtain ⟨p, h1, h2, h3, h4⟩ := s.sl.ow i d hi
  obtain ⟨I', ii, su, rp, out, at_⟩ := h3.freeze s.su h2
  have ft := h3.ft h2
  refine ⟨I', ⟨ii, fun _ _ _ => rfl, fun _ _ => rfl, fun b u h _ _ => out b fun m => h4 b m h⟩, su, s.ba, fun j q m => ?_, by rw [List.length_set]; exact s.sl.len, fun j e h => ?_, fun j e h => ?_, fun j e h => ?_, fun j k e e' q q' nq g1 g2 g3 g4 => ?_⟩
  · have n : i ≠ j := fun z => np q (z ▸ m)
    rw [List.getElem?_set_ne n]
    exact s.pn j q m
  · by_cases q : i = j
    · subst q
      rw [List.getElem?_set_self hl] at h
      cases h
      exact ⟨.ref p, h1, rp⟩
    · rw [List.getElem?_set_ne q] at h
      obtain ⟨v, q1, q2⟩ := s.sl.fz j e h
      exact ⟨v, q1, q2.mono ii _ _⟩
  · by_cases q : i = j
    · subst q
      rw [List.getElem?_set_self hl] at h
      cases h
    · rw [List.getElem?_set_ne q] at h
      obtain ⟨w, q1, q2, q3, q4⟩ := s.sl.ow j e h
      have fw := q3.ft q2
      have dis := s.sl.ne i j d e p w q hi h h1 q1
      have e0 : ∀ a ∈ foot H w e, I' a = none := fun a m => (out a fun m' => dis a m' m).trans (fw a m).1
      obtain ⟨r1, r2⟩ := q3.same (I' := I') (H' := H) ii (fun _ _ => rfl) e0
      exact ⟨w, q1, e0 w foot_self, r1, q4⟩
  · by_cases q : i = j
    · subst q
      rw [List.getElem?_set_self hl] at h
      cases h
    · rw [List.getElem?_set_ne q] at h
      exact s.sl.bo j e h
  · have n1 : i ≠ j := fun z => by
      subst z
      rw [List.getElem?_set_self hl] at g1
      cases g1
    have n2 : i ≠ k := fun z => by
      subst z
      rw [List.getElem?_set_self hl] at g2
      cases g2
    rw [List.getElem?_set_ne n1] at g1
    rw [List.getElem?_set_ne n2] at g2
    exact s.sl.ne j k e e' q q' nq g1 g2 g3 g4
theorem ownAt_some {i : Nat} {d : D} (h : ownAt ρ i = some d) : ρ[i]? = some (some (.ow, d)) := by
  unfold ownAt at h
  split at h
  · rename_i e
    cases h
    exact e
  · cases h
/-- storing what an expression gave -/
theorem setR_ok {g : Tg} {k : Kd} {d : D} {v : V} {Q : List (Option V) → Hp → Prop} (s0 : Sta K B I H σ ρ) (np : ∀ i ∈ tgS g, ∀ p, (i, p) ∉ B.pins) (h : setR g (k, d) ρ = some ρ') (x : Ext I H I' H') (r : RK K B H I' H' k d v)
    (q : ∀ σ', Sta K B I' H' σ' ρ' → Q σ' H') : rdG K g v σ H' Q := by
  have s := s0.ext x
  cases k with
  | fz =>
    refine tg_ok (ρ := ρ) (ρ' := ρ') (d := d) ?_ np s r fun σ' s' _ => q σ' s'
    cases g with
    | nm i => exact h
    | tp is => cases d <;> first | exact h | (simp only [setR] at h; cases h)
  | ow =>
    obtain ⟨⟨p, rfl, hp, c⟩, p', e, h0⟩ := r
    cases e
    cases g with
    | nm i =>
      simp only [setR] at h
      split at h
      · rename_i hi
        cases h
        refine q _ (s.setO hi hp c (fun a m hb => ?_) (np i List.mem_cons_self) fun j e w hj hr hw a m m' => ?_)
        · obtain ⟨o, ho⟩ := s0.ba a hb
          rw [h0 a m] at ho
          cases ho
        · obtain ⟨w', q1, q2, q3, q4⟩ := s0.sl.ow j e hr
          rw [hw] at q1
          cases q1
          rw [(q3.ext q2 x).2.1] at m'
          obtain ⟨_, o, ho, _⟩ := q3.ft q2 a m'
          rw [h0 a m] at ho
          cases ho
      · cases h
    | tp is =>
      cases d <;> first | (simp only [setR] at h; cases h; done) | exact False.elim c
  | bo => cases g <;> (simp only [setR] at h; cases h)
end
end R

set_option linter.all false
set_option maxHeartbeats 8000000
/-! All statements. -/
namespace R
open PySem L2
section
variable {K : PySem.W.Frag} {B : Bd} {W : Str → Hp → Prop} {cl : Nat → List D → Option (Kd × D)} {sp : Nat → Sp}
/-- o[k] = v -/
theorem setix_ok {i : Nat} {k v : IE} (hk : EvOk K B (rdE K sp k) (evE cl k)) (hv : EvOk K B (rdE K sp v) (evE cl v)) :
    EvOkS K B W (fun D σ H => tAsg (rdE K sp v) (gSub (tVar i) (rdE K sp k) rSetL) D σ H ∨ sDPut (tVar i) (rdE K sp k) (rdE K sp v) D σ H) (evS cl (.setix i k v)) := by
  intro σ I H ρ out D s h q
  rw [evS] at h
  split at h
  · cases h
  · rename_i r e1
    split at h
    · cases h
    · rename_i d e2
      split at h
      · cases h
      · rename_i o e3
        split at h
        · cases h
        · rename_i kk y e4
          split at h
          · cases h
          · rename_i o' e5
            cases h
            have hi := ownAt_some e3
            obtain ⟨p, hp, hI, hc, nb⟩ := s.sl.ow i o hi
            -- value, container, key
            have go : ∀ {R : V → V → Hp → Prop}, (∀ w z I' H', Ext I H I' H' → Rep K I' d w → See K I' H' y z → R w z H') → rdE K sp v σ H fun w H1 => ∃ x, σ[i]? = some (some x) ∧ (rdE K sp k σ H1 fun z H2 => x = .ref p ∧ R w z H2) := fun {R} hR =>
              hv.fz s e1 e2 fun w I1 H1 x1 g1 => ⟨_, hp, hk.see (s.ext x1) e4 fun z I2 H2 x2 g2 => ⟨rfl, hR w z I2 H2 (x1.trans x2) (g1.mono x2.ii _ _) g2⟩⟩
            have mutd : ∀ {I' H' : Hp} {o2 : HO}, Ext I H I' H' → OwnC1 K I' (upd H' p o2) p o' → D.nx σ (upd H' p o2) := fun {I' H' o2} x c => by
              obtain ⟨o0, ho, nt⟩ := hc.there
              obtain ⟨s', st⟩ := (s.ext x).mut (d' := o') hi hp ((x.fr p o0 ho nt).trans hI) c
              exact q σ I' _ ((s.stp x).trans st) s'
            have ownN : ∀ {I' H' : Hp}, Ext I H I' H' → I' p = none := fun {I' H'} x => by
              obtain ⟨o0, ho, nt⟩ := hc.there
              exact (x.fr p o0 ho nt).trans hI
            cases o with
            | lst ds =>
              cases y with
              | int kz =>
                simp only [setD] at e5
                obtain ⟨j, ej, rfl⟩ := Option.map_eq_some_iff.mp e5
                refine .inl ?_
                obtain ⟨r1, r2⟩ := r
                refine hv.fz s e1 e2 fun w I1 H1 x1 g1 => ⟨_, hp, hk.see (s.ext x1) e4 fun z I2 H2 x2 g2 => ?_⟩
                have x := x1.trans x2
                obtain ⟨xs, hx, rx, zx⟩ := (hc.ext hI x).1
                refine ⟨p, xs, kz, j, rfl, g2.int, hx, by rw [rx.len]; exact ej, mutd x ⟨_, upd_same, rx.set j (g1.mono x2.ii _ _), by rw [List.length_set]; exact zx⟩⟩
              | _ => simp [setD] at e5
            | dk ks ws =>
              simp only [setD] at e5
              split at e5
              · rename_i hz
                obtain ⟨kq, ek, rfl⟩ := Option.map_eq_some_iff.mp e5
                refine .inr ?_
                refine hv.fz s e1 e2 fun w I1 H1 x1 g1 => ⟨_, hp, hk.see (s.ext x1) e4 fun z I2 H2 x2 g2 => ?_⟩
                have x := x1.trans x2
                obtain ⟨xs, hx, rx, lx, zx, kx⟩ := (hc.ext hI x).1
                refine ⟨p, _, rfl, .inl ⟨_, kq, hx, keyOf_v ek g2, by rw [List.length_zip]; exact lt_line (by omega), rfl⟩, mutd x ?_⟩
                obtain ⟨ys, h1, h2, h3⟩ := put_ok kq rx lx (g1.mono x2.ii _ _)
                refine ⟨ys, by rw [upd_same, h1], h2, h3, ?_, ?_⟩
                · unfold putk
                  split
                  · exact zx
                  · rw [List.length_append, List.length_singleton]; omega
                · unfold putk
                  split
                  · exact kx
                  · rw [List.all_append, kx, Bool.true_and]
                    simp only [List.all_cons, List.all_nil, Bool.and_true]
                    exact key_ok ek g2
              · cases e5
            | dt ks ws =>
              cases y with
              | tup ds =>
                simp only [setD] at e5
                split at e5
                · rename_i hz
                  obtain ⟨kq, ek, rfl⟩ := Option.map_eq_some_iff.mp e5
                  refine .inr ?_
                  refine hv.fz s e1 e2 fun w I1 H1 x1 g1 => ⟨_, hp, hk.see (s.ext x1) e4 fun z I2 H2 x2 g2 => ?_⟩
                  have x := x1.trans x2
                  obtain ⟨xs, hx, rx, lx, zx, kx⟩ := (hc.ext hI x).1
                  obtain ⟨b, zs, rfl, hb, ib, rb, zb⟩ := g2.tup x2.su
                  refine ⟨p, _, rfl, .inr ⟨_, kq, b, hx, rfl, by rw [hb, keysOf_v ek rb], by rw [List.length_zip]; exact lt_line (by omega), rfl⟩, mutd x ?_⟩
                  obtain ⟨ys, h1, h2, h3⟩ := put_ok kq rx lx (g1.mono x2.ii _ _)
                  refine ⟨ys, by rw [upd_same, h1], h2, h3, ?_, ?_⟩
                  · unfold putk
                    split
                    · exact zx
                    · rw [List.length_append, List.length_singleton]; omega
                  · unfold putk
                    split
                    · exact kx
                    · rw [List.all_append, kx, Bool.true_and]
                      simp only [List.all_cons, List.all_nil, Bool.and_true]
                      exact keys_ok ek rb zb
                · cases e5
              | _ => simp [setD] at e5
            | ob _ _ _ _ => simp [setD] at e5
            | io _ _ _ => simp [setD] at e5
            | _ => exact False.elim hc
where
  put_ok {K : PySem.W.Frag} {κ : Type} [DecidableEq κ] {I : Hp} {ks : List κ} {ws : List D} {xs : List V} {d : D} {w : V} (q : κ) (r : Reps K I ws xs) (hl : ks.length = xs.length) (g : Rep K I d w) :
      ∃ ys, putK (ks.zip xs) q w = (putk ks q).zip ys ∧ Reps K I (put ks ws q d) ys ∧ (putk ks q).length = ys.length := by
    have hany : ∀ (ks : List κ) (xs : List V), ks.length = xs.length → ((ks.zip xs).any fun kv => decide (kv.1 = q)) = has ks q := fun ks => by
      induction ks with
      | nil => intro xs _; rfl
      | cons k ks ih =>
        intro xs hl
        cases xs with
        | nil => simp at hl
        | cons x xs =>
          show (decide (k = q) || (ks.zip xs).any _) = (decide (k = q) || has ks q)
          rw [ih xs (by simpa using hl)]
    unfold putK putk put
    rw [hany ks xs hl]
    cases hh : has ks q with
    | false =>
      rw [if_neg Bool.false_ne_true, if_neg Bool.false_ne_true, if_neg Bool.false_ne_true]
      refine ⟨xs ++ [w], ?_, r.app (Reps.cons g Reps.nil), by rw [List.length_append, List.length_append, hl]; rfl⟩
      rw [List.zip_append hl]
      rfl
    | true =>
      rw [if_pos rfl, if_pos rfl, if_pos rfl]
      have key : ∀ (ks : List κ) (ws : List D) (xs : List V), ks.length = xs.length → Reps K I ws xs → ∃ ys : List V, (ks.zip xs).map (fun kv => if kv.1 = q then (kv.1, w) else kv) = ks.zip ys ∧ Reps K I ((ks.zip ws).map fun p => if p.1 = q then d else p.2) ys ∧ ks.length = ys.length := fun ks => by
        induction ks with
        | nil =>
          intro ws xs hl r
          cases xs with
          | nil => exact ⟨[], rfl, Reps.nil, rfl⟩
          | cons _ _ => simp at hl
        | cons k ks ih =>
          intro ws xs hl r
          cases xs with
          | nil => simp at hl
          | cons x xs =>
            cases ws with
            | nil => simp only [Reps] at r; cases r
            | cons w0 ws =>
              simp only [Reps] at r
              obtain ⟨x', r', e, h1, h2⟩ := r
              cases e
              obtain ⟨ys, e1, e2, e3⟩ := ih ws xs (by simpa using hl) h2
              by_cases c : k = q
              · refine ⟨w :: ys, ?_, ?_, by rw [List.length_cons, List.length_cons, e3]⟩
                · rw [List.zip_cons_cons, List.map_cons, e1, List.zip_cons_cons]
                  simp only [c, if_true]
                · rw [List.zip_cons_cons, List.map_cons]
                  simp only [c, if_true]
                  exact Reps.cons g e2
              · refine ⟨x :: ys, ?_, ?_, by rw [List.length_cons, List.length_cons, e3]⟩
                · rw [List.zip_cons_cons, List.map_cons, e1, List.zip_cons_cons]
                  simp only [if_neg c]
                · rw [List.zip_cons_cons, List.map_cons]
                  simp only [if_neg c]
                  exact Reps.cons h1 e2
      exact key ks ws xs hl r
  key_ok {K : PySem.W.Frag} {I H : Hp} {y : D} {k : Key} {z : V} (h : keyOf y = some k) (g : See K I H y z) : okK k = true := by
    cases y <;> simp only [keyOf] at h <;> first | (cases h; done) | skip
    · cases h; rfl
    · cases h
      obtain ⟨_, h1, h2⟩ := g.str
      simp only [okK, okS, Bool.and_eq_true, decide_eq_true_eq]
      exact ⟨h1, h2⟩
  keys_ok {K : PySem.W.Frag} {I : Hp} : ∀ {ds : List D} {k : List Key} {xs : List V}, keysOf ds = some k → Reps K I ds xs → ds.length ≤ LINE → okKs k = true := fun {ds k xs} h r z => by
    have key : ∀ (ds : List D) (k : List Key) (xs : List V), keysOf ds = some k → Reps K I ds xs → k.all okK = true ∧ k.length = ds.length := fun ds => by
      induction ds with
      | nil =>
        intro k xs h _
        simp only [keysOf] at h
        cases h
        exact ⟨rfl, rfl⟩
      | cons d ds ih =>
        intro k xs h r
        simp only [Reps] at r
        obtain ⟨x, r', rfl, h1, h2⟩ := r
        simp only [keysOf] at h
        cases e1 : keyOf d with
        | none => rw [e1] at h; cases h
        | some k1 =>
          cases e2 : keysOf ds with
          | none => rw [e1, e2] at h; cases h
          | some k2 =>
            rw [e1, e2] at h
            cases h
            obtain ⟨q1, q2⟩ := ih k2 r' e2 h2
            refine ⟨?_, by rw [List.length_cons, List.length_cons, q2]⟩
            rw [List.all_cons, q1, key_ok (I := I) (H := I) e1 (.inl h1)]
            rfl
    obtain ⟨q1, q2⟩ := key ds k xs h r
    simp only [okKs, Bool.and_eq_true, decide_eq_true_eq]
    exact ⟨by rw [q2]; exact z, q1⟩
end
end R

set_option linter.all false
set_option maxHeartbeats 8000000
/-! Expressions that change what they lend, or raise. -/
namespace R
open PySem L2
section
variable (K : PySem.W.Frag) (B : Bd) (W : Str → Hp → Prop)
def EvOkX (t : TE) (f : Env → Option XO) : Prop :=
  ∀ (σ : List (Option V)) (I H : Hp) (ρ : Env) (o : XO) (Q : VK), Sta K B I H σ ρ → f ρ = some o →
    (∀ d ρ', o = .ok d ρ' → ∀ v I' H', Stp B I H I' H' → Sta K B I' H' σ ρ' → Rep K I' d v → Q v H') → (∀ c, o = .ex c → ∀ I' H', Stp B I H I' H' → Sub I' H' → W c H') → t σ H Q
def EvOkXT (t : TT) (f : Env → Option XT) : Prop :=
  ∀ (σ : List (Option V)) (I H : Hp) (ρ : Env) (o : XT) (Q : Bool → Hp → Prop), Sta K B I H σ ρ → f ρ = some o →
    (∀ b ρ', o = .ok b ρ' → ∀ I' H', Stp B I H I' H' → Sta K B I' H' σ ρ' → Q b H') → (∀ c, o = .ex c → ∀ I' H', Stp B I H I' H' → Sub I' H' → W c H') → t σ H Q
def ArgX (I : Hp) (σ : List (Option V)) : List (D ⊕ Nat) → List V → Prop
  | [], vs => vs = []
  | .inl d :: as, vs => ∃ v r, vs = v :: r ∧ Rep K I d v ∧ ArgX I σ as r
  | .inr j :: as, vs => ∃ v r, vs = v :: r ∧ σ[j]? = some (some v) ∧ ArgX I σ as r
def EvOkXA (t : TA) (f : Env → Option XA) : Prop :=
  ∀ (σ : List (Option V)) (I H : Hp) (ρ : Env) (o : XA) (Q : List V → Hp → Prop), Sta K B I H σ ρ → f ρ = some o →
    (∀ as ρ', o = .ok as ρ' → ∀ vs I' H', Stp B I H I' H' → Sta K B I' H' σ ρ' → ArgX K I' σ as vs → Q vs H') → (∀ c, o = .ex c → ∀ I' H', Stp B I H I' H' → Sub I' H' → W c H') → t σ H Q
end
section
variable {K : PySem.W.Frag} {B : Bd} {W : Str → Hp → Prop} {I H I' H' : Hp} {σ : List (Option V)} {ρ ρ' : Env} {cl : Nat → List D → Option (Kd × D)} {sp : Nat → Sp}
theorem ArgX.mono (ii : ∀ b o, I b = some o → I' b = some o) : ∀ {as : List (D ⊕ Nat)} {vs : List V}, ArgX K I σ as vs → ArgX K I' σ as vs
  | [], vs, h => h
  | .inl d :: as, vs, h => by
    obtain ⟨v, r, e, h1, h2⟩ := h
    exact ⟨v, r, e, h1.mono ii _ _, h2.mono ii⟩
  | .inr j :: as, vs, h => by
    obtain ⟨v, r, e, h1, h2⟩ := h
    exact ⟨v, r, e, h1, h2.mono ii⟩
theorem EvOk.esc {t : TE} {f : Env → Option (Kd × D)} (h : EvOk K B t f) : EvOkX K B W t (fun ρ => escO (f ρ) ρ) := by
  intro σ I H ρ o Q s e q _
  have e : escO (f ρ) ρ = some o := e
  cases e1 : f ρ with
  | none =>
    rw [e1] at e
    cases e
  | some r =>
    rw [e1] at e
    simp only [escO] at e
    split at e
    · rename_i d e2
      cases e
      exact h.fz s e1 e2 fun v I' H' x g => q d ρ rfl v I' H' (s.stp x) (s.ext x) g
    · cases e
/-! ### arguments, place by place -/
theorem fillA_at : ∀ {as : List (D ⊕ Nat)} {ds : List D}, fillA ρ as = some ds → ds.length = as.length ∧ (∀ (k : Nat) (d : D), as[k]? = some (.inl d) → ds[k]? = some d) ∧ (∀ (k j : Nat), as[k]? = some (.inr j) → ∃ d, ds[k]? = some d ∧ ρ[j]? = some (some (.ow, d)))
  | [], ds, h => by
    simp only [fillA] at h
    cases h
    exact ⟨rfl, fun k d e => by simp at e, fun k d e => by simp at e⟩
  | .inl d :: as, ds, h => by
    simp only [fillA] at h
    split at h
    · cases h
    · rename_i ds' e
      cases h
      obtain ⟨q1, q2, q3⟩ := fillA_at e
      refine ⟨by rw [List.length_cons, List.length_cons, q1], fun k d' e' => ?_, fun k j e' => ?_⟩
      · cases k with
        | zero => cases e'; rfl
        | succ k => exact q2 k d' e'
      · cases k with
        | zero => cases e'
        | succ k => exact q3 k j e'
  | .inr j :: as, ds, h => by
    simp only [fillA] at h
    split at h
    · cases h
    · rename_i d e0
      split at h
      · cases h
      · rename_i ds' e
        cases h
        obtain ⟨q1, q2, q3⟩ := fillA_at e
        refine ⟨by rw [List.length_cons, List.length_cons, q1], fun k d' e' => ?_, fun k j e' => ?_⟩
        · cases k with
          | zero => cases e'
          | succ k => exact q2 k d' e'
        · cases k with
          | zero =>
            cases e'
            exact ⟨d, rfl, ownAt_some e0⟩
          | succ k => exact q3 k j e'
theorem ArgX.at : ∀ {as : List (D ⊕ Nat)} {vs : List V}, ArgX K I σ as vs → vs.length = as.length ∧ (∀ (k : Nat) (d : D), as[k]? = some (.inl d) → ∃ v, vs[k]? = some v ∧ Rep K I d v) ∧ (∀ (k j : Nat), as[k]? = some (.inr j) → ∃ v, vs[k]? = some v ∧ σ[j]? = some (some v))
  | [], vs, h => by
    obtain rfl : vs = [] := h
    exact ⟨rfl, fun k d e => by simp at e, fun k d e => by simp at e⟩
  | .inl d :: as, vs, h => by
    obtain ⟨v, r, rfl, h1, h2⟩ := h
    obtain ⟨q1, q2, q3⟩ := h2.at
    refine ⟨by rw [List.length_cons, List.length_cons, q1], fun k d' e' => ?_, fun k j e' => ?_⟩
    · cases k with
      | zero => cases e'; exact ⟨v, rfl, h1⟩
      | succ k => exact q2 k d' e'
    · cases k with
      | zero => cases e'
      | succ k => exact q3 k j e'
  | .inr j :: as, vs, h => by
    obtain ⟨v, r, rfl, h1, h2⟩ := h
    obtain ⟨q1, q2, q3⟩ := h2.at
    refine ⟨by rw [List.length_cons, List.length_cons, q1], fun k d' e' => ?_, fun k j e' => ?_⟩
    · cases k with
      | zero => cases e'
      | succ k => exact q2 k d' e'
    · cases k with
      | zero => cases e'; exact ⟨v, rfl, h1⟩
      | succ k => exact q3 k j e'
/-- the lent ones: where they stand among the arguments, and in the heap -/
def pinsA (σ : List (Option V)) : Nat → List (D ⊕ Nat) → List (Nat × Addr)
  | _, [] => []
  | n, .inl _ :: as => pinsA σ (n + 1) as
  | n, .inr j :: as => match σ[j]? with
    | some (some (.ref p)) => (n, p) :: pinsA σ (n + 1) as
    | _ => pinsA σ (n + 1) as
theorem pinsA_at : ∀ {as : List (D ⊕ Nat)} {n : Nat}, (∀ j ∈ owns as, ∃ p, σ[j]? = some (some (.ref p))) → (pinsA σ n as).map (·.1) = posA n as ∧
    (∀ (i : Nat) (p : Addr), (i, p) ∈ pinsA σ n as → ∃ (k j : Nat), i = n + k ∧ as[k]? = some (.inr j) ∧ σ[j]? = some (some (.ref p))) ∧ (∀ (k j : Nat), (owns as)[k]? = some j → ∃ (i : Nat) (p : Addr) (m : Nat), (pinsA σ n as)[k]? = some (i, p) ∧ σ[j]? = some (some (.ref p)) ∧ i = n + m ∧ as[m]? = some (.inr j)) ∧ (pinsA σ n as).length = (owns as).length
  | [], n, h => ⟨rfl, (fun i p m => by cases m), (fun k j e => by simp [owns] at e), rfl⟩
  | .inl d :: as, n, h => by
    obtain ⟨q1, q2, q3, q4⟩ := pinsA_at (as := as) (n := n + 1) h
    refine ⟨q1, fun i p m => ?_, fun k j e => ?_, q4⟩
    · obtain ⟨k, j, e1, e2, e3⟩ := q2 i p m
      exact ⟨k + 1, j, by omega, e2, e3⟩
    · obtain ⟨i, p, m, e1, e2, e3, e4⟩ := q3 k j e
      exact ⟨i, p, m + 1, e1, e2, by omega, e4⟩
  | .inr j :: as, n, h => by
    obtain ⟨p0, hp⟩ := h j List.mem_cons_self
    obtain ⟨q1, q2, q3, q4⟩ := pinsA_at (as := as) (n := n + 1) fun j' m => h j' (List.mem_cons_of_mem _ m)
    have e0 : pinsA σ n (.inr j :: as) = (n, p0) :: pinsA σ (n + 1) as := by
      simp only [pinsA, hp]
    rw [e0]
    refine ⟨?_, fun i p m => ?_, fun k j' e => ?_, ?_⟩
    · show n :: (pinsA σ (n + 1) as).map (·.1) = n :: posA (n + 1) as
      rw [q1]
    · rcases List.mem_cons.mp m with z | z
      · cases z
        exact ⟨0, j, rfl, rfl, hp⟩
      · obtain ⟨k, j, e1, e2, e3⟩ := q2 i p z
        exact ⟨k + 1, j, by omega, e2, e3⟩
    · cases k with
      | zero =>
        cases e
        exact ⟨n, p0, 0, rfl, hp, rfl, rfl⟩
      | succ k =>
        obtain ⟨i, p, m, e1, e2, e3, e4⟩ := q3 k j' e
        exact ⟨i, p, m + 1, e1, e2, by omega, e4⟩
    · show (pinsA σ (n + 1) as).length + 1 = (owns as).length + 1
      rw [q4]
theorem owns_mem : ∀ {as : List (D ⊕ Nat)} {k j : Nat}, as[k]? = some (.inr j) → j ∈ owns as
  | [], k, j, h => by simp at h
  | .inl d :: as, 0, j, h => by cases h
  | .inl d :: as, k + 1, j, h => owns_mem (as := as) (k := k) h
  | .inr i :: as, 0, j, h => by cases h; exact List.mem_cons_self
  | .inr i :: as, k + 1, j, h => List.mem_cons_of_mem _ (owns_mem (as := as) (k := k) h)
theorem mem_owns : ∀ {as : List (D ⊕ Nat)} {j : Nat}, j ∈ owns as → ∃ k : Nat, as[k]? = some (.inr j)
  | [], j, h => by cases h
  | .inl d :: as, j, h => by
    obtain ⟨k, e⟩ := mem_owns (as := as) h
    exact ⟨k + 1, e⟩
  | .inr i :: as, j, h => by
    rcases List.mem_cons.mp h with z | z
    · exact ⟨0, by rw [z]; rfl⟩
    · obtain ⟨k, e⟩ := mem_owns (as := as) z
      exact ⟨k + 1, e⟩
theorem nodupB_iff : ∀ {xs : List Nat}, nodupB xs = true → xs.Nodup
  | [], _ => List.nodup_nil
  | x :: xs, h => by
    simp only [nodupB, Bool.and_eq_true, Bool.not_eq_true', List.contains_eq_mem, decide_eq_false_iff_not] at h
    exact List.nodup_cons.mpr ⟨h.1, nodupB_iff h.2⟩
theorem owns_inj : ∀ {as : List (D ⊕ Nat)} {k l j : Nat}, (owns as).Nodup → as[k]? = some (.inr j) → as[l]? = some (.inr j) → k = l
  | [], k, l, j, _, h, _ => by simp at h
  | .inl d :: as, 0, l, j, _, h, _ => by cases h
  | .inl d :: as, k + 1, 0, j, _, _, h => by cases h
  | .inl d :: as, k + 1, l + 1, j, n, h, g => by rw [owns_inj (as := as) (k := k) (l := l) n h g]
  | .inr i :: as, 0, 0, j, _, _, _ => rfl
  | .inr i :: as, 0, l + 1, j, n, h, g => by
    cases h
    exact absurd (owns_mem (as := as) (k := l) g) (List.nodup_cons.mp n).1
  | .inr i :: as, k + 1, 0, j, n, h, g => by
    cases g
    exact absurd (owns_mem (as := as) (k := k) h) (List.nodup_cons.mp n).1
  | .inr i :: as, k + 1, l + 1, j, n, h, g => by rw [owns_inj (as := as) (k := k) (l := l) (List.nodup_cons.mp n).2 h g]
theorem putOuts_at : ∀ {js : List Nat} {ds : List D} {ρ ρ' : Env}, putOuts js ds ρ = some ρ' → js.Nodup → (∀ j ∈ js, j < ρ.length) → js.length = ds.length ∧ ρ'.length = ρ.length ∧ (∀ (k j : Nat) (d : D), js[k]? = some j → ds[k]? = some d → ρ'[j]? = some (some (.ow, d))) ∧ (∀ j, j ∉ js → ρ'[j]? = ρ[j]?)
  | [], [], ρ, ρ', h, _, _ => by
    simp only [putOuts] at h
    cases h
    exact ⟨rfl, rfl, fun k j d e => by simp at e, fun _ _ => rfl⟩
  | [], _ :: _, ρ, ρ', h, _, _ => by simp only [putOuts] at h; cases h
  | _ :: _, [], ρ, ρ', h, _, _ => by simp only [putOuts] at h; cases h
  | j :: js, d :: ds, ρ, ρ', h, n, hl => by
    simp only [putOuts] at h
    obtain ⟨n1, n2⟩ := List.nodup_cons.mp n
    obtain ⟨q1, q2, q3, q4⟩ := putOuts_at h n2 fun i m => by rw [List.length_set]; exact hl i (List.mem_cons_of_mem _ m)
    refine ⟨by rw [List.length_cons, List.length_cons, q1], by rw [q2, List.length_set], fun k i e e1 e2 => ?_, fun i m => ?_⟩
    · cases k with
      | zero =>
        cases e1
        cases e2
        rw [q4 j n1, List.getElem?_set_self (hl j List.mem_cons_self)]
      | succ k => exact q3 k i e e1 e2
    · simp only [List.mem_cons, not_or] at m
      rw [q4 i m.2, List.getElem?_set_ne fun z => m.1 z.symm]
theorem repsX_of : ∀ {as : List (D ⊕ Nat)} {ds : List D} {vs : List V}, owns as = [] → fillA ρ as = some ds → ArgX K I σ as vs → Reps K I ds vs
  | [], ds, vs, _, h, g => by
    simp only [fillA] at h
    cases h
    obtain rfl : vs = [] := g
    exact Reps.nil
  | .inl d :: as, ds, vs, o, h, g => by
    obtain ⟨v, r, rfl, h1, h2⟩ := g
    simp only [fillA] at h
    split at h
    · cases h
    · rename_i ds' e
      cases h
      exact Reps.cons h1 (repsX_of (as := as) o e h2)
  | .inr j :: as, ds, vs, o, h, g => by cases o
/-- a call -/
theorem callX_ok (hc : CallOk K cl sp) {f : Nat} {as : List (D ⊕ Nat)} {vs : List V} {o : XO} {Q : VK} (s : Sta K B I H σ ρ) (g : ArgX K I σ as vs) (e : callX cl f as ρ = some o)
    (q : ∀ d ρ', o = .ok d ρ' → ∀ v I' H', Stp B I H I' H' → Sta K B I' H' σ ρ' → Rep K I' d v → Q v H') (q2 : ∀ c, o = .ex c → ∀ I' H', Stp B I H I' H' → Sub I' H' → W c H') : sp f (vs ++ []) H Q (EW K W) := by
  rw [List.append_nil]
  unfold callX at e
  split at e
  · cases e
  · rename_i ds ef
    split at e
    · cases e
    · rename_i c er
      split at e
      · rename_i eo
        cases e
        exact hc.fz f ds .bo (.exc c) er (fun _ => ⟨c, rfl⟩) B vs I H Q _ s.su (repsX_of eo ef g) (fun z => absurd rfl z) fun _ c' ec I' H' x cls d' ea => by
          cases ec
          exact ⟨c, ea, q2 c rfl I' H' (s.stp x) x.su⟩
      · cases e
    · rename_i js r outs er
      split at e
      · rename_i hz
        obtain ⟨hjs, hnd⟩ := hz
        have nd := nodupB_iff hnd
        split at e
        · cases e
        · rename_i ρ' ep
          cases e
          obtain ⟨f1, f2, f3⟩ := fillA_at ef
          obtain ⟨a1, a2, a3⟩ := g.at
          -- the owned slots among the arguments
          have ow : ∀ j ∈ owns as, ∃ p d, σ[j]? = some (some (.ref p)) ∧ ρ[j]? = some (some (.ow, d)) := fun j m => by
            obtain ⟨k, ek⟩ := mem_owns m
            obtain ⟨d, h1, h2⟩ := f3 k j ek
            obtain ⟨p, h3, _⟩ := s.sl.ow j d h2
            exact ⟨p, d, h3, h2⟩
          obtain ⟨p1, p2, p3, p4⟩ := pinsA_at (σ := σ) (as := as) (n := 0) fun j m => by
            obtain ⟨p, d, h, _⟩ := ow j m
            exact ⟨p, h⟩
          -- one of them, by its place
          have one : ∀ i p, (i, p) ∈ pinsA σ 0 as → ∃ j d, as[i]? = some (.inr j) ∧ σ[j]? = some (some (.ref p)) ∧ ds[i]? = some d ∧ vs[i]? = some (.ref p) ∧ ρ[j]? = some (some (.ow, d)) := fun i p m => by
            obtain ⟨k, j, ei, ea, es⟩ := p2 i p m
            rw [Nat.zero_add] at ei
            subst ei
            obtain ⟨d, h1, h2⟩ := f3 i j ea
            obtain ⟨v, h3, h4⟩ := a3 i j ea
            rw [es] at h4
            cases h4
            exact ⟨j, d, ea, es, h1, h3, h2⟩
          have slo : ∀ (j : Nat) (d : D) (p : Addr), ρ[j]? = some (some (.ow, d)) → σ[j]? = some (some (.ref p)) → I p = none ∧ OwnC K I H p d ∧ ∀ a ∈ foot H p d, ¬ B a := fun j d p h1 h2 => by
            obtain ⟨p', g1, g2, g3, g4⟩ := s.sl.ow j d h1
            rw [h2] at g1
            cases g1
            exact ⟨g2, g3, g4⟩
          refine hc.io f ds js r outs er (pinsA σ 0 as) vs I H Q _ s.su (p1.trans hjs) ⟨by rw [a1, f1], fun i d ni hd => ?_, fun i p m => ?_, fun i j p q' d e' n m1 m2 h1 h2 => ?_⟩ fun v I' H' st su rv ou => ?_
          · have hi : i < as.length := by
              rw [← f1]
              exact (List.getElem?_eq_some_iff.mp hd).1
            have ea : as[i]? = some as[i] := List.getElem?_eq_getElem hi
            cases eo : as[i] with
            | inl d' =>
              rw [eo] at ea
              have := f2 i d' ea
              rw [hd] at this
              cases this
              exact a2 i d ea
            | inr j =>
              rw [eo] at ea
              exfalso
              apply ni
              have mj := owns_mem ea
              obtain ⟨k, hk⟩ := List.getElem?_of_mem mj
              obtain ⟨i', p', m', e1, e2, e3, e4⟩ := p3 k j hk
              rw [Nat.zero_add] at e3
              subst e3
              have : i' = i := owns_inj nd e4 ea
              subst this
              exact List.mem_map.mpr ⟨(i', p'), List.mem_of_getElem? e1, rfl⟩
          · obtain ⟨j, d, h1, h2, h3, h4, h5⟩ := one i p m
            obtain ⟨g1, g2, _⟩ := slo j d p h5 h2
            exact ⟨d, h3, h4, g1, g2⟩
          · obtain ⟨j1, d1, x1, x2, x3, x4, x5⟩ := one i p m1
            obtain ⟨j2, d2, y1, y2, y3, y4, y5⟩ := one j q' m2
            rw [x3] at h1
            rw [y3] at h2
            cases h1
            cases h2
            have nj : j1 ≠ j2 := fun z => n (by subst z; exact owns_inj nd x1 y1)
            exact s.sl.ne j1 j2 d e' p q' nj x5 y5 x2 y2
          · -- the state behind
            have cb : ∀ b, B b → callB H (pinsA σ 0 as) ds b := fun b hb => ⟨s.ba b hb, fun i p d m hd hf => by
              obtain ⟨j1, d1, x1, x2, x3, x4, x5⟩ := one i p m
              rw [x3] at hd
              cases hd
              exact (slo j1 d p x5 x2).2.2 b hf hb⟩
            have stB : Stp B I H I' H' := ⟨st.ii, st.fz, fun b hb => st.bh b (cb b hb), fun b o hb => st.bi b o (cb b hb)⟩
            obtain ⟨u1, u2, u3, u4⟩ := putOuts_at ep nd fun j m => by
              obtain ⟨p, d, _, h⟩ := ow j m
              exact (List.getElem?_eq_some_iff.mp h).1
            -- a slot that wasn't lent
            have oth : ∀ j e' q', j ∉ owns as → ρ[j]? = some (some (.ow, e')) → σ[j]? = some (some (.ref q')) → OwnC K I' H' q' e' ∧ foot H' q' e' = foot H q' e' ∧ I' q' = none ∧ (∀ a ∈ foot H q' e', callB H (pinsA σ 0 as) ds a) ∧ ∀ a ∈ foot H q' e', ¬ B a := fun j e' q' n h1 h2 => by
              obtain ⟨g1, g2, g3⟩ := slo j e' q' h1 h2
              have ft := g2.ft g1
              have cbf : ∀ a ∈ foot H q' e', callB H (pinsA σ 0 as) ds a := fun a m => by
                obtain ⟨_, o, ho, _⟩ := ft a m
                refine ⟨⟨o, ho⟩, fun i p d m' hd hf => ?_⟩
                obtain ⟨j1, d1, x1, x2, x3, x4, x5⟩ := one i p m'
                rw [x3] at hd
                cases hd
                exact s.sl.ne j j1 e' d q' p (fun z => n (by rw [z]; exact owns_mem x1)) h1 x5 h2 x2 a m hf
              have i0 : ∀ a ∈ foot H q' e', I' a = none := fun a m => by
                obtain ⟨hi, o, ho, nt⟩ := ft a m
                exact (st.bi a o (cbf a m) ho nt).trans hi
              obtain ⟨r1, r2⟩ := g2.same st.ii (fun a m => st.bh a (cbf a m)) i0
              exact ⟨r1, r2, i0 q' foot_self, cbf, g3⟩
            have ton : ∀ j d, ρ'[j]? = some (some (.ow, d)) → j ∈ owns as → ∃ k i p, (owns as)[k]? = some j ∧ (pinsA σ 0 as)[k]? = some (i, p) ∧ outs[k]? = some d ∧ σ[j]? = some (some (.ref p)) := fun j d h m => by
              obtain ⟨k, hk⟩ := List.getElem?_of_mem m
              obtain ⟨i, p, m', e1, e2, e3, e4⟩ := p3 k j hk
              have hkl : k < outs.length := by
                rw [← u1]
                exact (List.getElem?_eq_some_iff.mp hk).1
              have := u3 k j outs[k] hk (List.getElem?_eq_getElem hkl)
              rw [h] at this
              cases this
              exact ⟨k, i, p, hk, e1, List.getElem?_eq_getElem hkl, e2⟩
            refine q r ρ' rfl v I' H' stB ⟨su, fun b hb => ?_, fun j p m => ?_, u2.symm ▸ s.sl.len, fun i d h => ?_, fun i d h => ?_, fun i d h => ?_, fun i j d e' p q' n h1 h2 h3 h4 => ?_⟩ rv
            · rw [st.bh b (cb b hb)]
              exact s.ba b hb
            · obtain ⟨m1, e', m2⟩ := s.pn j p m
              refine ⟨m1, ?_⟩
              by_cases z : j ∈ owns as
              · obtain ⟨k, hk⟩ := List.getElem?_of_mem z
                have hkl : k < outs.length := by
                  rw [← u1]
                  exact (List.getElem?_eq_some_iff.mp hk).1
                exact ⟨_, u3 k j outs[k] hk (List.getElem?_eq_getElem hkl)⟩
              · exact ⟨e', by rw [u4 j z]; exact m2⟩
            · have n : i ∉ owns as := fun m => by
                obtain ⟨k, hk⟩ := List.getElem?_of_mem m
                have hkl : k < outs.length := by
                  rw [← u1]
                  exact (List.getElem?_eq_some_iff.mp hk).1
                have := u3 k i outs[k] hk (List.getElem?_eq_getElem hkl)
                rw [h] at this
                cases this
              rw [u4 i n] at h
              obtain ⟨w, g1, g2⟩ := s.sl.fz i d h
              exact ⟨w, g1, g2.mono st.ii _ _⟩
            · by_cases z : i ∈ owns as
              · obtain ⟨k, i', p, e1, e2, e3, e4⟩ := ton i d h z
                obtain ⟨d', o1, o2, o3, o4⟩ := ou.ow k i' p e2
                rw [e3] at o1
                cases o1
                exact ⟨p, e4, o2, o3, fun a m hb => o4 a m (cb a hb)⟩
              · rw [u4 i z] at h
                obtain ⟨p, g1, _⟩ := s.sl.ow i d h
                obtain ⟨r1, r2, r3, _, r5⟩ := oth i d p z h g1
                exact ⟨p, g1, r3, r1, by rw [r2]; exact r5⟩
            · by_cases z : i ∈ owns as
              · obtain ⟨k, hk⟩ := List.getElem?_of_mem z
                have hkl : k < outs.length := by
                  rw [← u1]
                  exact (List.getElem?_eq_some_iff.mp hk).1
                have := u3 k i outs[k] hk (List.getElem?_eq_getElem hkl)
                rw [h] at this
                cases this
              · rw [u4 i z] at h
                exact s.sl.bo i d h
            · by_cases z1 : i ∈ owns as
              · obtain ⟨k, i', p', e1, e2, e3, e4⟩ := ton i d h1 z1
                rw [h3] at e4
                cases e4
                by_cases z2 : j ∈ owns as
                · obtain ⟨l, i2, p2', f1', f2', f3', f4'⟩ := ton j e' h2 z2
                  rw [h4] at f4'
                  cases f4'
                  exact ou.ne k l i' i2 p q' d e' (fun z => n (by subst z; rw [e1] at f1'; exact Option.some.inj f1')) e2 f2' e3 f3'
                · rw [u4 j z2] at h2
                  obtain ⟨r1, r2, r3, r4, _⟩ := oth j e' q' z2 h2 h4
                  rw [r2]
                  obtain ⟨d', o1, o2, o3, o4⟩ := ou.ow k i' p e2
                  rw [e3] at o1
                  cases o1
                  exact fun a m1 m2 => o4 a m1 (r4 a m2)
              · rw [u4 i z1] at h1
                obtain ⟨r1, r2, r3, r4, _⟩ := oth i d p z1 h1 h3
                rw [r2]
                by_cases z2 : j ∈ owns as
                · obtain ⟨l, i2, p2', f1', f2', f3', f4'⟩ := ton j e' h2 z2
                  rw [h4] at f4'
                  cases f4'
                  obtain ⟨d', o1, o2, o3, o4⟩ := ou.ow l i2 q' f2'
                  rw [f3'] at o1
                  cases o1
                  exact fun a m1 m2 => o4 a m2 (r4 a m1)
                · rw [u4 j z2] at h2
                  obtain ⟨y1, y2, _⟩ := oth j e' q' z2 h2 h4
                  rw [y2]
                  exact s.sl.ne i j d e' p q' n h1 h2 h3 h4
      · cases e
    · cases e
    · rename_i k d nb1 nb2 nb3 er
      split at e
      · rename_i eo
        cases e
        have nk : k ≠ .bo := nb3
        refine hc.fz f ds k d er (fun z => absurd z nk) B vs I H Q _ s.su (repsX_of eo ef g) (fun _ v I' H' x rk => ?_) fun z => absurd z nk
        have ez : esc (k, d) = some d := by
          cases k <;> first | rfl | exact absurd rfl nk
        obtain ⟨_, I'', x', rp, ii⟩ := esc_ok ez x rk
        exact q d ρ rfl v I'' H' (s.stp x') (s.ext x') rp
      · cases e
end
end R

set_option linter.all false
set_option maxHeartbeats 8000000
namespace R
open PySem L2
section
variable {K : PySem.W.Frag} {B : Bd} {W : Str → Hp → Prop} {I H I' H' : Hp} {σ : List (Option V)} {ρ ρ' : Env} {cl : Nat → List D → Option (Kd × D)} {sp : Nat → Sp}
theorem lookup_mem {c : Str} {f : Nat} : ∀ {cs : List (Str × Nat)}, cs.lookup c = some f → (c, f) ∈ cs
  | [], h => by cases h
  | (c', f') :: cs, h => by
    rw [List.lookup_cons] at h
    split at h
    · rename_i e
      cases h
      rw [eq_of_beq e]
      exact List.mem_cons_self
    · exact List.mem_cons_of_mem _ (lookup_mem h)
theorem lookup_non {m : Str} : ∀ {ns : List Str} {xs : List V}, m ∉ ns → (ns.zip xs).lookup m = none
  | [], xs, h => by simp
  | n :: ns, [], h => by simp
  | n :: ns, x :: xs, h => by
    simp only [List.mem_cons, not_or] at h
    have hb : (m == n) = false := beq_eq_false_iff_ne.mpr h.1
    rw [List.zip_cons_cons, List.lookup_cons, hb]
    exact lookup_non h.2
theorem dispM_some {cs : List (Str × Nat)} {m : Str} {d : D} {f : Nat} (h : dispM cs m d = some f) : ∃ c ns ks ds, d = .ob c ns ks ds ∧ m ∉ ns ∧ (c, f) ∈ cs := by
  unfold dispM at h
  split at h
  · rename_i c ns ks ds
    split at h
    · cases h
    · rename_i hm
      exact ⟨c, ns, ks, ds, rfl, hm, lookup_mem h⟩
  · cases h
theorem lentV_some {e : IE} {j : Nat} {d : D} (h : lentV ρ e = some (j, d)) : e = .var j ∧ ρ[j]? = some (some (.ow, d)) := by
  unfold lentV at h
  split at h
  · split at h
    · cases h
    · rename_i e1
      cases h
      exact ⟨rfl, ownAt_some e1⟩
  · cases h
theorem escO_some {r : Option (Kd × D)} {o : XO} (h : escO r ρ = some o) : ∃ k d d', r = some (k, d) ∧ esc (k, d) = some d' ∧ o = .ok d' ρ := by
  cases r with
  | none => cases h
  | some r =>
    simp only [escO] at h
    split at h
    · rename_i d e
      cases h
      exact ⟨r.1, r.2, d, rfl, e, rfl⟩
    · cases h
theorem rep_any {d : D} {v : V} {I1 I2 : Hp} (h : Rep K I1 d v) (ii : ∀ b o, I1 b = some o → I2 b = some o) : Rep K I2 d v := h.mono ii _ _
mutual
theorem sndX (hc : CallOk K cl sp) : ∀ e : IE, okX e = true → EvOkX K B W (rdX K sp W e) (evX cl e)
  | .callm f js es, h => by
    simp only [okX] at h
    simp only [rdX]
    intro σ I H ρ o Q s e q q2
    rw [evX] at e
    split at e
    · cases e
    · rename_i c e1
      cases e
      exact sndXA hc es h js 0 σ I H ρ _ _ s e1 (fun as ρ' z => nomatch z) fun c' z I' H' x su => by
        cases z
        exact q2 c rfl I' H' x su
    · rename_i as ρ' e1
      refine sndXA hc es h js 0 σ I H ρ _ _ s e1 (fun as' ρ'' z vs I' H' x s' g => ?_) fun c' z => nomatch z
      cases z
      exact callX_ok hc s' g e (fun d ρ'' ez v I'' H'' y s'' r => q d ρ'' ez v I'' H'' (x.trans y) s'' r) fun c ez I'' H'' y su => q2 c ez I'' H'' (x.trans y) su
  | .mcall cs m js o es, h => by
    simp only [okX, Bool.and_eq_true] at h
    obtain ⟨⟨h0, o1⟩, o2⟩ := h
    simp only [rdX]
    intro σ I H ρ out Q s e q q2
    rw [evX] at e
    split at e
    · split at e
      · cases e
      · rename_i j d e0
        obtain ⟨rfl, er⟩ := lentV_some e0
        split at e
        · cases e
        · rename_i f e1
          obtain ⟨c, ns, ks, ds, rfl, hm, hcs⟩ := dispM_some e1
          obtain ⟨p, g1, g2, ⟨dx, xs, e2, l, _⟩, g4⟩ := s.sl.ow j _ er
          refine ⟨c, f, hcs, ?_⟩
          simp only [rdX, rdE]
          refine ⟨_, g1, p, dx, _, rfl, e2, lookup_non hm, ?_⟩
          split at e
          · cases e
          · rename_i c' e3
            cases e
            exact sndXA hc es o2 js 1 σ I H ρ _ _ s e3 (fun as ρ' z => nomatch z) fun c'' z I' H' x su => by
              cases z
              exact q2 c' rfl I' H' x su
          · rename_i as ρ' e3
            refine sndXA hc es o2 js 1 σ I H ρ _ _ s e3 (fun as' ρ'' z vs I' H' x s' g => ?_) fun c' z => nomatch z
            cases z
            have g' : ArgX K I' σ (.inr j :: as) (.ref p :: vs) := ⟨_, _, rfl, g1, g⟩
            exact callX_ok hc s' g' e (fun d ρ'' ez v I'' H'' y s'' r => q d ρ'' ez v I'' H'' (x.trans y) s'' r) fun c ez I'' H'' y su => q2 c ez I'' H'' (x.trans y) su
    · split at e
      · cases e
      · rename_i c' e3
        cases e
        -- the receiver is raised out of
        cases cs with
        | nil => simp at h0
        | cons cf cs =>
          refine ⟨cf.1, cf.2, List.mem_cons_self, sndX hc o o1 σ I H ρ _ _ s e3 (fun d ρ' z => nomatch z) fun c'' z I' H' x su => ?_⟩
          cases z
          exact q2 c' rfl I' H' x su
      · rename_i d ρ1 e3
        split at e
        · cases e
        · rename_i f e1
          obtain ⟨c, ns, ks, ds, rfl, hm, hcs⟩ := dispM_some e1
          refine ⟨c, f, hcs, sndX hc o o1 σ I H ρ _ _ s e3 (fun d ρ' z v I1 H1 x1 s1 r => ?_) fun c'' z => nomatch z⟩
          cases z
          have r' := r
          simp only [Rep] at r'
          obtain ⟨a, dx, xs, rfl, h1, h2, h3⟩ := r'
          have ha : H1 a = some (.ins (cA K c) dx (ns.zip xs)) := by
            rcases s1.su a _ h1 with z | ⟨z, _⟩
            · exact z
            · cases z
          refine ⟨a, dx, _, rfl, ha, lookup_non hm, ?_⟩
          split at e
          · cases e
          · rename_i c' e4
            cases e
            exact sndXA hc es o2 js 1 σ I1 H1 ρ1 _ _ s1 e4 (fun as ρ' z => nomatch z) fun c'' z I' H' x su => by
              cases z
              exact q2 c' rfl I' H' (x1.trans x) su
          · rename_i as ρ' e4
            refine sndXA hc es o2 js 1 σ I1 H1 ρ1 _ _ s1 e4 (fun as' ρ'' z vs I' H' x s' g => ?_) fun c' z => nomatch z
            cases z
            have g' : ArgX K I' σ (.inl (.ob c ns ks ds) :: as) (.ref a :: vs) := ⟨_, _, rfl, r.mono x.ii _ _, g⟩
            exact callX_ok hc s' g' e (fun d ρ'' ez v I'' H'' y s'' r => q d ρ'' ez v I'' H'' (x1.trans (x.trans y)) s'' r) fun c ez I'' H'' y su => q2 c ez I'' H'' (x1.trans (x.trans y)) su
  | .and a b, h => by
    simp only [okX, Bool.and_eq_true] at h
    simp only [rdX]
    intro σ I H ρ o Q s e q q2
    rw [evX] at e
    split at e
    · cases e
    · rename_i c e1
      cases e
      exact sndX hc a h.1 σ I H ρ _ _ s e1 (fun _ _ z => nomatch z) fun c' z I' H' x su => by
        cases z
        exact q2 c rfl I' H' x su
    · rename_i d ρ1 e1
      split at e
      · cases e
      · rename_i et
        refine sndX hc a h.1 σ I H ρ _ _ s e1 (fun d' ρ' z v I1 H1 x1 s1 r => ?_) fun _ z => nomatch z
        cases z
        refine ⟨true, tru_okD et s1.su (.inl r), ?_⟩
        rw [if_pos rfl]
        exact sndX hc b h.2 σ I1 H1 ρ1 o Q s1 e (fun d ρ' z v I2 H2 y s2 r => q d ρ' z v I2 H2 (x1.trans y) s2 r) fun c z I2 H2 y su => q2 c z I2 H2 (x1.trans y) su
      · rename_i et
        cases e
        refine sndX hc a h.1 σ I H ρ _ _ s e1 (fun d' ρ' z v I1 H1 x1 s1 r => ?_) fun _ z => nomatch z
        cases z
        refine ⟨false, tru_okD et s1.su (.inl r), ?_⟩
        rw [if_neg Bool.false_ne_true]
        exact q d ρ1 rfl v I1 H1 x1 s1 r
  | .or a b, h => by
    simp only [okX, Bool.and_eq_true] at h
    simp only [rdX]
    intro σ I H ρ o Q s e q q2
    rw [evX] at e
    split at e
    · cases e
    · rename_i c e1
      cases e
      exact sndX hc a h.1 σ I H ρ _ _ s e1 (fun _ _ z => nomatch z) fun c' z I' H' x su => by
        cases z
        exact q2 c rfl I' H' x su
    · rename_i d ρ1 e1
      split at e
      · cases e
      · rename_i et
        cases e
        refine sndX hc a h.1 σ I H ρ _ _ s e1 (fun d' ρ' z v I1 H1 x1 s1 r => ?_) fun _ z => nomatch z
        cases z
        refine ⟨true, tru_okD et s1.su (.inl r), ?_⟩
        rw [if_pos rfl]
        exact q d ρ1 rfl v I1 H1 x1 s1 r
      · rename_i et
        refine sndX hc a h.1 σ I H ρ _ _ s e1 (fun d' ρ' z v I1 H1 x1 s1 r => ?_) fun _ z => nomatch z
        cases z
        refine ⟨false, tru_okD et s1.su (.inl r), ?_⟩
        rw [if_neg Bool.false_ne_true]
        exact sndX hc b h.2 σ I1 H1 ρ1 o Q s1 e (fun d ρ' z v I2 H2 y s2 r => q d ρ' z v I2 H2 (x1.trans y) s2 r) fun c z I2 H2 y su => q2 c z I2 H2 (x1.trans y) su
  | .not a, h => by
    simp only [okX] at h
    simp only [rdX]
    intro σ I H ρ o Q s e q q2
    rw [evX] at e
    split at e
    · cases e
    · rename_i c e1
      cases e
      exact sndX hc a h σ I H ρ _ _ s e1 (fun _ _ z => nomatch z) fun c' z I' H' x su => by
        cases z
        exact q2 c rfl I' H' x su
    · rename_i d ρ1 e1
      split at e
      · cases e
      · rename_i t et
        cases e
        refine sndX hc a h σ I H ρ _ _ s e1 (fun d' ρ' z v I1 H1 x1 s1 r => ?_) fun _ z => nomatch z
        cases z
        exact ⟨t, tru_okD et s1.su (.inl r), q _ ρ1 rfl _ I1 H1 x1 s1 rep_bl⟩
  | .bin op a b, h => by
    simp only [okX, Bool.and_eq_true] at h
    simp only [rdX]
    intro σ I H ρ o Q s e q q2
    rw [evX] at e
    split at e
    · cases e
    · rename_i c e1
      cases e
      exact sndX hc a h.1 σ I H ρ _ _ s e1 (fun _ _ z => nomatch z) fun c' z I' H' x su => by
        cases z
        exact q2 c rfl I' H' x su
    · rename_i d ρ1 e1
      refine sndX hc a h.1 σ I H ρ _ _ s e1 (fun d' ρ' z v I1 H1 x1 s1 r => ?_) fun _ z => nomatch z
      cases z
      split at e
      · cases e
      · rename_i c e2
        cases e
        exact sndX hc b h.2 σ I1 H1 ρ1 _ _ s1 e2 (fun _ _ z => nomatch z) fun c' z I' H' x su => by
          cases z
          exact q2 c rfl I' H' (x1.trans x) su
      · rename_i d2 ρ2 e2
        refine sndX hc b h.2 σ I1 H1 ρ1 _ _ s1 e2 (fun d' ρ' z w I2 H2 x2 s2 r2 => ?_) fun _ z => nomatch z
        cases z
        obtain ⟨k, d3, d4, e3, e4, rfl⟩ := escO_some e
        refine bin_ok (B := B) (Q := Q) e3 s2.su (.inl (r.mono x2.ii _ _)) (.inl r2) fun u I3 H3 x3 rk => ?_
        obtain ⟨rfl, I4, x4, r4, _⟩ := esc_ok e4 x3 rk
        exact q _ ρ2 rfl u I4 H3 (x1.trans (x2.trans (s2.stp x4))) (s2.ext x4) r4
  | .cmp op a b, h => by
    simp only [okX, Bool.and_eq_true, bne_iff_ne, ne_eq] at h
    obtain ⟨⟨⟨h1, h2⟩, n1⟩, n2⟩ := h
    have rd : rdX K sp W (.cmp op a b) = tOp (rCmp K op) (rdX K sp W a) (rdX K sp W b) := by
      simp only [rdX]
      cases op <;> first | rfl | exact absurd rfl n1 | exact absurd rfl n2
    rw [rd]
    intro σ I H ρ o Q s e q q2
    rw [evX] at e
    split at e
    · cases e
    · rename_i c e1
      cases e
      exact sndX hc a h1 σ I H ρ _ _ s e1 (fun _ _ z => nomatch z) fun c' z I' H' x su => by
        cases z
        exact q2 c rfl I' H' x su
    · rename_i d ρ1 e1
      refine sndX hc a h1 σ I H ρ _ _ s e1 (fun d' ρ' z v I1 H1 x1 s1 r => ?_) fun _ z => nomatch z
      cases z
      split at e
      · cases e
      · rename_i c e2
        cases e
        exact sndX hc b h2 σ I1 H1 ρ1 _ _ s1 e2 (fun _ _ z => nomatch z) fun c' z I' H' x su => by
          cases z
          exact q2 c rfl I' H' (x1.trans x) su
      · rename_i d2 ρ2 e2
        refine sndX hc b h2 σ I1 H1 ρ1 _ _ s1 e2 (fun d' ρ' z w I2 H2 x2 s2 r2 => ?_) fun _ z => nomatch z
        cases z
        split at e
        · cases e
        · rename_i t et
          cases e
          exact cmp_ok et s2.su (.inl (r.mono x2.ii _ _)) (.inl r2) ⟨n1, n2⟩ (q _ ρ2 rfl _ I2 H2 (x1.trans x2) s2 rep_bl)
  | .var i, h => by simp only [rdX, evX]; exact (snd hc (.var i) rfl).esc
  | .int i, h => by simp only [rdX, evX]; exact (snd hc (.int i) rfl).esc
  | .bl i, h => by simp only [rdX, evX]; exact (snd hc (.bl i) rfl).esc
  | .non, h => by simp only [rdX, evX]; exact (snd hc .non rfl).esc
  | .str x, h => by simp only [rdX, evX]; exact (snd hc (.str x) (by simpa only [okX, okE] using h)).esc
  | .glb x d, h => by simp only [rdX, evX]; exact (snd hc (.glb x d) (by simpa only [okX, okE] using h)).esc
  | .chain a b c d e, h => by simp only [okX] at h; simp only [rdX, evX]; exact (snd hc _ h).esc
  | .neg a, h => by simp only [rdX, evX]; exact (snd hc (.neg a) (by simpa only [okX, okE] using h)).esc
  | .ifx a b c, h => by simp only [okX] at h; simp only [rdX, evX]; exact (snd hc _ h).esc
  | .tup es, h => by simp only [okX] at h; simp only [rdX, evX]; exact (snd hc _ h).esc
  | .lst es, h => by simp only [okX] at h; simp only [rdX, evX]; exact (snd hc _ h).esc
  | .ix a b, h => by simp only [okX] at h; simp only [rdX, evX]; exact (snd hc _ h).esc
  | .slc a b c, h => by simp only [okX] at h; simp only [rdX, evX]; exact (snd hc _ h).esc
  | .call a b, h => by simp only [okX] at h; simp only [rdX, evX]; exact (snd hc _ h).esc
  | .bcall a b, h => by simp only [okX] at h; simp only [rdX, evX]; exact (snd hc _ h).esc
  | .callF a b, h => by simp only [okX] at h; simp only [rdX, evX]; exact (snd hc _ h).esc
  | .bi a b, h => by simp only [okX] at h; simp only [rdX, evX]; exact (snd hc _ h).esc
  | .mt a b c, h => by simp only [okX] at h; simp only [rdX, evX]; exact (snd hc _ h).esc
  | .lc a b c d e, h => by simp only [okX] at h; simp only [rdX, evX]; exact (snd hc _ h).esc
  | .dnew a, h => by simp only [rdX, evX]; exact (snd hc (.dnew a) rfl).esc
  | .disp a b c, h => by simp only [okX] at h; simp only [rdX, evX]; exact (snd hc _ h).esc
  | .fld a b c, h => by simp only [rdX, evX]; exact (snd hc (.fld a b c) (by simpa only [okX, okE] using h)).esc
  | .make a b c, h => by simp only [rdX, evX]; exact (snd hc (.make a b c) (by simpa only [okX, okE] using h)).esc
theorem sndXA (hc : CallOk K cl sp) : ∀ es : List IE, okXL es = true → ∀ (js : List Nat) (n : Nat), EvOkXA K B W (rdXA K sp W es) (evXA cl js n es)
  | [], h, js, n => by
    simp only [rdXA]
    intro σ I H ρ o Q s e q q2
    rw [evXA] at e
    cases e
    exact q [] ρ rfl [] I H Stp.refl s rfl
  | e0 :: es, h, js, n => by
    simp only [okXL, Bool.and_eq_true] at h
    simp only [rdXA]
    intro σ I H ρ o Q s e q q2
    rw [evXA] at e
    split at e
    · split at e
      · cases e
      · rename_i j d el
        obtain ⟨rfl, er⟩ := lentV_some el
        obtain ⟨p, g1, _⟩ := s.sl.ow j _ er
        simp only [rdX, rdE]
        refine ⟨_, g1, ?_⟩
        split at e
        · cases e
        · rename_i c e1
          cases e
          exact sndXA hc es h.2 js (n + 1) σ I H ρ _ _ s e1 (fun _ _ z => nomatch z) fun c' z I' H' x su => by
            cases z
            exact q2 c rfl I' H' x su
        · rename_i as ρ' e1
          cases e
          refine sndXA hc es h.2 js (n + 1) σ I H ρ _ _ s e1 (fun as' ρ'' z vs I' H' x s' g => ?_) fun _ z => nomatch z
          cases z
          exact q _ ρ' rfl _ I' H' x s' ⟨_, _, rfl, g1, g⟩
    · split at e
      · cases e
      · rename_i c e1
        cases e
        exact sndX hc e0 h.1 σ I H ρ _ _ s e1 (fun _ _ z => nomatch z) fun c' z I' H' x su => by
          cases z
          exact q2 c rfl I' H' x su
      · rename_i d ρ1 e1
        refine sndX hc e0 h.1 σ I H ρ _ _ s e1 (fun d' ρ' z v I1 H1 x1 s1 r => ?_) fun _ z => nomatch z
        cases z
        split at e
        · cases e
        · rename_i c e2
          cases e
          exact sndXA hc es h.2 js (n + 1) σ I1 H1 ρ1 _ _ s1 e2 (fun _ _ z => nomatch z) fun c' z I' H' x su => by
            cases z
            exact q2 c rfl I' H' (x1.trans x) su
        · rename_i as ρ' e2
          cases e
          refine sndXA hc es h.2 js (n + 1) σ I1 H1 ρ1 _ _ s1 e2 (fun as' ρ'' z vs I' H' x s' g => ?_) fun _ z => nomatch z
          cases z
          exact q _ ρ' rfl _ I' H' (x1.trans x) s' ⟨_, _, rfl, r.mono x.ii _ _, g⟩
end
theorem truX_ok {t : TE} {f : Env → Option XO} (h : EvOkX K B W t f) : EvOkXT K B W (tTru K t) (fun ρ => truX (f ρ)) := by
  intro σ I H ρ o Q s e q q2
  cases e1 : f ρ with
  | none => simp only [e1, truX] at e; cases e
  | some x =>
    cases x with
    | ex c =>
      simp only [e1, truX] at e
      cases e
      exact h σ I H ρ _ _ s e1 (fun _ _ z => nomatch z) fun c' z I' H' x su => by
        cases z
        exact q2 c rfl I' H' x su
    | ok d ρ1 =>
      simp only [e1, truX] at e
      split at e
      · cases e
      · rename_i b et
        cases e
        refine h σ I H ρ _ _ s e1 (fun d' ρ' z v I1 H1 x1 s1 r => ?_) fun _ z => nomatch z
        cases z
        exact ⟨b, tru_okD et s1.su (.inl r), q b ρ1 rfl I1 H1 x1 s1⟩
theorem onTX_ok {t : TT} {f : Env → Option Bool} (h : EvOkT K B t f) : EvOkXT K B W t (fun ρ => onTX ρ (f ρ)) := by
  intro σ I H ρ o Q s e q q2
  cases e1 : f ρ with
  | none => simp only [e1, onTX] at e; cases e
  | some b =>
    simp only [e1, onTX] at e
    cases e
    exact h σ I H ρ b Q s e1 fun I' H' x => q b ρ rfl I' H' (s.stp x) (s.ext x)
theorem sndXT (hc : CallOk K cl sp) : ∀ e : IE, okXT e = true → EvOkXT K B W (rdXT K sp W e) (evXT cl e)
  | .and a b, h => by
    simp only [okXT, Bool.and_eq_true] at h
    simp only [rdXT]
    intro σ I H ρ o Q s e q q2
    rw [evXT] at e
    split at e
    · cases e
    · rename_i c e1
      cases e
      exact sndXT hc a h.1 σ I H ρ _ _ s e1 (fun _ _ z => nomatch z) fun c' z I' H' x su => by
        cases z
        exact q2 c rfl I' H' x su
    · rename_i ρ1 e1
      refine sndXT hc a h.1 σ I H ρ _ _ s e1 (fun b' ρ' z I1 H1 x1 s1 => ?_) fun _ z => nomatch z
      cases z
      rw [if_pos rfl]
      exact sndXT hc b h.2 σ I1 H1 ρ1 o Q s1 e (fun b ρ' z I2 H2 y s2 => q b ρ' z I2 H2 (x1.trans y) s2) fun c z I2 H2 y su => q2 c z I2 H2 (x1.trans y) su
    · rename_i ρ1 e1
      cases e
      refine sndXT hc a h.1 σ I H ρ _ _ s e1 (fun b' ρ' z I1 H1 x1 s1 => ?_) fun _ z => nomatch z
      cases z
      rw [if_neg Bool.false_ne_true]
      exact q false ρ1 rfl I1 H1 x1 s1
  | .or a b, h => by
    simp only [okXT, Bool.and_eq_true] at h
    simp only [rdXT]
    intro σ I H ρ o Q s e q q2
    rw [evXT] at e
    split at e
    · cases e
    · rename_i c e1
      cases e
      exact sndXT hc a h.1 σ I H ρ _ _ s e1 (fun _ _ z => nomatch z) fun c' z I' H' x su => by
        cases z
        exact q2 c rfl I' H' x su
    · rename_i ρ1 e1
      cases e
      refine sndXT hc a h.1 σ I H ρ _ _ s e1 (fun b' ρ' z I1 H1 x1 s1 => ?_) fun _ z => nomatch z
      cases z
      rw [if_pos rfl]
      exact q true ρ1 rfl I1 H1 x1 s1
    · rename_i ρ1 e1
      refine sndXT hc a h.1 σ I H ρ _ _ s e1 (fun b' ρ' z I1 H1 x1 s1 => ?_) fun _ z => nomatch z
      cases z
      rw [if_neg Bool.false_ne_true]
      exact sndXT hc b h.2 σ I1 H1 ρ1 o Q s1 e (fun b ρ' z I2 H2 y s2 => q b ρ' z I2 H2 (x1.trans y) s2) fun c z I2 H2 y su => q2 c z I2 H2 (x1.trans y) su
  | .not a, h => by
    simp only [okXT] at h
    simp only [rdXT]
    intro σ I H ρ o Q s e q q2
    rw [evXT] at e
    split at e
    · cases e
    · rename_i c e1
      cases e
      exact sndXT hc a h σ I H ρ _ _ s e1 (fun _ _ z => nomatch z) fun c' z I' H' x su => by
        cases z
        exact q2 c rfl I' H' x su
    · rename_i t ρ1 e1
      cases e
      refine sndXT hc a h σ I H ρ _ _ s e1 (fun b' ρ' z I1 H1 x1 s1 => ?_) fun _ z => nomatch z
      cases z
      exact q _ ρ1 rfl I1 H1 x1 s1
  | .callm f js es, h => by
    simp only [okXT] at h
    simp only [rdXT, evXT]
    exact truX_ok (sndX hc _ h)
  | .mcall cs m js o es, h => by
    simp only [okXT] at h
    simp only [rdXT, evXT]
    exact truX_ok (sndX hc _ h)
  | .var i, h => by simp only [rdXT, evXT]; exact onTX_ok (sndT hc _ (by simpa only [okXT] using h))
  | .int i, h => by simp only [rdXT, evXT]; exact onTX_ok (sndT hc _ (by simpa only [okXT] using h))
  | .bl i, h => by simp only [rdXT, evXT]; exact onTX_ok (sndT hc _ (by simpa only [okXT] using h))
  | .non, h => by simp only [rdXT, evXT]; exact onTX_ok (sndT hc _ (by simpa only [okXT] using h))
  | .str _, h => by simp only [rdXT, evXT]; exact onTX_ok (sndT hc _ (by simpa only [okXT] using h))
  | .glb _ _, h => by simp only [rdXT, evXT]; exact onTX_ok (sndT hc _ (by simpa only [okXT] using h))
  | .bin _ _ _, h => by simp only [rdXT, evXT]; exact onTX_ok (sndT hc _ (by simpa only [okXT] using h))
  | .cmp _ _ _, h => by simp only [rdXT, evXT]; exact onTX_ok (sndT hc _ (by simpa only [okXT] using h))
  | .chain _ _ _ _ _, h => by simp only [rdXT, evXT]; exact onTX_ok (sndT hc _ (by simpa only [okXT] using h))
  | .neg _, h => by simp only [rdXT, evXT]; exact onTX_ok (sndT hc _ (by simpa only [okXT] using h))
  | .ifx _ _ _, h => by simp only [rdXT, evXT]; exact onTX_ok (sndT hc _ (by simpa only [okXT] using h))
  | .tup _, h => by simp only [rdXT, evXT]; exact onTX_ok (sndT hc _ (by simpa only [okXT] using h))
  | .lst _, h => by simp only [rdXT, evXT]; exact onTX_ok (sndT hc _ (by simpa only [okXT] using h))
  | .ix _ _, h => by simp only [rdXT, evXT]; exact onTX_ok (sndT hc _ (by simpa only [okXT] using h))
  | .slc _ _ _, h => by simp only [rdXT, evXT]; exact onTX_ok (sndT hc _ (by simpa only [okXT] using h))
  | .call _ _, h => by simp only [rdXT, evXT]; exact onTX_ok (sndT hc _ (by simpa only [okXT] using h))
  | .bcall _ _, h => by simp only [rdXT, evXT]; exact onTX_ok (sndT hc _ (by simpa only [okXT] using h))
  | .bi _ _, h => by simp only [rdXT, evXT]; exact onTX_ok (sndT hc _ (by simpa only [okXT] using h))
  | .mt _ _ _, h => by simp only [rdXT, evXT]; exact onTX_ok (sndT hc _ (by simpa only [okXT] using h))
  | .lc _ _ _ _ _, h => by simp only [rdXT, evXT]; exact onTX_ok (sndT hc _ (by simpa only [okXT] using h))
  | .dnew _, h => by simp only [rdXT, evXT]; exact onTX_ok (sndT hc _ (by simpa only [okXT] using h))
  | .disp _ _ _, h => by simp only [rdXT, evXT]; exact onTX_ok (sndT hc _ (by simpa only [okXT] using h))
  | .fld _ _ _, h => by simp only [rdXT, evXT]; exact onTX_ok (sndT hc _ (by simpa only [okXT] using h))
  | .make _ _ _, h => by simp only [rdXT, evXT]; exact onTX_ok (sndT hc _ (by simpa only [okXT] using h))
  | .callF _ _, h => by simp only [rdXT, evXT]; exact onTX_ok (sndT hc _ (by simpa only [okXT] using h))
end
end R

set_option linter.all false
set_option maxHeartbeats 8000000
/-! Instances of one's own: fields stored, their lists changed. -/
namespace R
open PySem L2
section
variable {K : PySem.W.Frag} {B : Bd} {W : Str → Hp → Prop} {I H I' H' : Hp} {σ : List (Option V)} {ρ ρ' : Env} {cl : Nat → List D → Option (Kd × D)} {sp : Nat → Sp}
theorem npin {is : List Nat} (h : (is.all fun i => !(B.pins.map (·.1)).contains i) = true) : ∀ i ∈ is, ∀ p, (i, p) ∉ B.pins := by
  intro i m p z
  have := List.all_eq_true.mp h i m
  simp only [Bool.not_eq_true', List.contains_eq_mem, decide_eq_false_iff_not] at this
  exact this (List.mem_map.mpr ⟨(i, p), z, rfl⟩)
theorem outsOf_at : ∀ {js : List Nat} {ds : List D}, outsOf ρ js = some ds → ds.length = js.length ∧ ∀ (k j : Nat), js[k]? = some j → ∃ d, ds[k]? = some d ∧ ρ[j]? = some (some (.ow, d))
  | [], ds, h => by
    simp only [outsOf] at h
    cases h
    exact ⟨rfl, fun k j e => by simp at e⟩
  | j :: js, ds, h => by
    simp only [outsOf] at h
    split at h
    · cases h
    · rename_i d e0
      split at h
      · cases h
      · rename_i ds' e
        cases h
        obtain ⟨q1, q2⟩ := outsOf_at e
        refine ⟨by rw [List.length_cons, List.length_cons, q1], fun k j' e' => ?_⟩
        cases k with
        | zero => cases e'; exact ⟨d, rfl, ownAt_some e0⟩
        | succ k => exact q2 k j' e'
theorem outsP_of {js : List Nat} {ds : List D} (s : Sta K B I H σ ρ) (hj : js = B.pins.map (·.1)) (nd : js.Nodup) (e : outsOf ρ js = some ds) : OutsP K B I H ds := by
  obtain ⟨q1, q2⟩ := outsOf_at e
  have one : ∀ (k i : Nat) (p : Addr), B.pins[k]? = some (i, p) → js[k]? = some i ∧ ∃ d, ds[k]? = some d ∧ σ[i]? = some (some (.ref p)) ∧ ρ[i]? = some (some (.ow, d)) := fun k i p h => by
    have hk : js[k]? = some i := by rw [hj, List.getElem?_map, h]; rfl
    obtain ⟨d, h1, h2⟩ := q2 k i hk
    exact ⟨hk, d, h1, (s.pn i p (List.mem_of_getElem? h)).1, h2⟩
  refine ⟨by rw [q1, hj, List.length_map], fun k i p h => ?_, fun k l i j p q d e' n h1 h2 h3 h4 => ?_⟩
  · obtain ⟨_, d, h1, h2, h3⟩ := one k i p h
    obtain ⟨p', g1, g2, g3, g4⟩ := s.sl.ow i d h3
    rw [h2] at g1
    cases g1
    exact ⟨d, h1, g2, g3, g4⟩
  · obtain ⟨k1, d1, x1, x2, x3⟩ := one k i p h1
    obtain ⟨k2, d2, y1, y2, y3⟩ := one l j q h2
    rw [x1] at h3
    rw [y1] at h4
    cases h3
    cases h4
    refine s.sl.ne i j d e' p q (fun z => n ?_) x3 y3 x2 y2
    subst z
    exact (List.getElem?_inj (List.getElem?_eq_some_iff.mp k1).1 nd).mp (k1.trans k2.symm)
theorem putF_zip {x : Str} {y : V} : ∀ {ns : List Str} {xs : List V}, ns.length = xs.length → (∀ j, ns.findIdx? (fun z => decide (z = x)) = some j → putF x y (ns.zip xs) = ns.zip (xs.set j y)) ∧ (ns.findIdx? (fun z => decide (z = x)) = none → putF x y (ns.zip xs) = (ns ++ [x]).zip (xs ++ [y]))
  | [], [], _ => ⟨fun j h => by simp at h, fun _ => rfl⟩
  | [], _ :: _, h => by simp at h
  | _ :: _, [], h => by simp at h
  | n :: ns, v :: xs, h => by
    obtain ⟨q1, q2⟩ := putF_zip (x := x) (y := y) (ns := ns) (xs := xs) (by simpa using h)
    rw [List.findIdx?_cons]
    by_cases c : n = x
    · rw [if_pos (by simpa using c)]
      refine ⟨fun j hj => ?_, fun hj => by cases hj⟩
      cases hj
      show (if n = x then (n, y) :: ns.zip xs else (n, v) :: putF x y (ns.zip xs)) = _
      rw [if_pos c]
      rfl
    · rw [if_neg (by simpa using c)]
      refine ⟨fun j hj => ?_, fun hj => ?_⟩
      · cases e : ns.findIdx? (fun z => decide (z = x)) with
        | none => rw [e] at hj; cases hj
        | some i =>
          rw [e] at hj
          cases hj
          show (if n = x then (n, y) :: ns.zip xs else (n, v) :: putF x y (ns.zip xs)) = _
          rw [if_neg c, q1 i e]
          rfl
      · cases e : ns.findIdx? (fun z => decide (z = x)) with
        | some i => rw [e] at hj; cases hj
        | none =>
          show (if n = x then (n, y) :: ns.zip xs else (n, v) :: putF x y (ns.zip xs)) = _
          rw [if_neg c, q2 e]
          rfl
theorem kidsOf_set {y : V} {b : Bool} : ∀ {ks : List Bool} {xs : List V} {j : Nat} {a : Addr}, a ∈ kidsOf (ks.set j b) (xs.set j y) → a ∈ kidsOf ks xs ∨ (b = true ∧ y = .ref a)
  | [], xs, j, a, m => by cases xs <;> cases m
  | k :: ks, [], j, a, m => by
    cases j <;> (cases k <;> cases b <;> cases m)
  | k :: ks, x :: xs, 0, a, m => by
    have m : a ∈ kidsOf (b :: ks) (y :: xs) := m
    have up : a ∈ kidsOf ks xs → a ∈ kidsOf (k :: ks) (x :: xs) := fun h => by
      cases k <;> cases x <;> first | exact h | exact List.mem_cons_of_mem _ h
    cases b with
    | false => exact .inl (up (by cases y <;> exact m))
    | true =>
      cases y <;> first | exact .inl (up m) | skip
      rcases List.mem_cons.mp m with z | z
      · exact .inr ⟨rfl, by rw [z]⟩
      · exact .inl (up z)
  | k :: ks, x :: xs, j + 1, a, m => by
    have m : a ∈ kidsOf (k :: ks.set j b) (x :: xs.set j y) := m
    cases k with
    | false =>
      have m' : a ∈ kidsOf (ks.set j b) (xs.set j y) := by cases x <;> exact m
      rcases kidsOf_set m' with h | h
      · exact .inl (by cases x <;> exact h)
      · exact .inr h
    | true =>
      cases x with
      | ref q =>
        rcases List.mem_cons.mp m with z | z
        · exact .inl (by rw [z]; exact List.mem_cons_self)
        · rcases kidsOf_set z with h | h
          · exact .inl (List.mem_cons_of_mem _ h)
          · exact .inr h
      | _ =>
        rcases kidsOf_set (a := a) (ks := ks) (xs := xs) (j := j) m with h | h
        · exact .inl h
        · exact .inr h
theorem kidsOf_setN {y : V} {b : Bool} : ∀ {ks : List Bool} {xs : List V} {j : Nat}, (kidsOf ks xs).Nodup → (∀ a, b = true → y = .ref a → a ∉ kidsOf ks xs) → (kidsOf (ks.set j b) (xs.set j y)).Nodup
  | [], xs, j, n, h => by cases xs <;> exact List.nodup_nil
  | k :: ks, [], j, n, h => by
    cases j <;> (cases k <;> cases b <;> exact List.nodup_nil)
  | k :: ks, x :: xs, 0, n, h => by
    show (kidsOf (b :: ks) (y :: xs)).Nodup
    have dn : (kidsOf ks xs).Nodup := by
      cases k <;> cases x <;> first | exact n | exact (List.nodup_cons.mp n).2
    have up : ∀ a, a ∈ kidsOf ks xs → a ∈ kidsOf (k :: ks) (x :: xs) := fun a h' => by
      clear h n
      cases k <;> cases x <;> first | exact h' | exact List.mem_cons_of_mem _ h'
    cases b with
    | false => cases y <;> exact dn
    | true =>
      cases y <;> first | exact dn | skip
      rename_i q
      exact List.nodup_cons.mpr ⟨fun m => h q rfl rfl (up q m), dn⟩
  | k :: ks, x :: xs, j + 1, n, h => by
    show (kidsOf (k :: ks.set j b) (x :: xs.set j y)).Nodup
    cases k with
    | false =>
      have n' : (kidsOf ks xs).Nodup := by cases x <;> exact n
      have := kidsOf_setN (j := j) n' fun a e1 e2 m => h a e1 e2 (by cases x <;> exact m)
      cases x <;> exact this
    | true =>
      cases x with
      | ref q =>
        obtain ⟨n1, n2⟩ := List.nodup_cons.mp n
        refine List.nodup_cons.mpr ⟨fun m => ?_, kidsOf_setN (j := j) n2 fun a e1 e2 m => h a e1 e2 (List.mem_cons_of_mem _ m)⟩
        rcases kidsOf_set m with z | ⟨z1, z2⟩
        · exact n1 z
        · exact h q z1 z2 List.mem_cons_self
      | _ => exact kidsOf_setN (ks := ks) (xs := xs) (j := j) n h
theorem OwnFs.set {b : Bool} {d : D} {y : V} (hy : (b = true ∧ ∃ q, y = .ref q ∧ I q = none ∧ OwnC1 K I H q d) ∨ (b = false ∧ Rep K I d y)) : ∀ {ks : List Bool} {ds : List D} {xs : List V} {j : Nat}, OwnFs K I H ks ds xs → OwnFs K I H (ks.set j b) (ds.set j d) (xs.set j y)
  | [], [], [], j, h => trivial
  | [], [], _ :: _, j, h => by cases h
  | [], _ :: _, _, j, h => by cases h
  | true :: ks, [], _, j, h => by cases h
  | false :: ks, [], _, j, h => by cases h
  | true :: ks, _ :: _, [], j, h => by cases h
  | false :: ks, _ :: _, [], j, h => by cases h
  | true :: ks, e :: ds, x :: xs, 0, h => by
    rcases hy with ⟨rfl, hy⟩ | ⟨rfl, hy⟩
    · exact ⟨hy, h.2⟩
    · exact ⟨hy, h.2⟩
  | false :: ks, e :: ds, x :: xs, 0, h => by
    rcases hy with ⟨rfl, hy⟩ | ⟨rfl, hy⟩
    · exact ⟨hy, h.2⟩
    · exact ⟨hy, h.2⟩
  | true :: ks, e :: ds, x :: xs, j + 1, h => ⟨h.1, OwnFs.set hy h.2⟩
  | false :: ks, e :: ds, x :: xs, j + 1, h => ⟨h.1, OwnFs.set hy h.2⟩
theorem OwnFs.snoc {b : Bool} {d : D} {y : V} (hy : (b = true ∧ ∃ q, y = .ref q ∧ I q = none ∧ OwnC1 K I H q d) ∨ (b = false ∧ Rep K I d y)) : ∀ {ks : List Bool} {ds : List D} {xs : List V}, OwnFs K I H ks ds xs → OwnFs K I H (ks ++ [b]) (ds ++ [d]) (xs ++ [y])
  | [], [], [], h => by
    rcases hy with ⟨rfl, hy⟩ | ⟨rfl, hy⟩
    · exact ⟨hy, trivial⟩
    · exact ⟨hy, trivial⟩
  | [], [], _ :: _, h => by cases h
  | [], _ :: _, _, h => by cases h
  | true :: ks, [], _, h => by cases h
  | false :: ks, [], _, h => by cases h
  | true :: ks, _ :: _, [], h => by cases h
  | false :: ks, _ :: _, [], h => by cases h
  | true :: ks, e :: ds, x :: xs, h => ⟨h.1, OwnFs.snoc hy h.2⟩
  | false :: ks, e :: ds, x :: xs, h => ⟨h.1, OwnFs.snoc hy h.2⟩
theorem kidsOf_snoc {b : Bool} {y : V} : ∀ {ks : List Bool} {xs : List V}, ks.length = xs.length → kidsOf (ks ++ [b]) (xs ++ [y]) = kidsOf ks xs ++ kidsOf [b] [y]
  | [], [], _ => rfl
  | [], _ :: _, h => by simp at h
  | _ :: _, [], h => by simp at h
  | k :: ks, x :: xs, h => by
    have ih := kidsOf_snoc (b := b) (y := y) (ks := ks) (xs := xs) (by simpa using h)
    show kidsOf (k :: (ks ++ [b])) (x :: (xs ++ [y])) = kidsOf (k :: ks) (x :: xs) ++ _
    cases k with
    | false =>
      have e1 : kidsOf (false :: (ks ++ [b])) (x :: (xs ++ [y])) = kidsOf (ks ++ [b]) (xs ++ [y]) := by cases x <;> rfl
      have e2 : kidsOf (false :: ks) (x :: xs) = kidsOf ks xs := by cases x <;> rfl
      rw [e1, e2, ih]
    | true =>
      cases x with
      | ref q => exact congrArg (q :: ·) ih
      | _ => exact ih
theorem OwnFs.lens : ∀ {ks : List Bool} {ds : List D} {xs : List V}, OwnFs K I H ks ds xs → ks.length = xs.length ∧ ds.length = xs.length
  | [], [], [], h => ⟨rfl, rfl⟩
  | [], [], _ :: _, h => by cases h
  | [], _ :: _, _, h => by cases h
  | true :: ks, [], _, h => by cases h
  | false :: ks, [], _, h => by cases h
  | true :: ks, _ :: _, [], h => by cases h
  | false :: ks, _ :: _, [], h => by cases h
  | true :: ks, e :: ds, x :: xs, h => by
    obtain ⟨q1, q2⟩ := OwnFs.lens h.2
    exact ⟨by rw [List.length_cons, List.length_cons, q1], by rw [List.length_cons, List.length_cons, q2]⟩
  | false :: ks, e :: ds, x :: xs, h => by
    obtain ⟨q1, q2⟩ := OwnFs.lens h.2
    exact ⟨by rw [List.length_cons, List.length_cons, q1], by rw [List.length_cons, List.length_cons, q2]⟩
theorem OwnC.one {p : Addr} {d : D} (h : OwnC K I H p d) (l : lstD d = true) : OwnC1 K I H p d := by
  cases d <;> first | (cases l; done) | exact h
/-- o.x = e -/
theorem fset_ok {cs : List Str} {i : Nat} {x : Str} {e : IE} (he : EvOk K B (rdE K sp e) (evE cl e)) : EvOkS K B W (sFldC K cs (tVar i) (rdE K sp e) x) (evS cl (.fset cs i x e)) := by
  intro σ I H ρ out D s h q
  rw [evS] at h
  split at h
  · cases h
  · rename_i k d e1
    split at h
    · cases h
    · rename_i o e3
      split at h
      · cases h
      · rename_i o' e2
        cases h
        have hi := ownAt_some e3
        obtain ⟨p, hp, hI, hc, nb⟩ := s.sl.ow i o hi
        cases o <;> first | (simp only [fsetD] at e2; cases e2; done) | skip
        rename_i c ns ks ds
        simp only [fsetD] at e2
        split at e2
        · cases e2
        · rename_i hz
          have hk : k = .fz ∨ (k = .ow ∧ lstD d = true) := Decidable.byContradiction fun z => hz (.inl z)
          have hcs : c ∈ cs := Decidable.byContradiction fun z => hz (.inr z)
          split at e2
          · rename_i hl
            obtain ⟨l1, l2, l3⟩ := hl
            refine he σ I H ρ k d _ s e1 fun y I1 H1 x1 r => ?_
            have s1 := s.ext x1
            obtain ⟨⟨dx, xs, e4, l, f, nd, z9⟩, hft, hI1⟩ := hc.ext hI x1
            have nb1 : ∀ a ∈ foot H1 p (.ob c ns ks ds), ¬ B a := by rw [hft]; exact nb
            obtain ⟨fl1, fl2⟩ := f.lens
            refine ⟨_, hp, p, dx, c, _, hcs, rfl, e4, by rw [List.length_zip]; omega, ?_⟩
            have npk : p ∉ kidsOf ks xs := fun m => by
              obtain ⟨_, d', c1⟩ := f.kid m
              obtain ⟨o1, h1, _, h2⟩ := c1.there
              rw [e4] at h1
              exact h2 _ _ _ (Option.some.inj h1).symm
            have kid0 : ∀ a ∈ kidsOf ks xs, a ∈ foot H1 p (.ob c ns ks ds) := fun a m => by
              unfold foot
              rw [kids_ob e4 l]
              exact List.mem_cons_of_mem _ m
            -- what is stored
            have hy : ∀ (F : HO), (decide (k = .ow) = true ∧ ∃ q, y = .ref q ∧ I1 q = none ∧ OwnC1 K I1 (upd H1 p F) q d) ∨ (decide (k = .ow) = false ∧ Rep K I1 d y) := fun F => by
              rcases hk with rfl | ⟨rfl, hl⟩
              · exact .inr ⟨rfl, r⟩
              · obtain ⟨⟨q, rfl, h1, h2⟩, q', eq, h3⟩ := r
                cases eq
                refine .inl ⟨rfl, q, rfl, h1, (h2.one hl).same (fun _ _ h => h) (upd_ne fun z => ?_)⟩
                have := h3 q foot_self
                rw [z] at this
                obtain ⟨o, ho, _⟩ := hc.there
                rw [ho] at this
                cases this
            -- .. is new
            have hn : ∀ a, decide (k = .ow) = true → y = .ref a → H a = none ∧ I1 a = none := fun a e5 e6 => by
              have e5 := of_decide_eq_true e5
              subst e5
              obtain ⟨⟨q, rfl, h1, h2⟩, q', eq, h3⟩ := r
              cases eq
              cases e6
              exact ⟨h3 a foot_self, h1⟩
            have nk : ∀ a, decide (k = .ow) = true → y = .ref a → a ∉ kidsOf ks xs := fun a e5 e6 m => by
              have h1 := kid0 a m
              rw [hft] at h1
              obtain ⟨_, o, ho, _⟩ := hc.ft hI a h1
              rw [(hn a e5 e6).1] at ho
              cases ho
            have f1 : ∀ F, OwnFs K I1 (upd H1 p F) ks ds xs := fun F => f.same (fun _ _ h => h) fun a m => ⟨upd_ne fun z => npk (z ▸ m), (f.kid m).1⟩
            have fin : ∀ (ns' : List Str) (ks' : List Bool) (ds' : List R.D) (xs' : List V), putF x y (ns.zip xs) = ns'.zip xs' → ns'.length = xs'.length → OwnFs K I1 (upd H1 p (.ins (cA K c) dx (ns'.zip xs'))) ks' ds' xs' → (kidsOf ks' xs').Nodup → ns'.length ≤ 900 →
                (∀ a ∈ kidsOf ks' xs', a ∈ kidsOf ks xs ∨ (decide (k = .ow) = true ∧ y = .ref a)) → o' = .ob c ns' ks' ds' → D.nx σ (upd H1 p (.ins (cA K c) dx (putF x y (ns.zip xs)))) := fun ns' ks' ds' xs' g1 g2 g3 g4 g5 g6 g7 => by
              subst g7
              rw [g1]
              obtain ⟨s', st⟩ := s1.mutG (d' := .ob c ns' ks' ds') (H' := upd H1 p (.ins (cA K c) dx (ns'.zip xs'))) hi hp (fun b m => upd_ne fun z => m (z ▸ foot_self)) ⟨dx, xs', upd_same, g2, g3, g4, g5⟩ fun a m => by
                rcases List.mem_cons.mp m with z | z
                · exact .inl (by rw [z]; exact foot_self)
                · rw [kids_ob upd_same g2] at z
                  rcases g6 a z with w | ⟨w1, w2⟩
                  · exact .inl (kid0 a w)
                  · obtain ⟨h1, _⟩ := hn a w1 w2
                    refine .inr ⟨fun hb => ?_, fun j e5 q5 _ h2 h3 m5 => ?_⟩
                    · obtain ⟨o, ho⟩ := s.ba a hb
                      rw [h1] at ho
                      cases ho
                    · obtain ⟨w', g1', g2', g3', g4'⟩ := s.sl.ow j e5 h2
                      rw [h3] at g1'
                      cases g1'
                      rw [(g3'.ext g2' x1).2.1] at m5
                      obtain ⟨_, o, ho, _⟩ := g3'.ft g2' a m5
                      rw [h1] at ho
                      cases ho
              exact q σ I1 _ ((s.stp x1).trans st) s'
            obtain ⟨z1, z2⟩ := putF_zip (x := x) (y := y) l
            split at e2
            · rename_i j ej
              cases e2
              exact fin ns _ _ _ (z1 j ej) (by rw [List.length_set]; exact l) (OwnFs.set (hy _) (f1 _)) (kidsOf_setN nd nk) z9 (fun a m => kidsOf_set m) rfl
            · rename_i ej
              cases e2
              refine fin _ _ _ _ (z2 ej) (by rw [List.length_append, List.length_append, l]; rfl) (OwnFs.snoc (hy _) (f1 _)) ?_ (by rw [List.length_append, List.length_singleton]; omega) (fun a m => ?_) rfl
              · rw [kidsOf_snoc fl1]
                rcases hy (.lst []) with ⟨w1, q5, w2, _⟩ | ⟨w1, _⟩
                · rw [w1, w2]
                  refine List.nodup_append.mpr ⟨nd, by simp [kidsOf], fun a m b m' => ?_⟩
                  have : b = q5 := List.mem_singleton.mp m'
                  intro z
                  exact nk a w1 (by rw [z, this]; exact w2) m
                · rw [w1]
                  have : kidsOf [false] [y] = [] := by cases y <;> rfl
                  rw [this, List.append_nil]
                  exact nd
              · rw [kidsOf_snoc fl1] at m
                rcases List.mem_append.mp m with m | m
                · exact .inl m
                · rcases hy (.lst []) with ⟨w1, q5, w2, _⟩ | ⟨w1, _⟩
                  · rw [w1, w2] at m
                    have : a = q5 := List.mem_singleton.mp m
                    exact .inr ⟨w1, by rw [this]; exact w2⟩
                  · rw [w1] at m
                    have : kidsOf [false] [y] = [] := by cases y <;> rfl
                    rw [this] at m
                    cases m
          · cases e2
/-- a child, changed -/
theorem OwnFs.child {d d' : D} {q : Addr} {F : HO} : ∀ {ks : List Bool} {ds : List D} {xs : List V} {j : Nat}, OwnFs K I H ks ds xs → (kidsOf ks xs).Nodup → ks[j]? = some true → ds[j]? = some d → xs[j]? = some (.ref q) → OwnC1 K I (upd H q F) q d' → OwnFs K I (upd H q F) ks (ds.set j d') xs
  | [], _, _, j, h, n, e1, e2, e3, c => by simp at e1
  | k :: ks, [], _, j, h, n, e1, e2, e3, c => by simp at e2
  | k :: ks, e :: ds, [], j, h, n, e1, e2, e3, c => by simp at e3
  | true :: ks, e :: ds, x :: xs, 0, h, n, e1, e2, e3, c => by
    cases e2
    cases e3
    obtain ⟨n1, n2⟩ := List.nodup_cons.mp n
    obtain ⟨⟨q', e4, h1, h2⟩, h3⟩ := h
    cases e4
    exact ⟨⟨q, rfl, h1, c⟩, h3.same (fun _ _ h => h) fun a m => ⟨upd_ne fun z => n1 (z ▸ m), (h3.kid m).1⟩⟩
  | false :: ks, e :: ds, x :: xs, 0, h, n, e1, e2, e3, c => by cases e1
  | true :: ks, e :: ds, x :: xs, j + 1, h, n, e1, e2, e3, c => by
    obtain ⟨⟨q', rfl, h1, h2⟩, h3⟩ := h
    obtain ⟨n1, n2⟩ := List.nodup_cons.mp n
    have hq : q ∈ kidsOf ks xs := kid_mem e1 e3
    exact ⟨⟨q', rfl, h1, h2.same (fun _ _ h => h) (upd_ne fun z => n1 (z ▸ hq))⟩, OwnFs.child h3 n2 e1 e2 e3 c⟩
  | false :: ks, e :: ds, x :: xs, j + 1, h, n, e1, e2, e3, c => by
    have n2 : (kidsOf ks xs).Nodup := by cases x <;> exact n
    exact ⟨h.1, OwnFs.child h.2 n2 e1 e2 e3 c⟩
where kid_mem {q : Addr} : ∀ {ks : List Bool} {xs : List V} {j : Nat}, ks[j]? = some true → xs[j]? = some (.ref q) → q ∈ kidsOf ks xs
  | [], _, j, h, _ => by simp at h
  | k :: ks, [], j, _, h => by simp at h
  | k :: ks, x :: xs, 0, h, h' => by
    cases h
    cases h'
    exact List.mem_cons_self
  | k :: ks, x :: xs, j + 1, h, h' => by
    have := kid_mem (ks := ks) (xs := xs) (j := j) h h'
    cases k <;> cases x <;> first | exact this | exact List.mem_cons_of_mem _ this
theorem OwnFs.at_true {d : D} : ∀ {ks : List Bool} {ds : List D} {xs : List V} {j : Nat}, OwnFs K I H ks ds xs → ks[j]? = some true → ds[j]? = some d → ∃ q, xs[j]? = some (.ref q) ∧ I q = none ∧ OwnC1 K I H q d
  | [], _, _, j, h, e1, e2 => by simp at e1
  | k :: ks, [], _, j, h, e1, e2 => by simp at e2
  | true :: ks, e :: ds, [], j, h, e1, e2 => by cases h
  | false :: ks, e :: ds, [], j, h, e1, e2 => by cases h
  | true :: ks, e :: ds, x :: xs, 0, h, e1, e2 => by
    cases e2
    obtain ⟨⟨q', rfl, h1, h2⟩, h3⟩ := h
    exact ⟨q', rfl, h1, h2⟩
  | false :: ks, e :: ds, x :: xs, 0, h, e1, e2 => by cases e1
  | true :: ks, e :: ds, x :: xs, j + 1, h, e1, e2 => OwnFs.at_true (ks := ks) (ds := ds) (xs := xs) (j := j) h.2 e1 e2
  | false :: ks, e :: ds, x :: xs, j + 1, h, e1, e2 => OwnFs.at_true (ks := ks) (ds := ds) (xs := xs) (j := j) h.2 e1 e2
/-- o.x.append(e) -/
theorem msf_ok {cs : List Str} {i : Nat} {x : Str} {es : List IE} (hF : EvOkF K B (rdA K sp es) (evF cl es)) : EvOkS K B W (rdMs K .append (tFldC K cs (tVar i) x) (rdA K sp es)) (evS cl (.msf cs .append i x es)) := by
  intro σ I H ρ out D s h q
  rw [evS] at h
  split at h
  · cases h
  · rename_i o e3
    split at h
    · cases h
    · rename_i as e1
      split at h
      · cases h
      · rename_i o' e2
        cases h
        have hi := ownAt_some e3
        obtain ⟨p, hp, hI, hc, nb⟩ := s.sl.ow i o hi
        cases o <;> first | (simp only [msfD] at e2; cases e2; done) | skip
        rename_i c ns ks ds
        simp only [msfD] at e2
        split at e2
        · cases e2
        · rename_i hcs
          simp only [Decidable.not_not] at hcs
          split at e2
          · cases e2
          · rename_i j ej
            split at e2
            · rename_i hkj
              split at e2
              · cases e2
              · rename_i d ed
                split at e2
                · cases e2
                · rename_i d' em
                  cases e2
                  obtain ⟨dx, xs, e4, l, f, nd, z9⟩ := id hc
                  obtain ⟨qa, hxq, hqI, hq1⟩ := f.at_true hkj ed
                  cases d <;> first | (simp only [msD] at em; cases em; done) | skip
                  rename_i ls
                  rcases as with _ | ⟨d1, _ | ⟨d2, r⟩⟩ <;> first | (simp [msD] at em; done) | skip
                  simp only [msD] at em
                  split at em
                  · rename_i hz
                    cases em
                    obtain ⟨ys, hy, ry, zy⟩ := id hq1
                    refine ⟨_, hp, p, dx, c, _, _, hcs, rfl, e4, (lookup_at ej).trans hxq, .inl ⟨rfl, ys, .inl (.inl hy)⟩, hF σ I H ρ _ _ s e1 fun vs I1 H1 x1 g => ?_⟩
                    simp only [Reps] at g
                    obtain ⟨w, r, rfl, g1, rfl⟩ := g
                    have s1 := s.ext x1
                    obtain ⟨⟨dx', xs', e4', l', f', nd', z9'⟩, hft, hI1⟩ := hc.ext hI x1
                    obtain ⟨qa', hxq', hqI', hq1'⟩ := f'.at_true hkj ed
                    have e5 : ns.zip xs' = ns.zip xs := by
                      have := x1.hh p _ e4
                      rw [e4'] at this
                      have := Option.some.inj this
                      injection this with _ _ this
                    have e6 : xs' = xs := by
                      have := congrArg (List.map (·.2)) e5
                      rw [zip_snd l', zip_snd l] at this
                      exact this
                    subst e6
                    rw [hxq] at hxq'
                    cases hxq'
                    obtain ⟨ys', hy', ry', zy'⟩ := id hq1'
                    have mq : qa ∈ foot H1 p (.ob c ns ks ds) := by
                      unfold foot
                      rw [kids_ob e4' l']
                      exact List.mem_cons_of_mem _ (OwnFs.child.kid_mem hkj hxq)
                    have npq : p ≠ qa := fun z => by
                      rw [← z, e4'] at hy'
                      cases hy'
                    have c1 : OwnC1 K I1 (upd H1 qa (.lst (ys' ++ [w]))) qa (.lst (ls ++ [d1])) := ⟨_, upd_same, ry'.app (Reps.cons g1 Reps.nil), by rw [List.length_append, List.length_singleton]; omega⟩
                    have e7 : upd H1 qa (.lst (ys' ++ [w])) p = some (.ins (cA K c) dx' (ns.zip xs')) := by rw [upd_ne npq]; exact e4'
                    obtain ⟨s', st⟩ := s1.mutG (d' := .ob c ns ks (ds.set j (.lst (ls ++ [d1])))) (H' := upd H1 qa (.lst (ys' ++ [w]))) hi hp (fun b m => upd_ne fun z => m (z ▸ mq)) ⟨dx', xs', e7, l', f'.child nd' hkj ed hxq c1, nd', z9'⟩ fun a m => by
                      rcases List.mem_cons.mp m with z | z
                      · exact .inl (by rw [z]; exact foot_self)
                      · rw [kids_ob e7 l'] at z
                        refine .inl ?_
                        unfold foot
                        rw [kids_ob e4' l']
                        exact List.mem_cons_of_mem _ z
                    refine ⟨qa, ys', w, rfl, rfl, hy', by rw [ry'.len]; exact lt_line hz, q σ I1 _ ((s.stp x1).trans st) s'⟩
                  · cases em
            · cases e2
end
end R

set_option linter.all false
set_option maxHeartbeats 8000000
/-! A tuple of one's own: some of its items are lists of one's own. -/
namespace R
open PySem L2
section
variable {K : PySem.W.Frag} {B : Bd} {W : Str → Hp → Prop} {cl : Nat → List D → Option (Kd × D)} {sp : Nat → Sp} {I H I1 I' H' : Hp} {σ : List (Option V)} {ρ : Env}
theorem flg_at (js : List Nat) : ∀ (ds : List D) (n j : Nat), j < ds.length → (flg js n ds)[j]? = some (js.contains (n + j))
  | [], n, j, h => by simp at h
  | d :: ds, n, 0, h => rfl
  | d :: ds, n, j + 1, h => by
    show (flg js (n + 1) ds)[j]? = _
    rw [flg_at js ds (n + 1) j (by simpa using h)]
    congr 2
    omega
theorem flg_set (js : List Nat) : ∀ (ds : List D) (n j : Nat) (d : D), flg js n (ds.set j d) = flg js n ds
  | [], n, j, d => rfl
  | e :: ds, n, 0, d => rfl
  | e :: ds, n, j + 1, d => by
    show js.contains n :: flg js (n + 1) (ds.set j d) = _
    rw [flg_set js ds (n + 1) j d]
    rfl
/-- seen as frozen for a while -/
theorem Sta.lend {i : Nat} {js : List Nat} {ds outs : List D} (s : Sta K B I H σ ρ) (hi : ρ[i]? = some (some (.ow, .io js (.tup ds) outs))) :
    ∃ I1, (∀ b o, I b = some o → I1 b = some o) ∧ Sta K B.np I1 H σ (ρ.set i (some (.fz, .tup ds))) := by
  have hl : i < ρ.length := (List.getElem?_eq_some_iff.mp hi).1
  obtain ⟨I1, st, s'⟩ := s.np.frz hi fun _ m => nomatch m
  have oth : ∀ (j : Nat) (r : Kd × D), i ≠ j → (ρ.set i (some (.fz, .tup ds)))[j]? = some (some r) → (ρ.set i (some (.fz, .io js (.tup ds) outs)))[j]? = some (some r) := fun j r n h => by
    rw [List.getElem?_set_ne n] at h ⊢
    exact h
  refine ⟨I1, st.ii, s'.su, s'.ba, (fun _ _ m => nomatch m), by rw [List.length_set, ← s.sl.len], fun j e h => ?_, fun j e h => ?_, fun j e h => ?_, fun j k e e' q q' nq g1 g2 g3 g4 => ?_⟩
  · by_cases q : i = j
    · subst q
      rw [List.getElem?_set_self hl] at h
      cases h
      obtain ⟨v, h1, h2⟩ := s'.sl.fz i (.io js (.tup ds) outs) (List.getElem?_set_self hl)
      simp only [Rep] at h2
      refine ⟨v, h1, ?_⟩
      simp only [Rep]
      exact h2.2
    · exact s'.sl.fz j e (oth j _ q h)
  · by_cases q : i = j
    · subst q
      rw [List.getElem?_set_self hl] at h
      cases h
    · exact s'.sl.ow j e (oth j _ q h)
  · by_cases q : i = j
    · subst q
      rw [List.getElem?_set_self hl] at h
      cases h
    · exact s'.sl.bo j e (oth j _ q h)
  · have n1 : i ≠ j := fun z => by
      subst z
      rw [List.getElem?_set_self hl] at g1
      cases g1
    have n2 : i ≠ k := fun z => by
      subst z
      rw [List.getElem?_set_self hl] at g2
      cases g2
    exact s'.sl.ne j k e e' q q' nq (oth j _ n1 g1) (oth k _ n2 g2) g3 g4
/-- back from it -/
theorem Ext.back (ii : ∀ b o, I b = some o → I1 b = some o) (x : Ext I1 H I' H') : Ext I H I H' :=
  ⟨fun _ _ h => h, x.hh, fun b u h => x.su b u (x.ii b u (ii b u h)), fun _ _ _ _ => rfl⟩
theorem ioT_some {i : Nat} {t : D} (h : ioT ρ[i]? = some t) : ∃ js ds outs, ρ[i]? = some (some (.ow, .io js (.tup ds) outs)) ∧ t = .tup ds := by
  unfold ioT at h
  split at h
  · rename_i js ds outs e
    cases h
    exact ⟨js, ds, outs, e, rfl⟩
  · cases h
/-- if c: return b, of a tuple of one's own -/
theorem lendq_ok {i : Nat} {c : IE} {b : Bool} (hT : EvOkT K B.np (rdT K sp c) fun ρ => onT (evE cl c ρ)) : EvOkS K B W (tIfS (rdT K sp c) (tSeq (tRet (tC (.bl b))) tNext) tNext) (evS cl (.lendq i c b)) := by
  intro σ I H ρ out D s h q
  rw [evS] at h
  split at h
  · cases h
  · rename_i t e1
    obtain ⟨js, ds, outs, hi, rfl⟩ := ioT_some e1
    obtain ⟨I1, ii, s1⟩ := s.lend hi
    split at h
    · cases h
    · rename_i e2
      cases h
      refine hT σ I1 H _ true _ s1 e2 fun I' H' x => ?_
      rw [if_pos rfl]
      have x0 := Ext.back ii x
      exact q.1 (by intro z; cases z) (.bl b) I H' (s.stp x0) x0.su (rep_bl (K := K) (I := I))
    · rename_i e2
      cases h
      refine hT σ I1 H _ false _ s1 e2 fun I' H' x => ?_
      rw [if_neg Bool.false_ne_true]
      have x0 := Ext.back ii x
      exact q σ I H' (s.stp x0) (s.ext x0)
/-- x = e, of a tuple of one's own -/
theorem lends_ok {k i : Nat} {e : IE} (np : ∀ p, (k, p) ∉ B.pins) (he : EvOk K B.np (rdE K sp e) (evE cl e)) : EvOkS K B W (tAsg (rdE K sp e) (rdG K (.nm k))) (evS cl (.lends k i e)) := by
  intro σ I H ρ out D s h q
  rw [evS] at h
  split at h
  · cases h
  · rename_i t e1
    obtain ⟨js, ds, outs, hi, rfl⟩ := ioT_some e1
    obtain ⟨I1, ii, s1⟩ := s.lend hi
    split at h
    · cases h
    · rename_i r e2
      split at h
      · rename_i lo
        split at h
        · cases h
        · rename_i ρ' e3
          cases h
          obtain ⟨kk, d⟩ := r
          refine he σ I1 H _ kk d _ s1 e2 fun v I' H' x g => ?_
          have x0 := Ext.back ii x
          have g' : RK K B H I H' kk d v := by
            cases kk with
            | fz => exact flat_rep lo g
            | ow =>
              cases d <;> first | (cases lo; done) | skip
              rename_i ls
              obtain ⟨⟨p, rfl, hp, xs, hx, rx, zx⟩, p', e', hs⟩ := g
              cases e'
              refine ⟨⟨p, rfl, ?_, xs, hx, flat_reps lo rx, zx⟩, p, rfl, hs⟩
              cases z : I p with
              | none => rfl
              | some o =>
                rw [x.ii p o (ii p o z)] at hp
                cases hp
            | bo => cases lo
          refine setR_ok s (fun a m p => ?_) e3 x0 g' fun σ' s' => q σ' I H' (s.stp x0) s'
          rw [List.mem_singleton.mp m]
          exact np p
      · cases h
/-- t[j].append(e) -/
theorem msk_ok {i j : Nat} {es : List IE} (hF : EvOkF K B (rdA K sp es) (evF cl es)) : EvOkS K B W (rdMs K .append (rdE K sp (.ix (.var i) (.int (j : Int)))) (rdA K sp es)) (evS cl (.msk .append i j es)) := by
  intro σ I H ρ out D s h q
  rw [evS] at h
  split at h
  · rename_i js ds outs e3
    split at h
    · rename_i hjs
      split at h
      · cases h
      · rename_i d ed
        split at h
        · cases h
        · rename_i as e1
          split at h
          · cases h
          · rename_i d' em
            cases h
            have hi := ownAt_some e3
            obtain ⟨p, hp, hI, hc, nb⟩ := s.sl.ow i _ hi
            obtain ⟨ds', xs, e4', e4, f, nd, ne, z9⟩ := id hc
            cases e4'
            have hj : j < ds.length := (List.getElem?_eq_some_iff.mp ed).1
            have hkj : (flg js 0 ds)[j]? = some true := by rw [flg_at js ds 0 j hj, Nat.zero_add, hjs]
            obtain ⟨qa, hxq, hqI, hq1⟩ := f.at_true hkj ed
            cases d <;> first | (simp only [msD] at em; cases em; done) | skip
            rename_i ls
            rcases as with _ | ⟨d1, _ | ⟨d2, r⟩⟩ <;> first | (simp [msD] at em; done) | skip
            simp only [msD] at em
            split at em
            · rename_i hz
              cases em
              obtain ⟨ys, hy, ry, zy⟩ := id hq1
              have ha : atI xs (j : Int) = some (.ref qa) := by
                have hjx := (List.getElem?_eq_some_iff.mp hxq).1
                have e : ixN xs.length (j : Int) = some j := by
                  unfold ixN
                  rw [if_pos (Int.natCast_nonneg j), if_pos (by omega), Int.toNat_natCast]
                unfold atI
                rw [e]
                exact hxq
              refine .inl ⟨_, hp, .inr (.inl ⟨p, xs, (j : Int), .ref qa, rfl, rfl, .inl (.inl e4), ha, .inl ⟨rfl, ys, .inl (.inl hy)⟩, hF σ I H ρ _ _ s e1 fun vs I1 H1 x1 g => ?_⟩)⟩
              simp only [Reps] at g
              obtain ⟨w, r, rfl, g1, rfl⟩ := g
              have s1 := s.ext x1
              obtain ⟨⟨ds', xs', z1, e4', f', nd', ne', z9'⟩, hft, hI1⟩ := hc.ext hI x1
              cases z1
              obtain ⟨qa', hxq', hqI', hq1'⟩ := f'.at_true hkj ed
              have e6 : xs' = xs := by
                have := x1.hh p _ e4
                rw [e4'] at this
                have := Option.some.inj this
                injection this
              subst e6
              rw [hxq] at hxq'
              cases hxq'
              obtain ⟨ys', hy', ry', zy'⟩ := id hq1'
              have mq : qa ∈ foot H1 p (.io js (.tup ds) outs) := by
                unfold foot
                rw [kids_io e4']
                exact List.mem_cons_of_mem _ (OwnFs.child.kid_mem hkj hxq)
              have npq : p ≠ qa := fun z => by
                rw [← z, e4'] at hy'
                cases hy'
              have c1 : OwnC1 K I1 (upd H1 qa (.lst (ys' ++ [w]))) qa (.lst (ls ++ [d1])) := ⟨_, upd_same, ry'.app (Reps.cons g1 Reps.nil), by rw [List.length_append, List.length_singleton]; omega⟩
              have e7 : upd H1 qa (.lst (ys' ++ [w])) p = some (.tup xs') := by rw [upd_ne npq]; exact e4'
              obtain ⟨s', st⟩ := s1.mutG (d' := .io js (.tup (ds.set j (.lst (ls ++ [d1])))) outs) (H' := upd H1 qa (.lst (ys' ++ [w]))) hi hp (fun b m => upd_ne fun z => m (z ▸ mq))
                ⟨_, xs', rfl, e7, by rw [flg_set]; exact f'.child nd' hkj ed hxq c1, by rw [flg_set]; exact nd', by rw [flg_set]; exact ne', by rw [List.length_set]; exact z9'⟩ fun a m => by
                rcases List.mem_cons.mp m with z | z
                · exact .inl (by rw [z]; exact foot_self)
                · rw [kids_io e7, flg_set] at z
                  refine .inl ?_
                  unfold foot
                  rw [kids_io e4']
                  exact List.mem_cons_of_mem _ z
              refine ⟨qa, ys', w, rfl, rfl, hy', by rw [ry'.len]; exact lt_line hz, q σ I1 _ ((s.stp x1).trans st) s'⟩
            · cases em
    · cases h
  · cases h
/-- the items of a tuple to come -/
structure WOk (K : PySem.W.Frag) (σ : List (Option V)) (ρ : Env) (H : Hp) (vs : List Nat) (I' H' : Hp) (ks : List Bool) (ds : List D) (xs : List V) : Prop where
  fs : OwnFs K I' H' ks ds xs
  nd : (kidsOf ks xs).Nodup
  src : ∀ q ∈ kidsOf ks xs, H q = none ∨ ∃ i d, i ∈ vs ∧ ρ[i]? = some (some (.ow, d)) ∧ σ[i]? = some (some (.ref q))
theorem OwnC.noKids {p : Addr} {d : D} (l : lstD d = true) : ∀ H p, kids H p d = [] := by
  cases d <;> first | (cases l; done) | exact fun _ _ => rfl
theorem wvars_cons {js : List Nat} {n : Nat} {e : IE} {es : List IE} : ∀ i, i ∈ wvars js (n + 1) es → i ∈ wvars js n (e :: es) := fun i m => by
  cases e <;> first | exact m | skip
  rename_i j
  simp only [wvars]
  split
  · exact List.mem_cons_of_mem _ m
  · exact m
theorem wvars_nd {js : List Nat} {n : Nat} {e : IE} {es : List IE} (h : (wvars js n (e :: es)).Nodup) : (wvars js (n + 1) es).Nodup := by
  cases e <;> first | exact h | skip
  rename_i j
  simp only [wvars] at h
  split at h
  · exact (List.nodup_cons.mp h).2
  · exact h
/-- the items, those of one's own with no two in one place -/
theorem evW_ok {js : List Nat} : ∀ (es : List IE) (n : Nat), (∀ e ∈ es, EvOk K B (rdE K sp e) (evE cl e)) → ∀ (σ : List (Option V)) (I H : Hp) (ρ : Env) (ds : List D) (Q : List V → Hp → Prop), Sta K B I H σ ρ → evW cl js n es ρ = some ds → (wvars js n es).Nodup →
    (∀ xs I' H', Ext I H I' H' → WOk K σ ρ H (wvars js n es) I' H' (flg js n ds) ds xs → Q xs H') → rdA K sp es σ H Q
  | [], n, _, σ, I, H, ρ, ds, Q, s, h, _, q => by
    simp only [evW] at h
    cases h
    exact q [] I H (Ext.refl s.su) ⟨trivial, List.nodup_nil, fun q m => nomatch m⟩
  | e :: es, n, he, σ, I, H, ρ, ds, Q, s, h, nd, q => by
    have he0 := he e List.mem_cons_self
    have heT : ∀ e' ∈ es, EvOk K B (rdE K sp e') (evE cl e') := fun e' m => he e' (List.mem_cons_of_mem _ m)
    have ndT := wvars_nd nd
    show rdE K sp e σ H fun x H1 => rdA K sp es σ H1 fun xs H2 => Q (x :: xs) H2
    simp only [evW] at h
    -- what an item of one's own gives
    have own : ∀ (d : D) (ds' : List D), lstD d = true → evW cl js (n + 1) es ρ = some ds' → ds = d :: ds' → js.contains n = true →
        ∀ (p : Addr) (I1 H1 : Hp), Ext I H I1 H1 → I1 p = none → OwnC K I1 H1 p d → (H p = none ∨ (e = .var (wvars js n (e :: es)).head! ∧ ∃ i, e = .var i ∧ ρ[i]? = some (some (.ow, d)) ∧ σ[i]? = some (some (.ref p)))) →
        rdA K sp es σ H1 fun xs H2 => Q (.ref p :: xs) H2 := by
      intro d ds' hl e2 hds hj p I1 H1 x1 hI1 c1 src
      subst hds
      refine evW_ok es (n + 1) heT σ I1 H1 ρ ds' _ (s.ext x1) e2 ndT fun xs I2 H2 x2 w => ?_
      obtain ⟨c2, hf2, hI2⟩ := c1.ext hI1 x2
      have o2 := c2.one hl
      have hx : ∃ o, H1 p = some o := by
        obtain ⟨o, ho, _⟩ := c1.there
        exact ⟨o, ho⟩
      obtain ⟨o, ho⟩ := hx
      have fl : flg js n (d :: ds') = true :: flg js (n + 1) ds' := by
        show js.contains n :: _ = _
        rw [hj]
      refine q (.ref p :: xs) I2 H2 (x1.trans x2) ⟨?_, ?_, ?_⟩
      · rw [fl]
        exact ⟨⟨p, rfl, hI2, o2⟩, w.fs⟩
      · rw [fl]
        show (p :: kidsOf (flg js (n + 1) ds') xs).Nodup
        refine List.nodup_cons.mpr ⟨fun m => ?_, w.nd⟩
        rcases w.src p m with z | ⟨i, d', mi, r1, r2⟩
        · rw [ho] at z
          cases z
        · obtain ⟨p', k1, k2, k3, k4⟩ := s.sl.ow i d' r1
          rw [r2] at k1
          cases k1
          obtain ⟨_, o', ho', _⟩ := k3.ft k2 p foot_self
          rcases src with z | ⟨_, i0, rfl, r3, r4⟩
          · rw [z] at ho'
            cases ho'
          · have hw : wvars js n (.var i0 :: es) = i0 :: wvars js (n + 1) es := by
              simp only [wvars]
              rw [if_pos hj]
            rw [hw] at nd
            have ni : i0 ≠ i := fun z => (List.nodup_cons.mp nd).1 (z ▸ mi)
            exact s.sl.ne i0 i d d' p p ni r3 r1 r4 r2 p foot_self foot_self
      · rw [fl]
        intro q' m
        rcases List.mem_cons.mp m with z | z
        · subst z
          rcases src with z | ⟨_, i0, e0, r3, r4⟩
          · exact .inl z
          · subst e0
            refine .inr ⟨i0, d, ?_, r3, r4⟩
            simp only [wvars]
            rw [if_pos hj]
            exact List.mem_cons_self
        · rcases w.src q' z with z1 | ⟨i, d', mi, r1, r2⟩
          · refine .inl ?_
            cases z2 : H q' with
            | none => rfl
            | some o' =>
              rw [x1.hh q' o' z2] at z1
              cases z1
          · exact .inr ⟨i, d', wvars_cons i mi, r1, r2⟩
    split at h
    · rename_i hj
      split at h
      · cases h
      · rename_i d e1
        split at h
        · rename_i hl
          split at h
          · cases h
          · rename_i ds' e2
            have hds : ds = d :: ds' := (Option.some.inj h).symm
            split at e1
            · rename_i j' d' e3
              cases e1
              obtain ⟨rfl, r3⟩ := lentV_some e3
              obtain ⟨p, k1, k2, k3, k4⟩ := s.sl.ow j' d r3
              have hw : wvars js n (.var j' :: es) = j' :: wvars js (n + 1) es := by
                simp only [wvars]
                rw [if_pos hj]
              exact ⟨_, k1, own d ds' hl e2 hds hj p I H (Ext.refl s.su) k2 k3 (.inr ⟨by rw [hw]; rfl, j', rfl, r3, k1⟩)⟩
            · split at e1
              · rename_i d' e3
                cases e1
                refine he0 σ I H ρ _ _ _ s e3 fun v I1 H1 x1 g => ?_
                obtain ⟨⟨p, rfl, hp, c⟩, p', e', hs⟩ := g
                cases e'
                exact own d ds' hl e2 hds hj p I1 H1 x1 hp c (.inl (hs p foot_self))
              · cases e1
        · cases h
    · rename_i hj
      have hj : js.contains n = false := by simpa using hj
      split at h
      · cases h
      · rename_i r e1
        split at h
        · cases h
        · rename_i d e2
          split at h
          · cases h
          · rename_i ds' e3
            cases h
            refine he0.fz s e1 e2 fun v I1 H1 x1 g => ?_
            refine evW_ok es (n + 1) heT σ I1 H1 ρ ds' _ (s.ext x1) e3 ndT fun xs I2 H2 x2 w => ?_
            have fl : flg js n (d :: ds') = false :: flg js (n + 1) ds' := by
              show js.contains n :: _ = _
              rw [hj]
            have kf : kidsOf (flg js n (d :: ds')) (v :: xs) = kidsOf (flg js (n + 1) ds') xs := by
              rw [fl]
              cases v <;> rfl
            refine q (v :: xs) I2 H2 (x1.trans x2) ⟨?_, ?_, ?_⟩
            · rw [fl]
              exact ⟨g.mono x2.ii _ _, w.fs⟩
            · rw [kf]
              exact w.nd
            · rw [kf]
              intro q' m
              rcases w.src q' m with z1 | ⟨i, d', mi, r1, r2⟩
              · refine .inl ?_
                cases z2 : H q' with
                | none => rfl
                | some o' =>
                  rw [x1.hh q' o' z2] at z1
                  cases z1
              · exact .inr ⟨i, d', wvars_cons i mi, r1, r2⟩
/-- return (.., ..): some of the items stay one's own -/
theorem retw_ok {js : List Nat} {es : List IE} (he : ∀ e ∈ es, EvOk K B (rdE K sp e) (evE cl e)) : EvOkS K B W (tRet (rdE K sp (.tup es))) (evS cl (.retw js es)) := by
  intro σ I H ρ out D s h q
  rw [evS] at h
  split at h
  · cases h
  · rename_i ds e1
    split at h
    · rename_i hz
      cases h
      obtain ⟨h1, h2, h3⟩ := hz
      show rdA K sp es σ H fun xs H1 => xs.length ≤ sizeLine ∧ ∀ p, H1 p = none → D.rt (.ref p) (upd H1 p (.tup xs))
      refine evW_ok es 0 he σ I H ρ ds _ s e1 (nodupB_iff h1) fun xs I1 H1 x1 w => ⟨by rw [← w.fs.lens.2]; exact le_line h3, fun p hp => ?_⟩
      have x2 := x1.trans (Ext.new x1.su (o := .tup xs) hp)
      have su1 := x1.su.fresh hp
      have ke : ∀ a ∈ kidsOf (flg js 0 ds) xs, ∃ o, H1 a = some o := fun a m => by
        obtain ⟨_, d', c⟩ := w.fs.kid m
        obtain ⟨o, ho, _⟩ := c.there
        exact ⟨o, ho⟩
      have nep : ∀ a ∈ kidsOf (flg js 0 ds) xs, a ≠ p := fun a m z => by
        obtain ⟨o, ho⟩ := ke a m
        rw [z, hp] at ho
        cases ho
      have oc : OwnC K I1 (upd H1 p (.tup xs)) p (.io js (.tup ds) []) := by
        refine ⟨ds, xs, rfl, upd_same, w.fs.same (fun _ _ h => h) fun a m => ⟨upd_ne (nep a m), (w.fs.kid m).1⟩, w.nd, ?_, h3⟩
        obtain ⟨j, mj, hj⟩ := List.any_eq_true.mp h2
        have hj := of_decide_eq_true hj
        have hk : (flg js 0 ds)[j]? = some true := by
          rw [flg_at js ds 0 j hj, Nat.zero_add]
          exact congrArg some (List.contains_iff_mem.mpr mj)
        obtain ⟨qa, hx, _⟩ := w.fs.at_true hk (List.getElem?_eq_getElem hj)
        have := OwnFs.child.kid_mem hk hx
        intro z
        rw [z] at this
        cases this
      refine q.1 (by intro z; cases z) (.ref p) I1 _ (s.stp x2) x2.su ⟨⟨p, rfl, su1, oc⟩, p, rfl, fun a m hb => ?_⟩
      obtain ⟨o, ho⟩ := s.ba a hb
      rcases List.mem_cons.mp m with z | z
      · rw [z] at ho
        rw [x1.hh p o ho] at hp
        cases hp
      · rw [kids_io upd_same] at z
        rcases w.src a z with z1 | ⟨i, d', mi, r1, r2⟩
        · rw [z1] at ho
          cases ho
        · obtain ⟨p', k1, k2, k3, k4⟩ := s.sl.ow i d' r1
          rw [r2] at k1
          cases k1
          exact k4 a foot_self hb
    · cases h
end
end R

set_option linter.all false
set_option maxHeartbeats 8000000
/-! All statements. -/
namespace R
open PySem L2
section
variable {K : PySem.W.Frag} {B : Bd} {W : Str → Hp → Prop} {cl : Nat → List D → Option (Kd × D)} {sp : Nat → Sp}
theorem popN_ok {n : Nat} {i : Int} {j : Nat} (h : ixN n i = some j) (z : n ≤ LINE) : (-(2 ^ 63) ≤ i ∧ i < 2 ^ 63) ∧ seqIndex? i n = some j ∧ j < n := by
  obtain ⟨a, b, c, d⟩ := ixN_seq h
  have := line63
  have e : LINE = sizeLine := rfl
  exact ⟨⟨by omega, by omega⟩, a, b⟩
theorem ms_ok {m : MS} {i : Nat} {es : List IE} (ar : msAr m es.length = true) (hF : EvOkF K B (rdA K sp es) (evF cl es)) : EvOkS K B W (rdMs K m (tVar i) (rdA K sp es)) (evS cl (.ms m i es)) := by
  intro σ I H ρ out D s h q
  rw [evS] at h
  split at h
  · cases h
  · rename_i o e3
    split at h
    · cases h
    · rename_i ds e1
      split at h
      · cases h
      · rename_i o' e2
        cases h
        have hi := ownAt_some e3
        obtain ⟨p, hp, hI, hc, nb⟩ := s.sl.ow i o hi
        have mutd : ∀ {I' H' : Hp} {o2 : HO}, Ext I H I' H' → OwnC1 K I' (upd H' p o2) p o' → D.nx σ (upd H' p o2) := fun {I' H' o2} x c => by
          obtain ⟨o0, ho, nt⟩ := hc.there
          obtain ⟨s', st⟩ := (s.ext x).mut (d' := o') hi hp ((x.fr p o0 ho nt).trans hI) c
          exact q σ I' _ ((s.stp x).trans st) s'
        cases m with
        | append =>
          cases o with
          | lst xs0 =>
            rcases ds with _ | ⟨d, _ | ⟨d', r⟩⟩ <;> first | (simp [msD] at e2; done) | skip
            simp only [msD] at e2
            split at e2
            · rename_i hz
              cases e2
              obtain ⟨xs, hx, rx, zx⟩ := id hc
              refine ⟨_, hp, .inl ⟨rfl, xs, .inl (.inl hx)⟩, hF σ I H ρ _ _ s e1 fun vs I' H' x g => ?_⟩
              simp only [Reps] at g
              obtain ⟨w, r, rfl, g1, rfl⟩ := g
              obtain ⟨xs', hx', rx', zx'⟩ := (hc.ext hI x).1
              refine ⟨p, xs', w, rfl, rfl, hx', by rw [rx'.len]; exact lt_line hz, mutd x ⟨_, upd_same, rx'.app (Reps.cons g1 Reps.nil), by rw [List.length_append, List.length_singleton]; omega⟩⟩
            · cases e2
          | _ => simp [msD] at e2
        | reverse =>
          cases o with
          | lst xs0 =>
            rcases ds with _ | ⟨d, r⟩ <;> first | (simp [msD] at e2; done) | skip
            simp only [msD] at e2
            cases e2
            obtain ⟨xs, hx, rx, zx⟩ := id hc
            exact ⟨_, hp, .inl ⟨rfl, xs, .inl (.inl hx)⟩, p, xs, rfl, rfl, hx, mutd (Ext.refl s.su) ⟨_, upd_same, rx.rev, by rw [List.length_reverse]; exact zx⟩⟩
          | _ => simp [msD] at e2
        | insert =>
          cases o with
          | lst xs0 =>
            rcases ds with _ | ⟨d, _ | ⟨d', _ | ⟨d'', r⟩⟩⟩ <;> first | (simp [msD] at e2; done) | skip
            cases d <;> first | (simp only [msD] at e2; cases e2; done) | skip
            rename_i j
            simp only [msD] at e2
            split at e2
            · rename_i hz
              cases e2
              obtain ⟨xs, hx, rx, zx⟩ := id hc
              refine ⟨_, hp, .inl ⟨rfl, xs, .inl (.inl hx)⟩, hF σ I H ρ _ _ s e1 fun vs I' H' x g => ?_⟩
              simp only [Reps] at g
              obtain ⟨w, r, rfl, g1, w2, r2, rfl, g2, rfl⟩ := g
              obtain ⟨xs', hx', rx', zx'⟩ := (hc.ext hI x).1
              have ew := (show See K I' H' (.int j) w from .inl g1).int
              subst ew
              refine ⟨p, xs', j, w2, rfl, rfl, hx', by rw [rx'.len]; exact lt_line hz.1, hz.2.1, by omega, mutd x ⟨_, upd_same, ((rx'.take _).app (Reps.cons g2 Reps.nil)).app (rx'.drop _), ?_⟩⟩
              rw [List.length_append, List.length_append, List.length_take, List.length_drop, List.length_singleton]
              omega
            · cases e2
          | _ => simp [msD] at e2
        | pop1 =>
          cases o with
          | lst xs0 =>
            rcases ds with _ | ⟨d, _ | ⟨d', r⟩⟩ <;> first | (simp [msD] at e2; done) | skip
            cases d <;> first | (simp only [msD] at e2; cases e2; done) | skip
            rename_i j
            simp only [msD] at e2
            obtain ⟨n, en, rfl⟩ := Option.map_eq_some_iff.mp e2
            obtain ⟨xs, hx, rx, zx⟩ := id hc
            refine ⟨_, hp, .inl ⟨rfl, xs, .inl (.inl hx)⟩, hF σ I H ρ _ _ s e1 fun vs I' H' x g => ?_⟩
            simp only [Reps] at g
            obtain ⟨w, r, rfl, g1, rfl⟩ := g
            obtain ⟨xs', hx', rx', zx'⟩ := (hc.ext hI x).1
            have ew := (show See K I' H' (.int j) w from .inl g1).int
            subst ew
            obtain ⟨n1, n2, n3⟩ := popN_ok (n := xs'.length) (i := j) (j := n) (by rw [rx'.len]; exact en) (by rw [rx'.len]; exact zx')
            exact ⟨p, xs', j, n, xs'[n]'n3, rfl, rfl, hx', n1.1, n1.2, n2, List.getElem?_eq_getElem n3, mutd x ⟨_, upd_same, rx'.erase n, by have := List.length_eraseIdx_le xs0 n; omega⟩⟩
          | _ => simp [msD] at e2
        | _ => simp only [msAr] at ar; cases ar
theorem erase_last {α : Type} (xs : List α) : xs.eraseIdx (xs.length - 1) = xs.dropLast := by
  rw [List.eraseIdx_eq_take_drop_succ, List.dropLast_eq_take]
  have : xs.drop (xs.length - 1 + 1) = [] := List.drop_of_length_le (by omega)
  rw [this, List.append_nil]
theorem msv_ok {g : Tg} {i : Nat} (np : ∀ i ∈ tgS g, ∀ p, (i, p) ∉ B.pins) : EvOkS K B W (tAsg (tBM0 K "list" rPop (tVar i)) (rdG K g)) (evS cl (.msv g i)) := by
  intro σ I H ρ out D s h q
  rw [evS] at h
  split at h
  · cases h
  · rename_i o e3
    split at h
    · cases h
    · rename_i y o' e2
      split at h
      · cases h
      · rename_i ρ' e4
        cases h
        have hi := ownAt_some e3
        obtain ⟨p, hp, hI, hc, nb⟩ := s.sl.ow i o hi
        cases o with
        | lst xs0 =>
          simp only [popD] at e2
          split at e2
          · rename_i y' ey
            cases e2
            obtain ⟨xs, hx, rx, zx⟩ := id hc
            obtain ⟨yv, hy, ry⟩ := rx.get ey
            have hl := rx.len
            obtain ⟨s', st⟩ := s.mut (d' := .lst (xs0.eraseIdx (xs0.length - 1))) (o' := .lst xs.dropLast) hi hp hI ⟨_, upd_same, by rw [← erase_last, hl]; exact rx.erase _, by have := List.length_eraseIdx_le xs0 (xs0.length - 1); omega⟩
            refine ⟨_, hp, .inl ⟨rfl, xs, .inl (.inl hx)⟩, p, xs, yv, rfl, rfl, hx, by rw [hl]; exact hy, ?_⟩
            exact tg_ok e4 np s' ry fun σ3 s3 _ => q σ3 I _ st s3
          · cases e2
        | _ => simp [popD] at e2
theorem msvi_ok {g : Tg} {i : Nat} {e : IE} (np : ∀ i ∈ tgS g, ∀ p, (i, p) ∉ B.pins) (he : EvOk K B (rdE K sp e) (evE cl e)) : EvOkS K B W (tAsg (tBM K "list" rPopAt (tVar i) (tCons (rdE K sp e) tNil)) (rdG K g)) (evS cl (.msvi g i e)) := by
  intro σ I H ρ out D s h q
  rw [evS] at h
  split at h
  · cases h
  · rename_i o e3
    split at h
    · rename_i kk n e1
      split at h
      · cases h
      · rename_i y o' e2
        split at h
        · cases h
        · rename_i ρ' e4
          cases h
          have hi := ownAt_some e3
          obtain ⟨p, hp, hI, hc, nb⟩ := s.sl.ow i o hi
          cases o with
          | lst xs0 =>
            simp only [popAtD] at e2
            split at e2
            · cases e2
            · rename_i j ej
              split at e2
              · cases e2
              · rename_i y' ey
                cases e2
                obtain ⟨xs, hx, rx, zx⟩ := id hc
                refine ⟨_, hp, .inl ⟨rfl, xs, .inl (.inl hx)⟩, he.see s e1 fun w I1 H1 x1 g1 => ?_⟩
                have ew := g1.int
                subst ew
                have s1 := s.ext x1
                obtain ⟨q1, q2, q3⟩ := hc.ext hI x1
                obtain ⟨xs', hx', rx', zx'⟩ := id q1
                obtain ⟨yv, hy, ry⟩ := rx'.get ey
                obtain ⟨n1, n2, n3⟩ := popN_ok (n := xs'.length) (i := n) (j := j) (by rw [rx'.len]; exact ej) (by rw [rx'.len]; exact zx')
                obtain ⟨s', st⟩ := s1.mut (d' := .lst (xs0.eraseIdx j)) (o' := .lst (xs'.eraseIdx j)) hi hp q3 ⟨_, upd_same, rx'.erase j, by have := List.length_eraseIdx_le xs0 j; omega⟩
                refine ⟨p, xs', n, j, yv, rfl, rfl, hx', n1.1, n1.2, n2, hy, ?_⟩
                exact tg_ok e4 np s' ry fun σ3 s3 _ => q σ3 I1 _ ((s.stp x1).trans st) s3
          | _ => simp [popAtD] at e2
    · cases h
theorem mspop_ok {i j : Nat} {e : IE} (he : EvOk K B (rdE K sp e) (evE cl e)) : EvOkS K B W (tDrop (tBM K "list" rAppend (tVar i) (tCons (tBM K "list" rPopAt (tVar j) (tCons (rdE K sp e) tNil)) tNil))) (evS cl (.mspop i j e)) := by
  intro σ I H ρ out D s h q
  rw [evS] at h
  split at h
  · cases h
  · rename_i o e3
    split at h
    · rename_i kk n e1
      split at h
      · cases h
      · rename_i y o' e2
        split at h
        · cases h
        · rename_i oi e4
          split at h
          · cases h
          · rename_i oi' e5
            cases h
            have hj := ownAt_some e3
            obtain ⟨p, hp, hI, hc, nb⟩ := s.sl.ow j o hj
            cases o with
            | lst xs0 =>
              simp only [popAtD] at e2
              split at e2
              · cases e2
              · rename_i jj ej
                split at e2
                · cases e2
                · rename_i y' ey
                  cases e2
                  obtain ⟨xs, hx, rx, zx⟩ := id hc
                  have isl : ∃ zs, oi = .lst zs := by
                    cases oi <;> first | exact ⟨_, rfl⟩ | (simp [msD] at e5; done)
                  obtain ⟨zs, rfl⟩ := isl
                  have hi' := ownAt_some e4
                  have rcv : ∃ pi xsi, σ[i]? = some (some (.ref pi)) ∧ H pi = some (.lst xsi) := by
                    by_cases ij : i = j
                    · exact ⟨p, xs, by rw [ij]; exact hp, hx⟩
                    · rw [List.getElem?_set_ne (fun z => ij z.symm)] at hi'
                      obtain ⟨pi, hpi, _, hci, _⟩ := s.sl.ow i _ hi'
                      obtain ⟨xsi, hxi, _, _⟩ := id hci
                      exact ⟨pi, xsi, hpi, hxi⟩
                  obtain ⟨pi, xsi, hpi, hxi⟩ := rcv
                  refine ⟨_, hpi, .inl ⟨rfl, xsi, .inl (.inl hxi)⟩, _, hp, .inl ⟨rfl, xs, .inl (.inl hx)⟩, he.see s e1 fun w I1 H1 x1 g1 => ?_⟩
                  have ew := g1.int
                  subst ew
                  have s1 := s.ext x1
                  obtain ⟨q1, q2, q3⟩ := hc.ext hI x1
                  obtain ⟨xs', hx', rx', zx'⟩ := id q1
                  obtain ⟨yv, hy, ry⟩ := rx'.get ey
                  obtain ⟨n1, n2, n3⟩ := popN_ok (n := xs'.length) (i := n) (j := jj) (by rw [rx'.len]; exact ej) (by rw [rx'.len]; exact zx')
                  obtain ⟨s', st⟩ := s1.mut (d' := .lst (xs0.eraseIdx jj)) (o' := .lst (xs'.eraseIdx jj)) hj hp q3 ⟨_, upd_same, rx'.erase jj, by have := List.length_eraseIdx_le xs0 jj; omega⟩
                  refine ⟨p, xs', n, jj, yv, rfl, rfl, hx', n1.1, n1.2, n2, hy, ?_⟩
                  obtain ⟨pi2, hpi2, hI2, hc2, nb2⟩ := s'.sl.ow i _ hi'
                  rw [hpi] at hpi2
                  cases hpi2
                  obtain ⟨ws, hw, rw', zw⟩ := id hc2
                  simp only [msD] at e5
                  split at e5
                  · rename_i hz
                    cases e5
                    refine ⟨pi, ws, yv, rfl, rfl, hw, by rw [rw'.len]; exact lt_line hz, ?_⟩
                    obtain ⟨s2, st2⟩ := s'.mut (d' := .lst (zs ++ [y])) (o' := .lst (ws ++ [yv])) hi' hpi hI2 ⟨_, upd_same, rw'.app (Reps.cons ry Reps.nil), by rw [List.length_append, List.length_singleton]; omega⟩
                    exact q σ I1 _ (((s.stp x1).trans st).trans st2) s2
                  · cases e5
            | _ => simp [popAtD] at e2
    · cases h
/-- a loop over what is walked -/
theorem for_at {wi : TI} {g : Tg} {tb : TS} {fb : Env → Option Out} {σ : List (Option V)} {I H : Hp} {ρ : Env} {xs : List D} {out : Out} {D : Ends}
    (hS : ∀ R : It → Hp → Prop, (∀ J I' H', Ext I H I' H' → SrcOk K J I' H' xs True → xs.length ≤ LINE → R J H') → wi σ H R) (np : ∀ i ∈ tgS g, ∀ p, (i, p) ∉ B.pins) (hb : EvOkS K B W tb fb)
    (s : Sta K B I H σ ρ) (e : forRun (fun x ρ1 => match setTg g x ρ1 with | none => none | some ρ2 => fb ρ2) xs ρ = some out) (q : Sat K B W D I H out) : tFor wi (rdG K g) tb D σ H := by
  refine hS _ fun J I1 H1 x1 src hz => ?_
  obtain ⟨P, p0, _, pf, turn⟩ := src
  have pf := pf trivial
  have st1 := s.stp x1
  refine ⟨fun i m σ' H' => m = xs.length - i ∧ i ≤ xs.length ∧ ∃ (I' : Hp) (ρ' : Env), Stp B I1 H1 I' H' ∧ Sta K B I' H' σ' ρ' ∧ forRun (fun x ρ1 => match setTg g x ρ1 with | none => none | some ρ2 => fb ρ2) (xs.drop i) ρ' = some out,
    ⟨xs.length, by omega, Nat.zero_le _, I1, ρ, Stp.refl, s.ext x1, e⟩, ?_⟩
  rintro i m σ' H' ⟨rfl, hi, I', ρ', st, s', er⟩
  have pH' : P H' := pf H' fun b o h => st.fz b o h
  have t := turn I' H' i st.ii s'.su pH'
  by_cases hlt : i < xs.length
  · obtain ⟨go, yl⟩ := t.1 xs[i] (List.getElem?_eq_getElem hlt)
    refine .inr ⟨go, fun σ2 H2 => ∃ (I2 : Hp) (ρ2 : Env), Stp B I1 H1 I2 H2 ∧ Sta K B I2 H2 σ2 ρ2 ∧ forRun (fun x ρ1 => match setTg g x ρ1 with | none => none | some ρ2 => fb ρ2) (xs.drop (i + 1)) ρ2 = some out,
      fun σ2 H2 n => ⟨xs.length - (i + 1), by omega, rfl, hlt, n⟩, fun x H2 hy => ?_⟩
    obtain ⟨I2, x2, rx⟩ := yl x H2 hy
    rw [List.drop_eq_getElem_cons hlt] at er
    simp only [forRun] at er
    have s2 := s'.ext x2
    have st2 := st.trans (s'.stp x2)
    cases et : setTg g xs[i] ρ' with
    | none => rw [et] at er; cases er
    | some ρ2 =>
      simp only [et] at er
      refine tg_ok et np s2 rx fun σ3 s3 _ => ?_
      cases eb : fb ρ2 with
      | none => simp only [eb] at er; cases er
      | some o1 =>
        simp only [eb] at er
        refine hb σ3 I2 H2 ρ2 o1 _ s3 eb ?_
        cases o1 with
        | nx ρ4 => exact fun σ4 I4 H4 y4 s4 => ⟨I4, ρ4, st2.trans y4, s4, er⟩
        | ct ρ4 => exact fun σ4 I4 H4 y4 s4 => ⟨I4, ρ4, st2.trans y4, s4, er⟩
        | bk ρ4 =>
          cases er
          exact fun σ4 I4 H4 y4 s4 => q σ4 I4 H4 (st1.trans (st2.trans y4)) s4
        | rt k d =>
          cases er
          exact Sat.step q (st1.trans st2)
  · have hi' : i = xs.length := by omega
    subst hi'
    rw [List.drop_length] at er
    simp only [forRun] at er
    cases er
    exact .inl ⟨t.2 (Nat.le_refl _), q σ' I' H' (st1.trans st) s'⟩
/-- nothing raised -/
theorem forRun_nb {f : D → Env → Option Out} (hf : ∀ x ρ k d, f x ρ = some (.rt k d) → k ≠ .bo) : ∀ (xs : List D) (ρ : Env) (k : Kd) (d : D), forRun f xs ρ = some (.rt k d) → k ≠ .bo
  | [], ρ, k, d, h => by simp only [forRun] at h; cases h
  | x :: xs, ρ, k, d, h => by
    simp only [forRun] at h
    split at h
    · exact forRun_nb hf xs _ k d h
    · exact forRun_nb hf xs _ k d h
    · cases h
    · rename_i k' d' e
      cases h
      exact hf _ _ _ _ e
    · cases h
theorem whlRun_nb {c : Env → Option Bool} {f : Env → Option Out} (hf : ∀ ρ k d, f ρ = some (.rt k d) → k ≠ .bo) : ∀ (n : Nat) (ρ : Env) (k : Kd) (d : D), whlRun c f n ρ = some (.rt k d) → k ≠ .bo
  | 0, ρ, k, d, h => by simp only [whlRun] at h; cases h
  | n + 1, ρ, k, d, h => by
    simp only [whlRun] at h
    split at h
    · cases h
    · cases h
    · split at h
      · exact whlRun_nb hf n _ k d h
      · exact whlRun_nb hf n _ k d h
      · cases h
      · rename_i k' d' e
        cases h
        exact hf _ _ _ e
      · cases h
theorem okL_mem : ∀ (es : List IE), okL es = true → ∀ e ∈ es, okE e = true
  | [], _, e, m => nomatch m
  | e0 :: es, h, e, m => by
    simp only [okL, Bool.and_eq_true] at h
    rcases List.mem_cons.mp m with z | z
    · rw [z]; exact h.1
    · exact okL_mem es h.2 e z
mutual
theorem noX_nb : ∀ (s : IS), noX s = true → ∀ (ρ : Env) (k : Kd) (d : D), evS cl s ρ = some (.rt k d) → k ≠ .bo
  | .set g e, _, ρ, k, d, h => by
    rw [evS] at h
    split at h
    · cases h
    · split at h <;> cases h
  | .setix i a b, _, ρ, k, d, h => by
    rw [evS] at h
    split at h
    · cases h
    · split at h
      · cases h
      · split at h
        · cases h
        · split at h
          · cases h
          · split at h <;> cases h
  | .ms m i es, _, ρ, k, d, h => by
    rw [evS] at h
    split at h
    · cases h
    · split at h
      · cases h
      · split at h <;> cases h
  | .msv g i, _, ρ, k, d, h => by
    rw [evS] at h
    split at h
    · cases h
    · split at h
      · cases h
      · split at h <;> cases h
  | .frz i, _, ρ, k, d, h => by
    rw [evS] at h
    split at h <;> cases h
  | .ite c a b, z, ρ, k, d, h => by
    simp only [noX, Bool.and_eq_true] at z
    rw [evS] at h
    split at h
    · cases h
    · exact noXs_nb a z.1 _ _ _ h
    · exact noXs_nb b z.2 _ _ _ h
  | .for_ g kk src body, z, ρ, k, d, h => by
    simp only [noX] at z
    rw [evS] at h
    split at h
    · cases h
    · split at h
      · cases h
      · refine forRun_nb (fun x ρ1 k d e => ?_) _ _ _ _ h
        split at e
        · cases e
        · exact noXs_nb body z _ _ _ e
  | .forq g i c e, _, ρ, k, d, h => by
    rw [evS] at h
    split at h
    · split at h
      · cases h
      · refine forRun_nb (fun x ρ1 k d e => ?_) _ _ _ _ h
        split at e
        · cases e
        · split at e
          · cases e
          · split at e
            · cases e
            · cases e
              intro z
              cases z
            · cases e
              intro z
              cases z
          · cases e
    · cases h
  | .whl c body, z, ρ, k, d, h => by
    simp only [noX] at z
    rw [evS] at h
    exact whlRun_nb (fun ρ1 k d e => noXs_nb body z _ _ _ e) _ _ _ _ h
  | .ret e, _, ρ, k, d, h => by
    rw [evS] at h
    split at h
    · cases h
    · cases h
      intro z
      cases z
    · cases h
      intro z
      cases z
  | .retn, _, ρ, k, d, h => by
    rw [evS] at h
    cases h
    intro z
    cases z
  | .brk, _, ρ, k, d, h => by rw [evS] at h; cases h
  | .cnt, _, ρ, k, d, h => by rw [evS] at h; cases h
  | .pass, _, ρ, k, d, h => by rw [evS] at h; cases h
  | .expr e, _, ρ, k, d, h => by
    rw [evS] at h
    split at h <;> cases h
  | .raise c, z, ρ, k, d, h => by simp only [noX] at z; cases z
  | .xcall f es, z, ρ, k, d, h => by simp only [noX] at z; cases z
  | .tryx body rz t v en, z, ρ, k, d, h => by simp only [noX] at z; cases z
  | .raisev c e, z, ρ, k, d, h => by simp only [noX] at z; cases z
  | .tryat body c v en, z, ρ, k, d, h => by simp only [noX] at z; cases z
  | .stuck, _, ρ, k, d, h => by rw [evS] at h; cases h
  | .setx g e, z, ρ, k, d, h => by simp only [noX] at z; cases z
  | .itex c a b, z, ρ, k, d, h => by simp only [noX] at z; cases z
  | .retx e, z, ρ, k, d, h => by simp only [noX] at z; cases z
  | .rett js e, z, ρ, k, d, h => by simp only [noX] at z; cases z
  | .exprx e, z, ρ, k, d, h => by simp only [noX] at z; cases z
  | .fset cs i x e, _, ρ, k, d, h => by
    rw [evS] at h
    split at h
    · cases h
    · split at h
      · cases h
      · split at h <;> cases h
  | .msf cs m i x es, _, ρ, k, d, h => by
    rw [evS] at h
    split at h
    · cases h
    · split at h
      · cases h
      · split at h <;> cases h
  | .setl is e, _, ρ, k, d, h => by
    rw [evS] at h
    split at h
    · split at h <;> cases h
    · split at h <;> cases h
    · cases h
  | .msvi g i e, _, ρ, k, d, h => by
    rw [evS] at h
    split at h
    · cases h
    · split at h
      · split at h
        · cases h
        · split at h <;> cases h
      · cases h
  | .mspop i j e, _, ρ, k, d, h => by
    rw [evS] at h
    split at h
    · cases h
    · split at h
      · split at h
        · cases h
        · split at h
          · cases h
          · split at h <;> cases h
      · cases h
  | .retw js es, _, ρ, k, d, h => by
    rw [evS] at h
    split at h
    · cases h
    · split at h
      · cases h
        intro z
        cases z
      · cases h
  | .lendq i c b, _, ρ, k, d, h => by
    rw [evS] at h
    split at h
    · cases h
    · split at h
      · cases h
      · cases h
        intro z
        cases z
      · cases h
  | .lends kk i e, _, ρ, k, d, h => by
    rw [evS] at h
    split at h
    · cases h
    · split at h
      · cases h
      · split at h
        · split at h <;> cases h
        · cases h
  | .msk m i j es, _, ρ, k, d, h => by
    rw [evS] at h
    split at h
    · split at h
      · split at h
        · cases h
        · split at h
          · cases h
          · split at h <;> cases h
      · cases h
    · cases h
theorem noXs_nb : ∀ (ss : List IS), noXs ss = true → ∀ (ρ : Env) (k : Kd) (d : D), evSs cl ss ρ = some (.rt k d) → k ≠ .bo
  | [], _, ρ, k, d, h => by rw [evSs] at h; cases h
  | s :: ss, z, ρ, k, d, h => by
    simp only [noXs, Bool.and_eq_true] at z
    rw [evSs] at h
    split at h
    · exact noXs_nb ss z.2 _ _ _ h
    · exact noX_nb s z.1 _ _ _ h
end
/-- over a dict -/
theorem forKeys {g : Tg} {e : IE} {tb : TS} {fb : Env → Option Out} (hp : keysPath [e] = true) (np : ∀ i ∈ tgS g, ∀ p, (i, p) ∉ B.pins) (hb : EvOkS K B W tb fb) {σ : List (Option V)} {I H : Hp} {ρ : Env} {d : D} {xs : List D} {out : Out} {D : Ends}
    (s : Sta K B I H σ ρ) (e0 : evE cl e ρ = some (.fz, d)) (e1 : srcD .keys [d] = some xs) (e2 : forRun (fun x ρ1 => match setTg g x ρ1 with | none => none | some ρ2 => fb ρ2) xs ρ = some out) (q : Sat K B W D I H out) (nb : ∀ k d, out = .rt k d → k ≠ .bo) :
    tLock (tFor (iKeys (rdE K sp e)) (rdG K g) tb) D σ H ∨ tFor (iKeys (rdE K sp e)) (rdG K g) tb D σ H := by
  have hd := isDct_of (k := .fz) e1
  obtain ⟨a, u, ia, du, ra, pe⟩ := path_ok (sp := sp) hp s e0 hd
  have go : ∀ (H1 : Hp) (od : Obj) (D1 : Ends), (∀ b o, b ≠ a → H b = some o → H1 b = some o) → H1 a = some (.frz od u) → Sta K B I H1 σ ρ → Sat K B W D1 I H1 out → tFor (iKeys (rdE K sp e)) (rdG K g) tb D1 σ H1 := fun H1 od D1 hk h1 s1 q1 => by
    refine for_at (fun R' r' => ?_) np hb s1 e2 q1
    refine pe H1 _ hk ?_
    cases d with
    | dk ks ws =>
      simp only [srcD] at e1
      cases e1
      have ra' := ra
      simp only [Rep] at ra'
      obtain ⟨a', zs, e3, i3, r3, l3, z3, k3⟩ := ra'
      cases e3
      rw [ia] at i3
      cases i3
      exact ⟨a, od, rfl, .inl ⟨_, h1, r' _ I H1 (Ext.refl s1.su) (src_keysK l3 ia k3 h1) (by rw [List.length_map]; exact z3)⟩⟩
    | dt ks ws =>
      simp only [srcD] at e1
      cases e1
      have ra' := ra
      simp only [Rep] at ra'
      obtain ⟨a', zs, e3, i3, r3, l3, z3, k3⟩ := ra'
      cases e3
      rw [ia] at i3
      cases i3
      exact ⟨a, od, rfl, .inr ⟨_, h1, r' _ I H1 (Ext.refl s1.su) (src_keysT l3 ia k3 h1) (by rw [List.length_map]; exact z3)⟩⟩
    | _ => cases hd
  rcases s.su a u ia with h1 | ⟨_, od, h1⟩
  · refine .inl ⟨a, u, h1, (by cases u <;> first | trivial | (cases du)), fun od => ?_⟩
    have ne : ∀ b, b ≠ a → upd H a (.frz od u) b = H b := fun b hb => upd_ne hb
    have s1 : Sta K B I (upd H a (.frz od u)) σ ρ := s.lock ia du
    -- back from the locked heap
    have fzd : ∀ {I' H' : Hp}, Stp B I (upd H a (.frz od u)) I' H' → H' a = some (.frz od u) := fun {I' H'} x => (x.fz a u ia).trans upd_same
    have unS : ∀ {I' H' : Hp}, Stp B I (upd H a (.frz od u)) I' H' → Stp B I H I' (upd H' a u) := fun {I' H'} x => by
      refine ⟨x.ii, fun b o hb => ?_, fun b hb => ?_, fun b o hb ho n => ?_⟩
      · by_cases e5 : b = a
        · rw [e5, upd_same, h1]
        · rw [upd_ne e5, x.fz b o hb, ne b e5]
      · by_cases e5 : b = a
        · rw [e5, upd_same, h1]
        · rw [upd_ne e5, x.bh b hb, ne b e5]
      · by_cases e5 : b = a
        · rw [e5, ia]
          exact x.ii a u ia
        · exact x.bi b o hb (by rw [ne b e5]; exact ho) n
    have unU : ∀ {I' H' : Hp}, Stp B I (upd H a (.frz od u)) I' H' → Sub I' H' → Sub I' (upd H' a u) := fun {I' H'} x su b o hb => by
      by_cases e5 : b = a
      · rw [e5, x.ii a u ia] at hb
        cases hb
        rw [e5]
        exact .inl upd_same
      · rw [upd_ne e5]
        exact su b o hb
    have unT : ∀ {I' H' : Hp} {σ' : List (Option V)} {ρ' : Env}, Stp B I (upd H a (.frz od u)) I' H' → Sta K B I' H' σ' ρ' → Sta K B I' (upd H' a u) σ' ρ' := fun {I' H' σ' ρ'} x s' => by
      exact s'.at_ (x.ii a u ia) (unU x s'.su)
    refine go _ od _ (fun b o hb h => by rw [ne b hb]; exact h) upd_same s1 ?_
    cases out with
    | nx ρ' => exact fun σ' I' H' x s' => ⟨fzd x, q σ' I' _ (unS x) (unT x s')⟩
    | bk ρ' => exact fun σ' I' H' x s' => ⟨fzd x, q σ' I' _ (unS x) (unT x s')⟩
    | ct ρ' => exact fun σ' I' H' x s' => ⟨fzd x, q σ' I' _ (unS x) (unT x s')⟩
    | rt k d' =>
      refine ⟨fun nk v I' H' x su r => ⟨fzd x, q.1 nk v I' _ (unS x) (unU x su) ?_⟩, fun z => absurd z (nb k d' rfl)⟩
      have own : Own K I' H' d' v ∧ (∃ p, v = .ref p ∧ ∀ a ∈ foot H' p d', ¬ B a) → Own K I' (upd H' a u) d' v ∧ (∃ p, v = .ref p ∧ ∀ b ∈ foot (upd H' a u) p d', ¬ B b) := fun r => by
        obtain ⟨⟨p, rfl, h3, h4⟩, p', e6, h5⟩ := r
        cases e6
        obtain ⟨k1, k2⟩ := h4.off (u' := u) h3 (x.ii a u ia)
        exact ⟨⟨p, rfl, h3, k1⟩, p, rfl, by rw [k2]; exact h5⟩
      cases k with
      | fz => exact r
      | ow => exact own r
      | bo => exact own r
  · exact .inr (go H od D (fun b o _ h => h) h1 s q)
/-! ### a loop that only tests and returns, over a list of one's own -/
theorem wipe_get {σ : List (Option V)} {i : Nat} : ∀ {ws : List Nat}, i ∉ ws → (wipe σ ws)[i]? = σ[i]?
  | [], _ => rfl
  | v :: vs, h => by
    show ((wipe σ vs).set v none)[i]? = _
    rw [List.getElem?_set_ne (fun e => h (by rw [← e]; exact List.mem_cons_self)), wipe_get fun m => h (List.mem_cons_of_mem _ m)]
theorem setMany_get {i : Nat} : ∀ {is : List Nat} {ds : List D} {ρ ρ' : Env}, setMany is ds ρ = some ρ' → i ∉ is → ρ'[i]? = ρ[i]?
  | [], [], _, _, h, _ => by
    simp only [setMany] at h
    cases h
    rfl
  | [], _ :: _, _, _, h, _ => by simp only [setMany] at h; cases h
  | _ :: _, [], _, _, h, _ => by simp only [setMany] at h; cases h
  | j :: is, d :: ds, ρ, ρ', h, n => by
    simp only [setMany] at h
    split at h
    · rw [setMany_get h fun m => n (List.mem_cons_of_mem _ m), List.getElem?_set_ne fun e => n (by rw [← e]; exact List.mem_cons_self)]
    · cases h
theorem setTg_get {g : Tg} {d : D} {ρ ρ' : Env} {i : Nat} (h : setTg g d ρ = some ρ') (n : i ∉ tgS g) : ρ'[i]? = ρ[i]? := by
  cases g with
  | nm j =>
    simp only [setTg] at h
    split at h
    · cases h
      exact List.getElem?_set_ne fun e => n (by rw [← e]; exact List.mem_cons_self)
    · cases h
  | tp is =>
    cases d with
    | tup ds => exact setMany_get h n
    | _ => simp only [setTg] at h; cases h
theorem forq_ok {g : Tg} {i : Nat} {c e : IE} {tc : TT} {te : TE} (np : ∀ i ∈ tgS g, ∀ p, (i, p) ∉ B.pins) (hT : EvOkT K B tc (fun ρ => onT (evE cl c ρ))) (hE : EvOk K B te (evE cl e)) :
    EvOkS K B W (tFor (iList K (tVar i)) (rdG K g) (tSeq (tIfS tc (tSeq (tRet te) tNext) tNext) tNext)) (evS cl (.forq g i c e)) := by
  intro σ I H ρ out D s h q
  rw [evS] at h
  split at h
  · rename_i xs e0
    split at h
    · cases h
    · rename_i hg
      have ng : i ∉ tgS g := fun m => hg (by simpa using m)
      have hi := ownAt_some e0
      obtain ⟨p, hp, hI, hc, nb⟩ := s.sl.ow i _ hi
      obtain ⟨vs, hv, rv, zv⟩ := id hc
      refine ⟨_, hp, p, rfl, ⟨vs, .inl (.inl hv)⟩, ?_⟩
      refine ⟨fun n m σ' H' => m = xs.length - n ∧ n ≤ xs.length ∧ σ'[i]? = σ[i]? ∧ ∃ (I' : Hp) (ρ' : Env), ρ'[i]? = ρ[i]? ∧ Stp B I H I' H' ∧ Sta K B I' H' σ' ρ' ∧ forRun (fun x ρ1 => match setTg g x ρ1 with
        | none => none
        | some ρ2 => match onT (evE cl c ρ2) with
          | none => none
          | some true => (match evE cl e ρ2 with
            | none => none
            | some (.fz, d) => some (.rt .fz d)
            | some (_, d) => some (.rt .ow d))
          | some false => some (.nx ρ2)) (xs.drop n) ρ' = some out,
        ⟨xs.length, by omega, Nat.zero_le _, rfl, I, ρ, rfl, Stp.refl, s, h⟩, ?_⟩
      rintro n m σ' H' ⟨rfl, hn, es, I', ρ', er0, st, s', er⟩
      obtain ⟨p', hp', hI', hc', nb'⟩ := s'.sl.ow i _ (er0.trans hi)
      have : p' = p := by
        rw [es, hp] at hp'
        exact (V.ref.inj (Option.some.inj (Option.some.inj hp'))).symm
      subst this
      obtain ⟨ws, hw, rw', zw⟩ := id hc'
      by_cases hlt : n < xs.length
      · obtain ⟨y, hy, ry⟩ := rw'.get (List.getElem?_eq_getElem hlt)
        refine .inr ⟨⟨ws, y, .inl (.inl hw), hy⟩, fun σ2 H2 => σ2[i]? = σ[i]? ∧ ∃ (I2 : Hp) (ρ2 : Env), ρ2[i]? = ρ[i]? ∧ Stp B I H I2 H2 ∧ Sta K B I2 H2 σ2 ρ2 ∧ forRun _ (xs.drop (n + 1)) ρ2 = some out,
          fun σ2 H2 z => ⟨xs.length - (n + 1), by omega, rfl, hlt, z⟩, fun x H2 hyl => ?_⟩
        obtain ⟨rfl, hyl⟩ := hyl
        have : y = x := Option.some.inj (hy.symm.trans (hyl ws (.inl (.inl hw))))
        subst this
        rw [List.drop_eq_getElem_cons hlt] at er
        simp only [forRun] at er
        cases et : setTg g xs[n] ρ' with
        | none => rw [et] at er; cases er
        | some ρ2 =>
          simp only [et] at er
          refine tg_ok et np s' ry fun σ3 s3 w3 => ?_
          have e3 : σ3[i]? = σ[i]? := by
            rw [← wipe_get (σ := σ3) ng, w3 (tgS g) (fun _ h => h), wipe_get ng, es]
          have r3 : ρ2[i]? = ρ[i]? := (setTg_get et ng).trans er0
          show tc σ3 H2 _
          cases ec : onT (evE cl c ρ2) with
          | none => simp only [ec] at er; cases er
          | some b =>
            simp only [ec] at er
            refine hT σ3 I' H2 ρ2 b _ s3 ec fun I4 H4 x4 => ?_
            cases b with
            | false =>
              rw [if_neg Bool.false_ne_true]
              exact ⟨e3, I4, ρ2, r3, st.trans (s3.stp x4), s3.ext x4, er⟩
            | true =>
              rw [if_pos rfl]
              have s4 := s3.ext x4
              show te σ3 H4 _
              cases ee : evE cl e ρ2 with
              | none => simp only [ee] at er; cases er
              | some r =>
                obtain ⟨k, d⟩ := r
                simp only [ee] at er
                refine hE σ3 I4 H4 ρ2 k d _ s4 ee fun v I5 H5 x5 r5 => ?_
                have st5 := st.trans ((s3.stp x4).trans (s4.stp x5))
                cases k with
                | fz =>
                  cases er
                  exact q.1 (by intro z; cases z) v I5 H5 st5 x5.su r5
                | ow =>
                  cases er
                  obtain ⟨h1, p5, rfl, h0⟩ := r5
                  refine q.1 (by intro z; cases z) _ I5 H5 st5 x5.su ⟨h1, p5, rfl, fun a m hb => ?_⟩
                  obtain ⟨o, ho⟩ := s4.ba a hb
                  rw [h0 a m] at ho
                  cases ho
                | bo =>
                  cases er
                  exact q.1 (by intro z; cases z) v I5 H5 st5 x5.su r5
      · have hi' : n = xs.length := by omega
        subst hi'
        rw [List.drop_length] at er
        simp only [forRun] at er
        cases er
        exact .inl ⟨⟨ws, .inl (.inl hw), by rw [rw'.len]; exact Nat.le_refl _⟩, q σ' I' H' st s'⟩
  · cases h
mutual
theorem sndS (hc : CallOk K cl sp) : ∀ (W : Str → Hp → Prop) (s : IS), okS1 s = true → pinS (B.pins.map (·.1)) s = true → EvOkS K B W (rdS K sp W s) (evS cl s)
  | W, .set g e, h, hp => by
    simp only [okS1] at h
    simp only [rdS]
    intro σ I H ρ out D s h' q
    rw [evS] at h'
    split at h'
    · cases h'
    · rename_i r e1
      split at h'
      · cases h'
      · rename_i ρ' e2
        cases h'
        obtain ⟨k, d⟩ := r
        simp only [pinS] at hp
        exact snd hc e h σ I H ρ k d _ s e1 fun v I' H' x r => setR_ok s (npin hp) e2 x r fun σ' s' => q σ' I' H' (s.stp x) s'
  | W, .setix i k v, h, hp => by
    simp only [okS1, Bool.and_eq_true] at h
    simp only [rdS]
    exact setix_ok (snd hc k h.1) (snd hc v h.2)
  | W, .ms m i es, h, hp => by
    simp only [okS1, Bool.and_eq_true] at h
    simp only [rdS]
    exact ms_ok h.2 (sndF hc es h.1)
  | W, .msv g i, h, hp => by
    simp only [rdS]
    simp only [pinS] at hp
    exact msv_ok (npin hp)
  | W, .frz i, _, hp => by
    simp only [rdS]
    intro σ I H ρ out D s h' q
    rw [evS] at h'
    split at h'
    · rename_i k d e1
      cases h'
      cases k with
      | fz =>
        have : ρ.set i (some (.fz, d)) = ρ := by
          apply List.ext_getElem?
          intro j
          by_cases c : i = j
          · subst c
            rw [List.getElem?_set_self (List.getElem?_eq_some_iff.mp e1).1, e1]
          · rw [List.getElem?_set_ne c]
        rw [this] at q
        exact q σ I H Stp.refl s
      | ow =>
        simp only [pinS] at hp
        obtain ⟨I', st, s'⟩ := s.frz e1 (fun p m => npin (is := [i]) (by simpa using hp) i List.mem_cons_self p m)
        exact q σ I' H st s'
      | bo => exact absurd e1 (s.sl.bo i d)
    · cases h'
      exact q σ I H Stp.refl s
  | W, .ite c a b, h, hp => by
    simp only [okS1, Bool.and_eq_true] at h
    simp only [pinS, Bool.and_eq_true] at hp
    simp only [rdS]
    intro σ I H ρ out D s h' q
    rw [evS] at h'
    split at h'
    · cases h'
    · rename_i e1
      refine sndT hc c h.1.1 σ I H ρ true _ s e1 fun I' H' x => ?_
      rw [if_pos rfl]
      exact sndSs hc W a h.1.2 hp.1 σ I' H' ρ out D (s.ext x) h' (q.step (s.stp x))
    · rename_i e1
      refine sndT hc c h.1.1 σ I H ρ false _ s e1 fun I' H' x => ?_
      rw [if_neg Bool.false_ne_true]
      exact sndSs hc W b h.2 hp.2 σ I' H' ρ out D (s.ext x) h' (q.step (s.stp x))
  | W, .for_ g k src body, h, hp => by
    simp only [okS1, Bool.and_eq_true] at h
    obtain ⟨⟨h2, h3⟩, h4⟩ := h
    simp only [pinS, Bool.and_eq_true] at hp
    have hB : EvOkS K B W (rdSs K sp W body) (evSs cl body) := sndSs hc W body h3 hp.2
    intro σ I H ρ out D s h' q
    rw [evS] at h'
    split at h'
    · cases h'
    · rename_i ds e1
      split at h'
      · cases h'
      · rename_i xs e2
        have plain : k ≠ .keys → tFor (rdSrc K k (rdL K sp src) (rdA K sp src)) (rdG K g) (rdSs K sp W body) D σ H := fun hk => by
          refine for_at (fun R r => ?_) (npin hp.1) hB s h' q
          refine src_any (fr := True) (k := k) hk (sndF hc src h2).s1 (fun ρ ds h => evF_len h) (fun e he => ?_) σ I H ρ xs R s ?_ r
          · subst he
            exact ⟨_, (sndL hc [e] h2 e List.mem_cons_self).s1, fun ρ => evF_one⟩
          · show (evF cl src ρ).bind (srcD k) = some xs
            rw [e1]
            exact e2
        cases k with
        | keys =>
          simp only [bne_self_eq_false, Bool.false_or, Bool.and_eq_true] at h4
          have nb : ∀ k d, out = .rt k d → k ≠ .bo := fun k d eo => by
            subst eo
            refine forRun_nb (fun x ρ1 k d e => ?_) _ _ _ _ h'
            split at e
            · cases e
            · exact noXs_nb body h4.2 _ _ _ e
          replace h4 := h4.1
          match src, h4, h2, e1 with
          | [e], h4, h2, e1 =>
            rw [evF_one] at e1
            cases e5 : evE cl e ρ with
            | none => rw [e5] at e1; cases e1
            | some r =>
              obtain ⟨k0, d0⟩ := r
              have k1 : k0 = .fz := by
                rw [e5] at e1
                have kp : ∀ e : IE, keysPath [e] = true → ∀ r, evE cl e ρ = some r → r.1 = .fz ∨ r.1 = .bo := fun e hp r he => by
                  cases e with
                  | var i =>
                    simp only [evE] at he
                    split at he
                    · cases he; exact .inl rfl
                    · cases he; exact .inr rfl
                    · cases he
                  | ix a b =>
                    rw [evE] at he
                    split at he
                    · cases he
                    · split at he
                      · cases he
                      · split at he
                        · cases he
                        · cases he; exact .inl rfl
                  | _ => simp only [keysPath] at hp; cases hp
                rcases kp e h4 _ e5 with z | z
                · exact z
                · have z : k0 = .bo := z
                  subst z
                  cases e1
              subst k1
              rw [e5] at e1
              cases e1
              simp only [rdS, rdL, rdSrc]
              exact forKeys h4 (npin hp.1) hB s e5 e2 h' q nb
          | [], h4, _, _ => simp only [keysPath] at h4; cases h4
          | _ :: _ :: _, h4, _, _ => simp only [keysPath] at h4; cases h4
        | seq => simp only [rdS]; exact plain (by intro h; injection h)
        | rng => simp only [rdS]; exact plain (by intro h; injection h)
        | enum => simp only [rdS]; exact plain (by intro h; injection h)
        | zip => simp only [rdS]; exact plain (by intro h; injection h)
        | rev => simp only [rdS]; exact plain (by intro h; injection h)
  | W, .forq g i c e, h, hp => by
    simp only [okS1, Bool.and_eq_true] at h
    simp only [rdS]
    simp only [pinS] at hp
    exact forq_ok (npin hp) (sndT hc c h.1) (snd hc e h.2)
  | W, .whl c body, h, hp => by
    simp only [okS1, Bool.and_eq_true] at h
    simp only [rdS]
    have hC := sndT (B := B) hc c h.1
    simp only [pinS] at hp
    have hB : EvOkS K B W (rdSs K sp W body) (evSs cl body) := sndSs hc W body h.2 hp
    intro σ I H ρ out D s h' q
    rw [evS] at h'
    refine ⟨fun m σ' H' => ∃ (I' : Hp) (ρ' : Env), Stp B I H I' H' ∧ Sta K B I' H' σ' ρ' ∧ whlRun (fun ρ1 => onT (evE cl c ρ1)) (fun ρ1 => evSs cl body ρ1) m ρ' = some out, ⟨WHL, I, ρ, Stp.refl, s, h'⟩, ?_⟩
    rintro m σ1 H1 ⟨I1, ρ1, st, s1, e1⟩
    cases m with
    | zero => simp only [whlRun] at e1; cases e1
    | succ n =>
      simp only [whlRun] at e1
      split at e1
      · cases e1
      · rename_i e2
        cases e1
        refine hC σ1 I1 H1 ρ1 false _ s1 e2 fun I' H' x => ?_
        rw [if_neg Bool.false_ne_true]
        exact q σ1 I' H' (st.trans (s1.stp x)) (s1.ext x)
      · rename_i e2
        refine hC σ1 I1 H1 ρ1 true _ s1 e2 fun I' H' x => ?_
        rw [if_pos rfl]
        have st' := st.trans (s1.stp x)
        refine ⟨fun σ' H' => ∃ (I' : Hp) (ρ' : Env), Stp B I H I' H' ∧ Sta K B I' H' σ' ρ' ∧ whlRun (fun ρ1 => onT (evE cl c ρ1)) (fun ρ1 => evSs cl body ρ1) n ρ' = some out, fun σ' H' w => ⟨n, Nat.lt_succ_self _, w⟩, ?_⟩
        cases e3 : evSs cl body ρ1 with
        | none => rw [e3] at e1; cases e1
        | some o1 =>
          rw [e3] at e1
          refine hB σ1 I' H' ρ1 o1 _ (s1.ext x) e3 ?_
          cases o1 with
          | nx ρ4 => exact fun σ4 I4 H4 y4 s4 => ⟨I4, ρ4, st'.trans y4, s4, e1⟩
          | ct ρ4 => exact fun σ4 I4 H4 y4 s4 => ⟨I4, ρ4, st'.trans y4, s4, e1⟩
          | bk ρ4 =>
            cases e1
            exact fun σ4 I4 H4 y4 s4 => q σ4 I4 H4 (st'.trans y4) s4
          | rt k d =>
            cases e1
            exact Sat.step q st'
  | W, .ret e, h, hp => by
    simp only [okS1] at h
    simp only [rdS]
    intro σ I H ρ out D s h' q
    rw [evS] at h'
    split at h'
    · cases h'
    · rename_i d e1
      cases h'
      exact snd hc e h σ I H ρ _ _ _ s e1 fun v I' H' x r => q.1 (by intro z; cases z) v I' H' (s.stp x) x.su r
    · rename_i k d hk e1
      cases h'
      refine snd hc e h σ I H ρ _ _ _ s e1 fun v I' H' x r => q.1 (by intro z; cases z) v I' H' (s.stp x) x.su ?_
      cases k with
      | fz => exact absurd rfl hk
      | ow =>
        obtain ⟨h1, p, rfl, h0⟩ := r
        refine ⟨h1, p, rfl, fun a m hb => ?_⟩
        obtain ⟨o, ho⟩ := s.ba a hb
        rw [h0 a m] at ho
        cases ho
      | bo => exact r
  | W, .retn, _, hp => by
    simp only [rdS]
    intro σ I H ρ out D s h' q
    rw [evS] at h'
    cases h'
    have rn : Rep K I .non V.non := rep_non
    exact q.1 (by intro z; cases z) .non I H Stp.refl s.su rn
  | W, .brk, _, hp => by
    simp only [rdS]
    intro σ I H ρ out D s h' q
    rw [evS] at h'
    cases h'
    exact q σ I H Stp.refl s
  | W, .cnt, _, hp => by
    simp only [rdS]
    intro σ I H ρ out D s h' q
    rw [evS] at h'
    cases h'
    exact q σ I H Stp.refl s
  | W, .pass, _, hp => by
    simp only [rdS]
    intro σ I H ρ out D s h' q
    rw [evS] at h'
    cases h'
    exact q σ I H Stp.refl s
  | W, .expr e, h, hp => by
    simp only [okS1] at h
    simp only [rdS]
    intro σ I H ρ out D s h' q
    rw [evS] at h'
    split at h'
    · cases h'
    · rename_i r e1
      cases h'
      exact snd hc e h σ I H ρ r.1 r.2 _ s e1 fun v I' H' x _ => q σ I' H' (s.stp x) (s.ext x)
  | W, .raise c, _, hp => by
    simp only [rdS]
    intro σ I H ρ out D s h' q
    rw [evS] at h'
    cases h'
    exact (q.2 rfl).1 c rfl I H Stp.refl s.su
  | W, .xcall f es, h, hp => by
    simp only [okS1] at h
    simp only [rdS]
    intro σ I H ρ out D s h' q
    rw [evS] at h'
    split at h'
    · cases h'
    · rename_i ds e1
      refine sndF hc es h σ I H ρ ds _ s e1 fun vs I' H' x r => ?_
      rw [List.append_nil]
      split at h'
      · cases h'
      · rename_i c e2
        cases h'
        exact hc.fz f ds _ _ e2 (fun _ => ⟨c, rfl⟩) B vs I' H' _ _ x.su r (fun z => absurd rfl z) fun _ c' ec I2 H2 y cls d' ea => by
          cases ec
          exact ⟨c, ea, (q.2 rfl).1 c rfl I2 H2 ((s.stp x).trans ((s.ext x).stp y)) y.su⟩
      · cases h'
      · rename_i r' nb1 nb2 e2
        cases h'
        obtain ⟨k, d⟩ := r'
        have nk : k ≠ .bo := fun z => nb2 d (by rw [z])
        exact hc.fz f ds k d e2 (fun z => absurd z nk) B vs I' H' _ _ x.su r (fun _ v I2 H2 y g => q σ I2 H2 ((s.stp x).trans ((s.ext x).stp y)) ((s.ext x).ext y)) fun z => absurd z nk
  | W, .tryx body rz t v en, h, hp => by
    simp only [okS1] at h
    simp only [pinS, Bool.and_eq_true, List.isEmpty_iff] at hp
    obtain ⟨hp, hq⟩ := hp
    have np : ∀ x, x ∉ B.pins := fun x m => by
      have : x.1 ∈ B.pins.map (·.1) := List.mem_map.mpr ⟨x, m, rfl⟩
      rw [hp] at this
      cases this
    have hp' : pinSs (B.pins.map (·.1)) body = true := hq
    simp only [rdS]
    intro σ I H ρ out D s h' q
    rw [evS] at h'
    split at h'
    · rename_i ρ' e1
      cases h'
      exact sndSs hc (WT K rz t v D σ) body h hp' σ I H ρ (.nx ρ') D s e1 q
    · rename_i c e1
      split at h'
      · rename_i hz
        cases h'
        refine sndSs hc (WT K rz t v D σ) body h hp' σ I H ρ _ D s e1 ⟨fun z => absurd rfl z, fun _ => ⟨fun c' ec I' H' st su => ?_, fun _ _ _ z => nomatch z⟩⟩
        cases ec
        refine ⟨hz.1, hz.2.1, fun a cls d σ' ea ha hl hv => ?_⟩
        obtain ⟨I1, y, e1'⟩ := exAs_frz su ea
        have na : I1 a = none := y.su.fresh ha
        have x1 : Ext I1 H' (upd I1 a (ExHD cls d a)) (upd H' a (ExHD cls d a)) := Ext.newF y.su ha
        have x : Ext I' H' (upd I1 a (ExHD cls d a)) (upd H' a (ExHD cls d a)) := y.trans x1
        have hL : ((List.replicate ρ.length (none : Option (Kd × R.D))).set v (some (.fz, .exc c))).length = ρ.length := by rw [List.length_set, List.length_replicate]
        have get : ∀ (i : Nat) (r : Kd × R.D), ((List.replicate ρ.length (none : Option (Kd × R.D))).set v (some (.fz, .exc c)))[i]? = some (some r) → i = v ∧ r = (.fz, .exc c) := fun i r e => by
          by_cases q : v = i
          · subst q
            rw [List.getElem?_set_self (by rw [List.length_replicate]; exact hz.2.2.1)] at e
            cases e
            exact ⟨rfl, rfl⟩
          · rw [List.getElem?_set_ne q, List.getElem?_replicate] at e
            split at e <;> cases e
        refine q σ' _ _ (st.trans (x.stp su fun b hb => ?_)) ⟨x.su, fun b hb => ?_, fun j p m => absurd m (np _), ⟨by rw [hl, hL]; exact s.sl.len, fun i d e => ?_, fun i d e => ?_, fun i d e => ?_, fun i j d e p p' _ e1 => ?_⟩⟩
        · obtain ⟨o, ho⟩ := s.ba b hb
          exact ⟨o, by rw [st.bh b hb]; exact ho⟩
        · obtain ⟨o, ho⟩ := s.ba b hb
          exact ⟨o, x.hh b o (by rw [st.bh b hb]; exact ho)⟩
        · obtain ⟨rfl, er⟩ := get i _ e
          cases er
          refine ⟨.ref a, hv, ?_⟩
          simp only [Rep]
          exact ⟨a, cls, d, rfl, e1'.mono x1.ii, upd_same⟩
        · cases (get i _ e).2
        · cases (get i _ e).2
        · cases (get i _ e1).2
      · cases h'
    · cases h'
  | W, .raisev c e, h, hp => by
    simp only [okS1] at h
    simp only [rdS]
    intro σ I H ρ out D s h' q
    rw [evS] at h'
    split at h'
    · rename_i n e1
      split at h'
      · rename_i hn
        cases h'
        refine snd hc e h σ I H ρ _ _ _ s e1 fun v I1 H1 x r => ⟨v, rfl, fun d hd => ?_⟩
        have ev : v = .int n := by simpa only [RK, Rep] using r
        have ev' : v = .int (n.toNat : Nat) := by rw [ev, Int.toNat_of_nonneg hn]
        have y : Ext I1 H1 (upd I1 d (.xd [(("at" : Str), v)])) (upd H1 d (.xd [(("at" : Str), v)])) := Ext.newF x.su hd
        exact ⟨excN c n.toNat, .inr ⟨n.toNat, d, excP_N c _, by rw [excC_N], rfl, by rw [upd_same, ev']⟩, (q.2 rfl).1 _ rfl _ _ ((s.stp x).trans ((s.ext x).stp y)) y.su⟩
      · cases h'
    · cases h'
  | W, .tryat body c v en, h, hp => by
    simp only [okS1] at h
    simp only [pinS, Bool.and_eq_true, List.isEmpty_iff] at hp
    obtain ⟨hp, hq⟩ := hp
    have np : ∀ x, x ∉ B.pins := fun x m => by
      have : x.1 ∈ B.pins.map (·.1) := List.mem_map.mpr ⟨x, m, rfl⟩
      rw [hp] at this
      cases this
    have hp' : pinSs (B.pins.map (·.1)) body = true := hq
    simp only [rdS]
    intro σ I H ρ out D s h' q
    rw [evS] at h'
    split at h'
    · rename_i ρ' e1
      cases h'
      exact sndSs hc (WA c v D σ) body h hp' σ I H ρ (.nx ρ') D s e1 q
    · rename_i c1 e1
      split at h'
      · rename_i n en1
        split at h'
        · rename_i hz
          cases h'
          refine sndSs hc (WA c v D σ) body h hp' σ I H ρ _ D s e1 ⟨fun z => absurd rfl z, fun _ => ⟨fun c' ec I' H' st su => ?_, fun _ _ _ z => nomatch z⟩⟩
          cases ec
          refine ⟨hz.1, n, en1, fun σ' hl hv => ?_⟩
          have hL : ((List.replicate ρ.length (none : Option (Kd × R.D))).set v (some (.fz, .int n))).length = ρ.length := by rw [List.length_set, List.length_replicate]
          have get : ∀ (i : Nat) (r : Kd × R.D), ((List.replicate ρ.length (none : Option (Kd × R.D))).set v (some (.fz, .int n)))[i]? = some (some r) → i = v ∧ r = (.fz, .int n) := fun i r e => by
            by_cases q : v = i
            · subst q
              rw [List.getElem?_set_self (by rw [List.length_replicate]; exact hz.2.1)] at e
              cases e
              exact ⟨rfl, rfl⟩
            · rw [List.getElem?_set_ne q, List.getElem?_replicate] at e
              split at e <;> cases e
          refine q σ' _ _ st ⟨su, fun b hb => ?_, fun j p m => absurd m (np _), ⟨by rw [hl, hL]; exact s.sl.len, fun i d e => ?_, fun i d e => ?_, fun i d e => ?_, fun i j d e p p' _ e1 => ?_⟩⟩
          · obtain ⟨o, ho⟩ := s.ba b hb
            exact ⟨o, by rw [st.bh b hb]; exact ho⟩
          · obtain ⟨rfl, er⟩ := get i _ e
            cases er
            refine ⟨.int n, hv, ?_⟩
            simp only [Rep]
          · cases (get i _ e).2
          · cases (get i _ e).2
          · cases (get i _ e1).2
        · cases h'
      · cases h'
    · cases h'
  | W, .stuck, _, hp => by
    intro σ I H ρ out D s h' q
    rw [evS] at h'
    cases h'
  | W, .setx g e, h, hp => by
    simp only [okS1] at h
    simp only [pinS] at hp
    simp only [rdS]
    intro σ I H ρ out D s h' q
    rw [evS] at h'
    split at h'
    · cases h'
    · rename_i c e1
      cases h'
      exact sndX hc e h σ I H ρ _ _ s e1 (fun _ _ z => nomatch z) fun c' z I' H' x su => by
        cases z
        exact (q.2 rfl).1 c rfl I' H' x su
    · rename_i d ρ1 e1
      split at h'
      · cases h'
      · rename_i ρ2 e2
        cases h'
        refine sndX hc e h σ I H ρ _ _ s e1 (fun d' ρ' z v I1 H1 x1 s1 r => ?_) fun _ z => nomatch z
        cases z
        exact tg_ok e2 (npin hp) s1 r fun σ' s' _ => q σ' I1 H1 x1 s'
  | W, .itex c a b, h, hp => by
    simp only [okS1, Bool.and_eq_true] at h
    simp only [pinS, Bool.and_eq_true] at hp
    simp only [rdS]
    intro σ I H ρ out D s h' q
    rw [evS] at h'
    split at h'
    · cases h'
    · rename_i x0 e1
      cases h'
      exact sndXT hc c h.1.1 σ I H ρ _ _ s e1 (fun _ _ z => nomatch z) fun c' z I' H' x su => by
        cases z
        exact (q.2 rfl).1 x0 rfl I' H' x su
    · rename_i ρ1 e1
      refine sndXT hc c h.1.1 σ I H ρ _ _ s e1 (fun b' ρ' z I1 H1 x1 s1 => ?_) fun _ z => nomatch z
      cases z
      rw [if_pos rfl]
      exact sndSs hc W a h.1.2 hp.1 σ I1 H1 ρ1 out D s1 h' (q.step x1)
    · rename_i ρ1 e1
      refine sndXT hc c h.1.1 σ I H ρ _ _ s e1 (fun b' ρ' z I1 H1 x1 s1 => ?_) fun _ z => nomatch z
      cases z
      rw [if_neg Bool.false_ne_true]
      exact sndSs hc W b h.2 hp.2 σ I1 H1 ρ1 out D s1 h' (q.step x1)
  | W, .retx e, h, hp => by
    simp only [okS1] at h
    simp only [rdS]
    intro σ I H ρ out D s h' q
    rw [evS] at h'
    split at h'
    · cases h'
    · rename_i c e1
      cases h'
      exact sndX hc e h σ I H ρ _ _ s e1 (fun _ _ z => nomatch z) fun c' z I' H' x su => by
        cases z
        exact (q.2 rfl).1 c rfl I' H' x su
    · rename_i d ρ1 e1
      cases h'
      refine sndX hc e h σ I H ρ _ _ s e1 (fun d' ρ' z v I1 H1 x1 s1 r => ?_) fun _ z => nomatch z
      cases z
      exact q.1 (by intro z; cases z) v I1 H1 x1 s1.su r
  | W, .rett js e, h, hp => by
    simp only [okS1] at h
    simp only [pinS, Bool.and_eq_true, decide_eq_true_eq] at hp
    simp only [rdS]
    intro σ I H ρ out D s h' q
    rw [evS] at h'
    split at h'
    · cases h'
    · cases h'
    · rename_i d ρ1 e1
      split at h'
      · cases h'
      · rename_i ds e2
        cases h'
        refine sndX hc e h σ I H ρ _ _ s e1 (fun d' ρ' z v I1 H1 x1 s1 r => ?_) fun _ z => nomatch z
        cases z
        exact (q.2 rfl).2 js d ds rfl v I1 H1 x1 s1.su r (outsP_of s1 hp.1 (nodupB_iff hp.2) e2)
  | W, .exprx e, h, hp => by
    simp only [okS1] at h
    simp only [rdS]
    intro σ I H ρ out D s h' q
    rw [evS] at h'
    split at h'
    · cases h'
    · rename_i c e1
      cases h'
      exact sndX hc e h σ I H ρ _ _ s e1 (fun _ _ z => nomatch z) fun c' z I' H' x su => by
        cases z
        exact (q.2 rfl).1 c rfl I' H' x su
    · rename_i d ρ1 e1
      cases h'
      refine sndX hc e h σ I H ρ _ _ s e1 (fun d' ρ' z v I1 H1 x1 s1 r => ?_) fun _ z => nomatch z
      cases z
      exact q σ I1 H1 x1 s1
  | W, .fset cs i x e, h, hp => by
    simp only [okS1] at h
    simp only [rdS]
    exact fset_ok (snd hc e h)
  | W, .msf cs m i x es, h, hp => by
    simp only [okS1, Bool.and_eq_true, decide_eq_true_eq] at h
    obtain ⟨⟨h1, rfl⟩, _⟩ := h
    simp only [rdS]
    exact msf_ok (sndF hc es h1)
  | W, .setl is e, h, hp => by
    simp only [okS1] at h
    simp only [pinS] at hp
    simp only [rdS]
    intro σ I H ρ out D s h' q
    have fin : ∀ (k : Kd) (xs : List R.D) (ρ' : Env) (v : V) (I' H' : Hp), setMany is xs ρ = some ρ' → out = .nx ρ' → Ext I H I' H' → See K I' H' (.lst xs) v → gLst K is.length (rdG.rdGs is) v σ H' D.nx := fun k xs ρ' v I' H' e2 eo x r => by
      subst eo
      have s' := s.ext x
      obtain ⟨a, ys, rfl, ha, hr, _⟩ := r.lst s'.su
      exact ⟨a, ys, rfl, .inl (.inl ha), by rw [hr.len]; exact tg_ok.ih2 e2, many_ok e2 (npin hp) s' hr fun σ' s2 _ => q σ' I' H' (s.stp x) s2⟩
    rw [evS] at h'
    split at h'
    · rename_i xs e1
      split at h'
      · cases h'
      · rename_i ρ' e2
        cases h'
        exact snd hc e h σ I H ρ _ _ _ s e1 fun v I' H' x r => fin .fz xs ρ' v I' H' e2 rfl x (.inl r)
    · rename_i xs e1
      split at h'
      · cases h'
      · rename_i ρ' e2
        cases h'
        exact snd hc e h σ I H ρ _ _ _ s e1 fun v I' H' x r => fin .ow xs ρ' v I' H' e2 rfl x (.inr r.1)
    · cases h'
  | W, .msvi g i e, h, hp => by
    simp only [okS1] at h
    simp only [pinS] at hp
    simp only [rdS]
    exact msvi_ok (npin hp) (snd hc e h)
  | W, .retw js es, h, hp => by
    simp only [okS1, okE, Bool.and_eq_true] at h
    simp only [rdS]
    exact retw_ok fun e m => snd hc e (okL_mem es h.1 e m)
  | W, .lendq i c b, h, hp => by
    simp only [okS1] at h
    simp only [rdS]
    exact lendq_ok (sndT hc c h)
  | W, .lends k i e, h, hp => by
    simp only [okS1] at h
    simp only [pinS, Bool.not_eq_true'] at hp
    simp only [rdS]
    exact lends_ok (fun p m => by
      have : (B.pins.map (·.1)).contains k = true := List.contains_iff_mem.mpr (List.mem_map.mpr ⟨(k, p), m, rfl⟩)
      rw [hp] at this
      cases this) (snd hc e h)
  | W, .msk m i j es, h, hp => by
    simp only [okS1, Bool.and_eq_true, decide_eq_true_eq] at h
    obtain ⟨⟨h1, rfl⟩, _⟩ := h
    simp only [rdS]
    exact msk_ok (sndF hc es h1)
  | W, .mspop i j e, h, hp => by
    simp only [okS1] at h
    simp only [rdS]
    exact mspop_ok (snd hc e h)
theorem sndSs (hc : CallOk K cl sp) : ∀ (W : Str → Hp → Prop) (ss : List IS), okSs ss = true → pinSs (B.pins.map (·.1)) ss = true → EvOkS K B W (rdSs K sp W ss) (evSs cl ss)
  | W, [], _, hp => by
    simp only [rdSs]
    intro σ I H ρ out D s h' q
    rw [evSs] at h'
    cases h'
    exact q σ I H Stp.refl s
  | W, s0 :: ss, h, hp => by
    simp only [okSs, Bool.and_eq_true] at h
    simp only [pinSs, Bool.and_eq_true] at hp
    simp only [rdSs]
    intro σ I H ρ out D s h' q
    rw [evSs] at h'
    cases e1 : evS cl s0 ρ with
    | none => rw [e1] at h'; cases h'
    | some o1 =>
      rw [e1] at h'
      refine sndS hc W s0 h.1 hp.1 σ I H ρ o1 _ s e1 ?_
      cases o1 with
      | nx ρ' => exact fun σ' I' H' x s' => sndSs hc W ss h.2 hp.2 σ' I' H' ρ' out D s' h' (q.step x)
      | bk ρ' => cases h'; exact q
      | ct ρ' => cases h'; exact q
      | rt k d => cases h'; exact q
end
end
end R

set_option linter.all false
set_option maxHeartbeats 2000000
/-! A term against the text. -/
namespace R
open PySem L2
/-- classes of refusals: what is raised; what is asked of it; names of classes; what a clause catches -/
structure Xt where
  rzs : List Str := []
  xvs : List Str := []
  xps : List (Str × Str) := []
  xns : List Str := []
  xts : List (Str × Str) := []
  atts : List (Str × Str) := []
  mks : List (Str × Nat) := []
  mts : List (Str × Str × Nat) := []
structure Cc where
  N : List Str
  sc : Scope
  blk : Option Scope
  fns : List (Str × Nat)
  gls : List (Str × D)
  xt : Xt := {}
def fnB (c : Cc) (x : Str) : Bool := match c.blk with
  | none => true
  | some s => s.names.lookup x == some .cell
def visB (c : Cc) (x : Str) : Bool := (match c.sc.names.lookup x with
  | some .local => true
  | some .cell => true
  | some .free => true
  | _ => false) && !(x == ("__debug__" : Str)) && !(x == ("__classdict__" : Str))
def locB (c : Cc) (x : Str) : Bool := match c.sc.names.lookup x with
  | some .local => true
  | some .cell => fnB c x
  | _ => false
def glB (c : Cc) (x : Str) : Bool := (match c.sc.names.lookup x with
  | some .globalImplicit => true
  | _ => false) && !(x == ("__debug__" : Str))
def ixB (c : Cc) (i : Nat) (x : Str) : Bool := decide (c.N[i]? = some x)
def notSlice : Expr → Bool
  | .Slice _ _ _ _ => false
  | _ => true
def notStar : Expr → Bool
  | .Starred _ _ => false
  | _ => true
def notSet : Expr → Bool
  | .Set _ _ _ => false
  | _ => true
def notTuple : Expr → Bool
  | .Tuple _ _ _ => false
  | _ => true
def notLc : Expr → Bool
  | .ListComp _ _ _ _ => false
  | .SetComp _ _ _ _ => false
  | .DictComp _ _ _ _ _ => false
  | _ => true
def opB : BOp → Operator → Bool
  | .add, .Add => true
  | .sub, .Sub => true
  | .mul, .Mult => true
  | .fdiv, .FloorDiv => true
  | .mod, .Mod => true
  | .pow, .Pow => true
  | _, _ => false
def copB : COp → CmpOp → Bool
  | .eq, .Eq => true
  | .ne, .NotEq => true
  | .lt, .Lt => true
  | .le, .LtE => true
  | .gt, .Gt => true
  | .ge, .GtE => true
  | .is, .Is => true
  | .isnt, .IsNot => true
  | .isin, .In => true
  | .notin, .NotIn => true
  | _, _ => false
def biNm : BI → Str
  | .len => "len" | .tuple => "tuple" | .list => "list" | .int => "int" | .str => "str" | .all => "all" | .max => "max" | .min => "min" | .sum => "sum" | .sorted => "sorted" | .dict => "dict" | _ => ""
def biPl : BI → Bool
  | .len => true | .tuple => true | .list => true | .int => true | .str => true | .all => true | .max => true | .min => true | .sum => true | .sorted => true | .dict => true | _ => false
def blkCtx (c : Cc) (scope : Scope) : Cc := { c with sc := relS scope c.sc, blk := some scope }
def ownOf (c : Cc) (g : Tg) : List (Str × Nat) := (tgS g).map fun i => (c.N.getD i Str.empty, i)
def chkNm (c : Cc) (i : Nat) : Expr → Bool
  | .Name x _ => ixB c i x && locB c x
  | _ => false
def chkNms (c : Cc) : List Nat → List Expr → Bool
  | [], [] => true
  | i :: is, e :: es => chkNm c i e && chkNms c is es
  | _, _ => false
def chkG (c : Cc) : Tg → Expr → Bool
  | .nm i, e => chkNm c i e
  | .tp is, .Tuple ts _ _ => chkNms c is ts
  | .tp _, _ => false
def isTup1 : Expr → Bool
  | .Tuple _ _ _ => true
  | _ => false
/-- what an iterable's own parts are -/
def srcArgs (c : Cc) (k : SK) (tg iter : Expr) : Option (List Expr) := match k with
  | .seq => some [iter]
  | .keys => some [iter]
  | .rng => match iter with
    | .Call (.Name x _) args [] _ => if decide (x = "range") && glB c x then some args else none
    | _ => none
  | .enum => match iter with
    | .Call (.Name x _) [y] [] _ => if isTup1 tg && decide (x = "enumerate") && glB c x then some [y] else none
    | _ => none
  | .zip => match iter with
    | .Call (.Name x _) [y, z] [] _ => if isTup1 tg && decide (x = "zip") && glB c x then some [y, z] else none
    | _ => none
  | .rev => none
/-- a class, by its name -/
def chkCl (c : Cc) (d : Str) : Expr → Bool
  | .Name x _ => decide (x = d) && glB c x && decide (d ∈ c.xt.xns)
  | _ => false
def chkCls (c : Cc) : List Str → List Expr → Bool
  | [], [] => true
  | d :: ds, e :: es => chkCl c d e && chkCls c ds es
  | _, _ => false
def xB (c : Cc) (rz cs : List Str) : Bool := !cs.isEmpty && decide (cs.length ≤ LINE) && rz.all fun r => cs.all fun d => decide ((r, d) ∈ c.xt.xps)
/-- what a built-in's own arguments are -/
def biArgs (c : Cc) (b : BI) (x : Str) (args : List Expr) : Option (List Expr) :=
  if glB c x then
    match b with
    | .isBool => match args with
      | [y, .Name t _] => if decide (x = "isinstance") && decide (t = "bool") && glB c t then some [y] else none
      | _ => none
    | .isInt => match args with
      | [y, .Name t _] => if decide (x = "isinstance") && decide (t = "int") && glB c t then some [y] else none
      | _ => none
    | .isStr => match args with
      | [y, .Name t _] => if decide (x = "isinstance") && decide (t = "str") && glB c t then some [y] else none
      | _ => none
    | .isList => match args with
      | [y, .Name t _] => if decide (x = "isinstance") && decide (t = "list") && glB c t then some [y] else none
      | _ => none
    | .isTuple => match args with
      | [y, .Name t _] => if decide (x = "isinstance") && decide (t = "tuple") && glB c t then some [y] else none
      | _ => none
    | .isExc false rz [d] => match args with
      | [y, .Name t p] => if decide (x = "isinstance") && xB c rz [d] && chkCl c d (.Name t p) then some [y] else none
      | _ => none
    | .isExc true rz cs => match args with
      | [y, .Tuple ts _ _] => if decide (x = "isinstance") && xB c rz cs && chkCls c cs ts then some [y] else none
      | _ => none
    | .sortedSet => match args with
      | [.Call (.Name y _) [z] [] _] => if decide (x = "sorted") && decide (y = "set") && glB c y then some [z] else none
      | _ => none
    | .lenset => match args with
      | [.Call (.Name y _) [z] [] _] => if decide (x = "len") && decide (y = "set") && glB c y then some [z] else none
      | _ => none
    | .tupRange => match args with
      | [.Call (.Name y _) zs [] _] => if decide (x = "tuple") && decide (y = "range") && glB c y then some zs else none
      | _ => none
    | .lstRange => match args with
      | [.Call (.Name y _) zs [] _] => if decide (x = "list") && decide (y = "range") && glB c y then some zs else none
      | _ => none
    | b => if biPl b && decide (x = biNm b) then some args else none
  else none
/-- an f-string's holes; its own texts -/
def holes : List (Option Str) → List Expr → Option (List Expr)
  | [], [] => some []
  | some s :: ps, .Constant (.str y) _ _ :: es => if s = y then holes ps es else none
  | none :: ps, .FormattedValue e (-1) none _ :: es => (holes ps es).map (e :: ·)
  | _, _ => none
def notCall0 : Expr → Bool
  | .Call _ [] _ _ => false
  | _ => true
def notCall : Expr → Bool
  | .Call _ _ _ _ => false
  | _ => true
/-- a number, written -/
def litI (d : Int) : Expr → Bool
  | .Constant (.int j) _ _ => decide (d = j)
  | .UnaryOp .USub (.Constant (.int j) _ _) _ => decide (d = -j)
  | _ => false
mutual
def chkE (c : Cc) : IE → Expr → Bool
  | .var i, e => match e with | .Name x _ => ixB c i x && visB c x | _ => false
  | .int i, e => litI i e
  | .bl b, e => match e with | .Constant (.bool b') _ _ => decide (b = b') | _ => false
  | .non, e => match e with | .Constant .none _ _ => true | _ => false
  | .str x, e => match e with | .Constant (.str y) _ _ => decide (x = y) | _ => false
  | .glb x d, e => match e with | .Name y _ => decide (x = y) && glB c x && c.gls.any (fun p => decide (p.1 = x) && decide (vOf p.2 = vOf d)) | _ => false
  | .bin op a b, e => match e with | .BinOp l o r _ => opB op o && chkE c a l && chkE c b r | _ => false
  | .cmp op a b, e => match e with | .Compare l [o] [r] _ => copB op o && notSet r && chkE c a l && chkE c b r | _ => false
  | .chain op op' a b d, e => match e with | .Compare l [o, o'] [r, r'] _ => copB op o && copB op' o' && notSet r && notSet r' && chkE c a l && chkE c b r && chkE c d r' | _ => false
  | .and a b, e => match e with
    | .BoolOp .And (l :: r :: rest) pos => chkE c a l && (match rest with | [] => chkE c b r | _ :: _ => chkE c b (.BoolOp .And (r :: rest) pos))
    | _ => false
  | .or a b, e => match e with
    | .BoolOp .Or (l :: r :: rest) pos => chkE c a l && (match rest with | [] => chkE c b r | _ :: _ => chkE c b (.BoolOp .Or (r :: rest) pos))
    | _ => false
  | .not a, e => match e with | .UnaryOp .Not x _ => chkE c a x | _ => false
  | .neg a, e => match e with | .UnaryOp .USub x _ => chkE c a x | _ => false
  | .ifx t a b, e => match e with | .IfExp x y z _ => chkT c t x && chkE c a y && chkE c b z | _ => false
  | .tup es, e => match e with | .Tuple xs _ _ => chkL c es xs | _ => false
  | .lst es, e => match e with | .List xs _ => chkL c es xs | _ => false
  | .ix a b, e => match e with | .Subscript x i _ => notSlice i && chkE c a x && chkE c b i | _ => false
  | .slc a lo hi, e => match e with | .Subscript x (.Slice l h none _) _ => chkE c a x && chkO c lo l && chkO c hi h | _ => false
  | .call f es, e => match e with | .Call (.Name x _) args [] _ => decide ((x, f) ∈ c.fns) && glB c x && chkL c es args | _ => false
  | .callF f es, e => match e with | .Call (.Name x _) args [] _ => decide ((x, f) ∈ c.fns) && glB c x && chkL c es args | _ => false
  | .bcall f es, e => match e with | .Call (.Name x _) args [] _ => decide ((x, f) ∈ c.fns) && glB c x && chkL c es args | _ => false
  | .bi b es, e => match e with
    | .Call (.Name x _) args kws _ => match kws with
      | [] => (biArgs c b x args).isSome && chkL c es ((biArgs c b x args).getD [])
      | [⟨some k, v, _⟩] => (match b with
        | .maxd d => decide (x = "max") && glB c "max" && decide (k = "default") && litI d v && decide (args.length = 1)
        | _ => false) && chkL c es args
      | _ => false
    | .JoinedStr vs _ => (match b with
      | .fstr ps => (holes ps vs).isSome && chkL c es ((holes ps vs).getD []) && decide (2 ≤ ps.length)
      | _ => false)
    | .Attribute x nm _ => (match b with
      | .excAt rz => decide (nm = "at") && notCall x && rz.all (fun r => decide (r ∈ c.xt.xvs)) && chkL c es [x]
      | _ => false)
    | _ => false
  | .mt m o es, e => match e with
    | .Call (.Attribute x nm apos) args [] cpos => (apos.endLine == cpos.line) && notCall x && chkE c o x && chkL c es args && (match m with
      | .get => decide (nm = "get") && decide (args.length = 2)
      | .join => decide (nm = "join") && decide (args.length = 1)
      | .split => decide (nm = "split") && decide (args.length = 1)
      | .strip => decide (nm = "strip") && decide (args.length = 1)
      | .index => decide (nm = "index") && decide (args.length = 1))
    | _ => false
  | .lc elt g k src ifs, e => match e with
    | .ListComp el [⟨tg, iter, ts, 0⟩] scope _ => notSet iter && (srcArgs c k tg iter).isSome && chkL c src ((srcArgs c k tg iter).getD []) && blkC c.N c.sc scope (ownOf c g) && chkG (blkCtx c scope) g tg && chkI (blkCtx c scope) ifs ts && chkE (blkCtx c scope) elt el
    | _ => false
  | .dnew _, e => match e with | .Dict [] [] _ => true | _ => false
  | .disp t ks vs, e => match e with | .Dict [some kx] [vx] _ => t && chkL c ks [kx] && chkL c vs [vx] | _ => false
  | .fld cs o x, e => match e with | .Attribute oe nm _ => decide (nm = x) && notCall oe && cs.all (fun c' => decide ((c', x) ∈ c.xt.atts)) && chkE c o oe | _ => false
  | .make cn f es, e => match e with | .Call (.Name y _) args [] _ => decide (y = cn) && glB c y && decide ((cn, f) ∈ c.xt.mks) && chkL c es args | _ => false
  | .callm f _ es, e => match e with | .Call (.Name x _) args [] _ => decide ((x, f) ∈ c.fns) && glB c x && chkL c es args | _ => false
  | .mcall cs m _ o es, e => match e with | .Call (.Attribute oe nm apos) args [] cpos => (apos.endLine == cpos.line) && notCall0 oe && decide (nm = m) && decide (args.length < 30) && cs.all (fun p => decide ((p.1, m, p.2) ∈ c.xt.mts)) && chkE c o oe && chkL c es args | _ => false
def chkT (c : Cc) : IE → Expr → Bool
  | .cmp op a b, e => match e with | .Compare l [o] [r] _ => copB op o && notSet r && chkE c a l && chkE c b r | _ => false
  | .chain op op' a b d, e => match e with | .Compare l [o, o'] [r, r'] _ => copB op o && copB op' o' && notSet r && notSet r' && chkE c a l && chkE c b r && chkE c d r' | _ => false
  | .and a b, e => match e with
    | .BoolOp .And (l :: r :: rest) pos => chkT c a l && (match rest with | [] => chkT c b r | _ :: _ => chkT c b (.BoolOp .And (r :: rest) pos))
    | _ => false
  | .or a b, e => match e with
    | .BoolOp .Or (l :: r :: rest) pos => chkT c a l && (match rest with | [] => chkT c b r | _ :: _ => chkT c b (.BoolOp .Or (r :: rest) pos))
    | _ => false
  | .not a, e => match e with | .UnaryOp .Not x _ => chkT c a x | _ => false
  | .var i, e => match e with | .Name x _ => ixB c i x && visB c x | _ => false
  | .int i, e => match e with | .Constant (.int j) _ _ => decide (i = j) | _ => false
  | .bl b, e => match e with | .Constant (.bool b') _ _ => decide (b = b') | _ => false
  | .ix a b, e => match e with | .Subscript x i _ => notSlice i && chkE c a x && chkE c b i | _ => false
  | .call f es, e => match e with | .Call (.Name x _) args [] _ => decide ((x, f) ∈ c.fns) && glB c x && chkL c es args | _ => false
  | .bcall f es, e => match e with | .Call (.Name x _) args [] _ => decide ((x, f) ∈ c.fns) && glB c x && chkL c es args | _ => false
  | .bi b es, e => match e with
    | .Call (.Name x _) args [] _ => (biArgs c b x args).isSome && chkL c es ((biArgs c b x args).getD [])
    | _ => false
  | .fld cs o x, e => match e with | .Attribute oe nm _ => decide (nm = x) && notCall oe && cs.all (fun c' => decide ((c', x) ∈ c.xt.atts)) && chkE c o oe | _ => false
  | .callm f _ es, e => match e with | .Call (.Name x _) args [] _ => decide ((x, f) ∈ c.fns) && glB c x && chkL c es args | _ => false
  | .mcall cs m _ o es, e => match e with | .Call (.Attribute oe nm apos) args [] cpos => (apos.endLine == cpos.line) && notCall0 oe && decide (nm = m) && decide (args.length < 30) && cs.all (fun p => decide ((p.1, m, p.2) ∈ c.xt.mts)) && chkE c o oe && chkL c es args | _ => false
  | _, _ => false
def chkL (c : Cc) : List IE → List Expr → Bool
  | [], [] => true
  | e :: es, x :: xs => notStar x && chkE c e x && chkL c es xs
  | _, _ => false
def chkI (c : Cc) : List IE → List Expr → Bool
  | [], [] => true
  | [e], [x] => chkT c e x
  | _, _ => false
def chkO (c : Cc) : Option IE → Option Expr → Bool
  | none, none => true
  | some e, some x => chkE c e x
  | _, _ => false
end
def msNm : MS → Str
  | .insert => "insert" | .append => "append" | .reverse => "reverse" | .pop1 => "pop" | _ => ""
/-- whether name = [..] stores within the comprehension's frame -/
def swB (c : Cc) (y : Str) (py : Pos) (pos : Pos) (scope : Scope) : Bool :=
  decide (c.sc.names.lookup y = some .local) && (py.line == pos.line) && !(scope.names.any fun (n, k) => n == y && (k == .local || k == .cell))
/-- a target and what is stored there: nothing swaps -/
def plainSet (e : Expr) : Bool := notLc e && notTuple e && (match e with | .List _ _ => true | _ => true)
def visN (c : Cc) : Expr → Bool
  | .Name x _ => visB c x
  | _ => false
def setC (tg v : Expr) : Bool := match tg with
  | .Name _ _ => (match v with
    | .ListComp _ _ _ _ => true
    | v => notLc v)
  | _ => notLc v && notTuple v
def isNmT : Expr → Bool
  | .Name _ _ => true
  | _ => false
def isTupT : Expr → Bool
  | .Tuple _ _ _ => true
  | _ => false
mutual
def chkS (c : Cc) : IS → Stmt → Bool
  | .set g e, st => match st with
    | .Assign [tg] v _ => chkG c g tg && chkE c e v && setC tg v
    | _ => false
  | .setix i k v, st => match st with
    | .Assign [.Subscript o ke _] ve _ => chkNm c i o && visN c o && notSlice ke && notLc ve && chkE c k ke && chkE c v ve
    | _ => false
  | .ms m i es, st => match st with
    | .Expr (.Call (.Attribute o nm apos) args [] cpos) _ => chkNm c i o && visN c o && decide (nm = msNm m) && (apos.endLine == cpos.line) && chkL c es args && msAr m args.length
    | _ => false
  | .msv g i, st => match st with
    | .Assign [tg] (.Call (.Attribute o nm apos) [] [] cpos) _ => chkG c g tg && chkNm c i o && visN c o && decide (nm = "pop") && (apos.endLine == cpos.line) && isTupT tg
    | _ => false
  | .frz _, _ => false
  | .ite t a b, st => match st with
    | .If x p q _ => chkT c t x && chkSs c a p && chkSs c b q
    | _ => false
  | .for_ g k src body, st => match st with
    | .For tg iter b [] _ => notSet iter && (srcArgs c k tg iter).isSome && chkL c src ((srcArgs c k tg iter).getD []) && chkG c g tg && chkSs c body b
    | _ => false
  | .forq g i t e, st => match st with
    | .For tg iter [.If x [.Return (some y) _] [] _] [] _ => notSet iter && chkNm c i iter && visN c iter && chkG c g tg && chkT c t x && chkE c e y
    | _ => false
  | .whl t body, st => match st with
    | .While x b [] _ => chkT c t x && chkSs c body b
    | _ => false
  | .ret e, st => match st with
    | .Return (some x) _ => chkE c e x
    | _ => false
  | .retn, st => match st with
    | .Return none _ => true
    | _ => false
  | .brk, st => match st with | .Break _ => true | _ => false
  | .cnt, st => match st with | .Continue _ => true | _ => false
  | .pass, st => match st with | .Pass _ => true | .Expr (.Constant (.str _) _ _) _ => true | _ => false
  | .expr e, st => match st with | .Expr x _ => notLc x && chkE c e x | _ => false
  | .raise d, st => match st with
    | .Raise (some (.Call (.Name x _) [.Constant (.str _) _ _] [] _)) none _ => decide (x = d) && glB c x && decide (d ∈ c.xt.rzs) && decide (excP d = none)
    | _ => false
  | .xcall f es, st => match st with
    | .Expr (.Call (.Name x _) args [] _) _ => decide ((x, f) ∈ c.fns) && glB c x && chkL c es args
    | _ => false
  | .tryx body rz t v en, st => match st with
    | .Try b [.ExceptHandler (some (.Name x _)) (some n) [.Assign [.Name y _] (.Name z _) _] _] [] [] _ => chkSs c body b && decide (x = t) && glB c x && decide (t ∈ c.xt.xns) && decide (t ≠ "ValueError") && ixB c en n && decide (c.sc.names.lookup n = some .local) &&
        ixB c v y && locB c y && decide (z = n) && visB c n && decide (v ≠ en) && rz.all fun r => decide ((r, t) ∈ c.xt.xts)
    | _ => false
  | .raisev d e, st => match st with
    | .Raise (some (.Call (.Name x _) [a] [] _)) none _ => decide (x = d) && glB c x && decide (d ∈ c.xt.xvs) && chkL c [e] [a]
    | _ => false
  | .tryat body t v en, st => match st with
    | .Try b [.ExceptHandler (some (.Name x _)) (some n) [.Assign [.Name y _] (.Attribute (.Name z _) w _) _] _] [] [] _ => chkSs c body b && decide (x = t) && glB c x && decide (t ∈ c.xt.xvs) && ixB c en n && decide (c.sc.names.lookup n = some .local) &&
        ixB c v y && locB c y && decide (z = n) && visB c n && decide (v ≠ en) && decide (w = "at")
    | _ => false
  | .stuck, _ => true
  | .setx g e, st => match st with
    | .Assign [tg] v _ => chkG c g tg && chkE c e v && notLc v && notTuple v
    | _ => false
  | .itex t a b, st => match st with
    | .If x p q _ => chkT c t x && chkSs c a p && chkSs c b q
    | _ => false
  | .retx e, st => match st with
    | .Return (some x) _ => chkE c e x
    | _ => false
  | .rett _ e, st => match st with
    | .Return (some x) _ => chkE c e x
    | _ => false
  | .exprx e, st => match st with | .Expr x _ => notLc x && chkE c e x | _ => false
  | .fset cs i x e, st => match st with
    | .Assign [.Attribute o nm _] v _ => chkNm c i o && visN c o && decide (nm = x) && cs.all (fun c' => decide ((c', x) ∈ c.xt.atts)) && notLc v && chkE c e v
    | _ => false
  | .msf cs m i x es, st => match st with
    | .Expr (.Call (.Attribute (.Attribute o nm1 _) nm apos) args [] cpos) _ => chkNm c i o && visN c o && decide (nm1 = x) && cs.all (fun c' => decide ((c', x) ∈ c.xt.atts)) && decide (nm = msNm m) && (apos.endLine == cpos.line) && chkL c es args && msAr m args.length
    | _ => false
  | .setl is e, st => match st with
    | .Assign [.Tuple es _ _] v _ => chkNms c is es && chkE c e v && notLc v && notTuple v
    | _ => false
  | .msvi g i e, st => match st with
    | .Assign [tg] (.Call (.Attribute o nm apos) [a] [] cpos) _ => chkG c g tg && chkNm c i o && visN c o && decide (nm = "pop") && (apos.endLine == cpos.line) && (isTupT tg || isNmT tg) && notStar a && chkE c e a
    | _ => false
  | .retw _ es, st => match st with
    | .Return (some x) _ => chkE c (.tup es) x
    | _ => false
  | .lendq _ t b, st => match st with
    | .If x [.Return (some y) _] [] _ => chkT c t x && chkE c (.bl b) y
    | _ => false
  | .lends k _ e, st => match st with
    | .Assign [tg] v _ => chkG c (.nm k) tg && chkE c e v && setC tg v
    | _ => false
  | .mspop i j e, st => match st with
    | .Expr (.Call (.Attribute o nm apos) [.Call (.Attribute o2 nm2 apos2) [a] [] cpos2] [] cpos) _ => chkNm c i o && visN c o && decide (nm = "append") && (apos.endLine == cpos.line) && chkNm c j o2 && visN c o2 && decide (nm2 = "pop") && (apos2.endLine == cpos2.line) && notStar a && chkE c e a
    | _ => false
  | .msk m i j es, st => match st with
    | .Expr (.Call (.Attribute o nm apos) args [] cpos) _ => chkE c (.ix (.var i) (.int (j : Int))) o && notCall o && decide (nm = msNm m) && (apos.endLine == cpos.line) && chkL c es args && msAr m args.length
    | _ => false
def chkSs (c : Cc) : List IS → List Stmt → Bool
  | [], sts => match sts with | [] => true | _ => false
  | s :: ss, sts => match s with
    | .frz _ => chkSs c ss sts
    | _ => match sts with
      | st :: sts' => chkS c s st && chkSs c ss sts'
      | [] => false
end
end R

set_option linter.all false
set_option maxRecDepth 100000
set_option maxHeartbeats 4000000
/-! An exception of the program with a field of its own (turned from the worked block of own errors). -/
namespace PySem
namespace NbX
open PySem.W PySem.Calls PyProof.Rows PySem.HandSPX
/-! ### the text of __init__ -/
def iA (p1 p2 : Pos) : Arguments := { posonlyargs := [], args := [{ arg := "self", annotation := none, pos := p1 }, { arg := "at", annotation := none, pos := p2 }], vararg := none, kwonlyargs := [], kw_defaults := [], kwarg := none, defaults := [] }
def iB (q1 q2 q3 q4 : Pos) : List Stmt := [.Assign [.Attribute (.Name "self" q1) "at" q2] (.Name "at" q3) q4]
def iS : Scope := { kind := .function, names := [(PySem.Str.ofString "self", .local), (PySem.Str.ofString "at", .local)], isGenerator := false, isCoroutine := false, more := [] }
/-- what the written part says of Low, at C, and of its __init__, at fI -/
structure NbTxt (K : Frag) (mg : Str → Option Value) (C fI : Addr) : Prop where
  gC : mg "NoBook" = some (.ref C)
  cls : ∃ nm q N bs bm sn sub ab col dd k0 k1 k2 k3 k5, K.lookup C = some (excClassObj nm q C N bs bm true sn sub ab col dd k0 k1 k2 k3 k5 "ValueError.__new__") ∧ refsVE bm = true
  sa : findIn K (.ref C) "__setattr__" = some (some (.builtin "object.__setattr__"))
  ga : findIn K (.ref C) "__getattribute__" = some (some (.builtin "BaseException.__getattribute__"))
  gg : findIn K (.ref C) "__getattr__" = some none
  noN : findIn K (.ref C) "at" = some none
  iC : findIn K (.ref C) "__init__" = some (some (.ref fI))
  tC : typeIn K (.ref fI) = some (.type "function")
  kC : keepIn K (.ref C) = true
  exC : subIn K (.ref C) (.type "BaseException") = some true
  tyC : typeIn K (.ref C) = some (.type "type")
  hdC : hasDictIn K C = true
  te : exmOne K (.ref C) (.ref C) = some true
  fn : ∃ (oc : Value) (od : Option Addr) (doc pm : Value) (an : Option Addr) (cdv ct : Value) (osl : Array (Option Value)) (p1 p2 q1 q2 q3 q4 : Pos),
    K.lookup fI = some ⟨oc, od, .func (fnOf "__init__" "NoBook.__init__" (iA p1 p2) (iB q1 q2 q3 q4) iS .none .none doc pm an cdv ct), osl⟩ ∧ codeIn K cdv "NoBook.__init__" = true
theorem one_size (v : Value) : [v].length ≤ sizeLine := by
  rw [sizeLine_eq]
  exact (by decide : 1 ≤ 16777216)
theorem kept_but {K : Frag} {h h' : Heap} {x : Addr} (X : K.In h) (hx : K.lookup x = none) (k : ∀ b o, b ≠ x → h.get? b = some o → h'.get? b = some o) : K.In h' := fun a o e =>
  k a o (fun z => by rw [z, hx] at e; cases e) (X a o e)
theorem ldC {M : Model} {s : Shared} {name : Str} {scope : Scope} {L a : Addr} {cd : Value} {m : Str → Option Value} {x : Str} {pos : Pos} {v : Value} {Q : Value → Shared → Prop} {A : Around} {E : Value → Shared → Prop} (hn : s.heap.Ns L m) (hv : m x = some v) (h : Q v s)
    (hk : scope.kind = .function := by rfl) (hl : (envOfC name scope L a cd).kindOf x = some .local := by rfl) (hd : (x == ("__debug__" : Str)) = false := by decide) :
    wpAny M A (eval (.Name x pos) (envOfC name scope L a cd)) Q E s := wpAny_Name (wpAny_loadName_local hk hl hn hv h) hd
/-- what __init__ leaves of a fresh exception at x -/
structure InitEnd (h h' : Heap) (x C dx t1 : Addr) (v : Value) : Prop where
  keep : ∀ b o, b ≠ x → h.get? b = some o → h'.get? b = some o
  obj : h'.get? x = some { cls := .ref C, dict := some dx, data := .fields #[.ref t1, .none, .none, .none, .bool false, .none] }
  dbig : h.objs.size ≤ dx
  dne : dx ≠ x
  ns : h'.Ns1 dx (fun y => if y = "at" then some v else none)
/-- a made Low -/
structure OwnMade (h h' : Heap) (e C d : Addr) (v : Value) : Prop where
  keep : ∀ b o, h.get? b = some o → h'.get? b = some o
  new : h.objs.size ≤ e
  obj : ∃ oe vs, h'.get? e = some oe ∧ oe.cls = .ref C ∧ oe.dict = some d ∧ oe.data = .fields vs ∧ vs[1]? = some .none
  dbig : h.objs.size ≤ d
  dne : d ≠ e
  ns : h'.Ns1 d (fun y => if y = "at" then some v else none)
section
variable {prog : Program} {w : World} {A : Around} {E : Value → Shared → Prop} {R : Result → Shared → Prop} {s : Shared} {K : Frag} {mg : Str → Option Value} {C fI : Addr}
theorem nb_init (T : NbTxt K mg C fI) {x t0 : Addr} {v : Value} (X : K.In s.heap) (hlim : s.heap.NoLimit) (hx : s.heap.get? x = some (excO C t0)) (hnx : K.lookup x = none) (hroom : A.depth < recursionLimit)
    (hq : ∀ h' tk dx, InitEnd s.heap h' x C dx t0 v → R (.ok (.ret .none)) { s with heap := h', toks := tk }) :
    codeAny (model prog w) A (.call (.ref fI) ⟨[.ref x, v], []⟩) R s := by
  obtain ⟨oc, od, doc, pm, an, cdv, ct, osl, p1, p2, q1, q2, q3, q4, ho, hcd⟩ := T.fn
  obtain ⟨nm, q, N, bs, bm, sn, sub, ab, col, dd, k0, k1, k2, k3, k5, hC, hbm⟩ := T.cls
  have hcl : clsIn K C = some { name := nm, bases := bs, mro := .ref C :: bm, ns := N, qualname := q, hasDict := true, slotNames := sn, subclasses := sub, abstract := ab, collection := col, hasDel := false } := by unfold clsIn; rw [hC] <;> rfl
  refine Att.call_fn (binds := [("self", .ref x), ("at", v)]) X hlim ho hcd hroom (BindsTo.of_eq (by first | rfl | with_unfolding_all rfl)) (by first | rfl | decide | with_unfolding_all rfl) (fun s₁ IC => ?_) rfl rfl rfl
  obtain ⟨h₁, tk₁, rfl⟩ := IC.toInCall.same
  have k : ∀ b o, s.heap.get? b = some o → h₁.get? b = some o := IC.toInCall.keep
  have hn := IC.toInCall.ns
  have hxL : s.heap.objs.size ≠ x := Nat.ne_of_gt (Heap.lt_size hx)
  have X₁ : K.In h₁ := X.keeps k
  have hx₁ := k _ _ hx
  -- self.by = by
  show wpAny _ _ (execs _ _) _ _ _
  refine wpAny_execs_cons (plainObj_wpAny_Assign_Attribute ?_)
  refine ldC (v := v) hn (by first | rfl | with_unfolding_all rfl | kernel_rfl) (ldC (v := .ref x) hn (by first | rfl | with_unfolding_all rfl | kernel_rfl) ?_)
  refine set_plain X₁ (ox := excO C t0) (od := none) ⟨hx₁, rfl, rfl, trivial⟩ T.sa ?_
  refine exc_osa X₁ hx₁ hcl (show refsVE (.ref C :: bm) = true from hbm) rfl T.noN (fun h₃ tk₃ dx k₃ dn dne hx₃ hn₃ => ?_)
  show wpAny _ _ (execs _ _) _ _ _
  have z : s.heap.objs.size < h₁.objs.size := hn.lt
  exact wpAny_execs_nil (hq h₃ tk₃ dx ⟨fun b o hb e => k₃ b o hb (k b o e), hx₃, Nat.le_of_lt (Nat.lt_of_lt_of_le z dn), dne, hn₃⟩)
theorem nb_made (T : NbTxt K mg C fI) {v : Value} (X : K.In s.heap) (hlim : s.heap.NoLimit) (hroom : A.depth + 1 < recursionLimit)
    (hq : ∀ h' tk e d, OwnMade s.heap h' e C d v → R (.ok (.ret (.ref e))) { s with heap := h', toks := tk }) :
    codeAny (model prog w) A (.call (.ref C) ⟨[v], []⟩) R s := by
  obtain ⟨nm, q, N, bs, bm, sn, sub, ab, col, dd, k0, k1, k2, k3, k5, hC, hbm⟩ := T.cls
  obtain ⟨hp, g, dr, tk, os⟩ := s
  have k : ∀ b o, hp.get? b = some o → ((hp.push (kdv_tup [v])).push (excO C hp.objs.size)).get? b = some o := fun b o e => Heap.get?_push_of_some _ (Heap.get?_push_of_some _ e)
  have hget : ((hp.push (kdv_tup [v])).push (excO C hp.objs.size)).get? (hp.objs.size + 1) = some (excO C hp.objs.size) := by heap_get
  have hnx : K.lookup (hp.objs.size + 1) = none := by
    cases e : K.lookup (hp.objs.size + 1) with
    | none => rfl
    | some o =>
      have z : hp.get? (hp.objs.size + 1) = some o := X _ _ e
      exact absurd (Nat.lt_of_succ_lt (Heap.lt_size z)) (Nat.lt_irrefl _)
  refine call_own F.excBase_ValueError (fun X => refsVE_contains X bm hbm) (X _ _ hC) (looks_findIn X T.iC) (fun self => bind_fn X self T.tC) (one_size v) ?_
  refine nb_init (s := ⟨(hp.push (kdv_tup [v])).push (excO C hp.objs.size), g, dr, tk, os⟩) T (X.keeps k) (hlim.keeps k) hget hnx ?_ fun h' tk' dx ⟨k', hx, dn, dne, hns⟩ => ?_
  · show A.depth + 1 < recursionLimit
    exact hroom
  · have old : ∀ b o, hp.get? b = some o → h'.get? b = some o := fun b o e => k' b o (Nat.ne_of_lt (Nat.lt_succ_of_lt (Heap.lt_size e))) (k b o e)
    have z : hp.objs.size + 1 + 1 ≤ dx := by
      first
        | (simpa only [Heap.size_push] using dn)
        | exact dn
        | (have q := dn; rw [Heap.size_push, Heap.size_push] at q; exact q)
    exact ⟨rfl, hq h' tk' (hp.objs.size + 1) dx ⟨old, Nat.le_succ _, ⟨_, _, hx, rfl, rfl, rfl, rfl⟩, Nat.le_trans (Nat.le_trans (Nat.le_succ _) (Nat.le_succ _)) z, dne, hns⟩⟩
end
end NbX
end PySem
namespace L2
open PySem PySem.Spec PyProof.Rows
theorem relO_nb {v : V} {v' : Value} (r : RelV v v') (f : Str) : RelO (List.lookup f [(("at" : Str), v)]) (if f = "at" then some v' else none) := by
  by_cases hw : f = "at"
  · subst hw
    rw [if_pos rfl]
    have q : List.lookup ("at" : Str) [(("at" : Str), v)] = some v := by simp [List.lookup]
    rw [q]
    exact r
  · rw [if_neg hw]
    have qw : (f == ("at" : Str)) = false := by simpa using hw
    have q2 : List.lookup f [(("at" : Str), v)] = none := by simp [List.lookup, qw]
    rw [q2]
    trivial
section
variable {X : Cx} {C fI : Addr}
/-- Low(e) -/
def tMkNb (C : Addr) (ta : TA) : St → Hp → XK → Prop := fun σ H Q => ta σ H fun vs H1 => ∃ v, vs = [v] ∧ ∀ d, H1 d = none → Q (.ref C) (some d) (upd H1 d (.xd [(("at" : Str), v)]))
theorem pmk_nb {a : Expr} {ta : TA} {p pos : Pos} {k : Nat} (T : PySem.NbX.NbTxt X.K X.mg C fI) (hr : Room k X.A) (ha : PA X [a] ta) (hg : Gl X "NoBook" := by rfl)
    (he : starEach (a :: []) X.env = (false, eval a X.env) :: starEach [] X.env := by rfl) (hpl : (backTo pos (starEach [] X.env)).any (·.1) = false := by rfl) :
    PMk X (.Call (.Name "NoBook" p) [a] [] pos) (tMkNb C ta) := by
  intro pins s σ H Q I h
  refine wpAny_Call_Name_kw (ld_glob I hg T.gC ?_)
  refine PySem.W.callWith_K (h₀ := X.base) I.ok.mod.kin T.kC (thn (ha.run pos pins s σ H _ I h) fun us s1 hh => ?_) he hpl
  obtain ⟨vs, H1, I1, r1, v, ev, q1⟩ := hh
  subst ev
  refine ⟨I1.kIn, ?_⟩
  cases r1 with
  | cons rv rn =>
    rename_i v' us'
    cases rn
    show wpAny _ _ (call (.ref C) [v']) _ _ _
    have hlim := I1.nolimit
    obtain ⟨hp, g, dr, tk, os⟩ := s1
    refine wpAny_call (PySem.NbX.nb_made T I1.kIn hlim (by have := hr.dp; omega) fun h' tk' e d M => ?_)
    show MkP X pins σ Q (.ref e) ⟨h', g, dr, tk', os⟩
    obtain ⟨oe, fv, hoe, hc, hd, hdat, h1⟩ := M.obj
    have hns := M.ns
    obtain ⟨G', g1, g2⟩ := restrict h' fun b => decide (b ≠ e)
    have gk : ∀ b, b ≠ e → G'.get? b = h'.get? b := fun b hb => g1 b (decide_eq_true hb)
    have ge : G'.get? e = none := g2 e (by simp)
    have old : ∀ b o, hp.get? b = some o → G'.get? b = some o := fun b o q => (gk b (Nat.ne_of_lt (Nat.lt_of_lt_of_le (Heap.lt_size q) M.new))).trans (M.keep b o q)
    have ob : ObjOk X.prog X.w (upd H1 d (.xd [(("at" : Str), v)])) G' d (.xd [(("at" : Str), v)]) :=
      ⟨_, hns.at (fun o q => (gk d M.dne).trans q), fun f => relO_nb rv f⟩
    have J : Inv X pins σ (upd H1 d (.xd [(("at" : Str), v)])) ⟨G', g, dr, tk', os⟩ := I1.laid (t' := tk') old M.dbig ob
    refine ⟨e, oe, fv, ⟨G', g, dr, tk', os⟩, _, .ref C, some d, rfl, J, fun b o q => ?_, ge, hoe, ⟨hc, hd⟩, hdat, h1, ?_, rfl, I1.bare, raises_own T.exC T.tyC, q1 d (I1.hok.fresh M.dbig)⟩
    · by_cases hb : b = e
      · have q' : G'.get? b = some o := q
        rw [hb, ge] at q'; cases q'
      · exact (gk b hb).symm.trans q
    · rw [upd_ne (Ne.symm M.dne)]
      exact I1.hok.fresh M.new
/-- raise Low(e) -/
def tRaiseNb (C : Addr) (W : WX) (ta : TA) : TS := fun _ σ H => tMkNb C ta σ H fun cls d H' => W cls d σ H'
theorem ps_raiseNb {a : Expr} {ta : TA} {W : WX} {p pos pos2 : Pos} {k : Nat} (hc : X.calm = true) (T : PySem.NbX.NbTxt X.K X.mg C fI) (hr : Room k X.A) (tk : Takes X W) (ha : PA X [a] ta) (hg : Gl X "NoBook" := by rfl)
    (he : starEach (a :: []) X.env = (false, eval a X.env) :: starEach [] X.env := by rfl) (hpl : (backTo pos (starEach [] X.env)).any (·.1) = false := by rfl) :
    PS X (.Raise (some (.Call (.Name "NoBook" p) [a] [] pos)) none pos2) (tRaiseNb C W ta) := ps_raise hc tk (pmk_nb T hr ha hg he hpl)
/-- low.by, low the exception that the suite holds (at a; its class cls, its dict d) -/
def tAtNb (C : Addr) (a : Addr) (cls : Value) (d : Option Addr) (te : TE) : TE := fun σ H Q => te σ H fun x H1 => x = .ref a ∧ cls = .ref C ∧ ∃ (dd : Addr) (v : V), d = some dd ∧ H1 dd = some (.xd [(("at" : Str), v)]) ∧ Q v H1
theorem pe_atNb {a : Addr} {oe : Obj} {cls : Value} {d : Option Addr} {pn : List (Addr × Obj)} {e : Expr} {te : TE} {pos : Pos} (T : PySem.NbX.NbTxt X.K X.mg C fI) (hz : Zc cls d oe) (hf : ∃ vs, oe.data = .fields vs) (he : PE (X.suite a ((a, oe) :: pn)) e te)
    (hb : attributeBase e "at" X.env (eval e X.env) = eval e X.env := by rfl) :
    PE (X.suite a ((a, oe) :: pn)) (.Attribute e "at" pos) (tAtNb C a cls d te) := by
  refine ⟨fun pins s σ H Q I h => ?_⟩
  refine attr_of hb (thn (he.run pins s σ H _ I h) fun u s1 hh => ?_)
  obtain ⟨x, H1, I1, rx, ex, ec, dd, v, ed, ea, q⟩ := hh
  subst ex
  obtain rfl : u = Value.ref a := rx
  subst ec
  subst ed
  obtain ⟨ha, _⟩ := I1.pin (a, oe) (List.mem_append_left _ List.mem_cons_self)
  obtain ⟨vs, hd⟩ := hf
  have hx : ObjOk X.prog X.w H1 s1.heap dd (.xd [(("at" : Str), v)]) := I1.hok dd _ ea
  obtain ⟨mA, hns, hr⟩ := hx
  obtain ⟨od, ho, hl⟩ := lookIn_ns hns
  have l : List.lookup ("at" : Str) [(("at" : Str), v)] = some v := by simp [List.lookup]
  obtain ⟨u, hu, ru⟩ := RelO.some_of (v := v) (o := mA "at") (by rw [← l]; exact hr "at")
  have J : PySem.W.InstAt s1.heap a oe C (some od) := ⟨ha, hz.1, by unfold PySem.W.notCls; rw [hd] <;> rfl, by rw [hz.2]; exact ho⟩
  exact HandSPX.exc_get I1.kIn J T.ga T.gg T.exC (PySem.W.findObj_own T.hdC T.noN rfl (by rw [hl, hu])) (handed_of ru) ⟨v, H1, I1.tok _, ru, q⟩
end
end L2


set_option linter.all false
set_option maxHeartbeats 4000000
set_option maxRecDepth 100000
/-! What the check gives: the text's expressions keep the readings. -/
namespace R
open PySem L2
def biNames : List Str := ["len", "tuple", "list", "int", "str", "all", "max", "min", "sum", "isinstance", "set", "range", "enumerate", "zip", "bool", "sorted", "reversed", "dict", "ord"]
/-- a class that is raised -/
structure XC (K : PySem.W.Frag) (mg : Str → Option Value) (c : Str) : Prop where
  g : mg c = some (.ref (cA K c))
  k : PySem.W.keepIn K (.ref (cA K c)) = true
  q : PySem.W.excIn K (cA K c) [.type "ValueError", .type "Exception", .type "BaseException", .type "object"] "ValueError.__new__" = true
  s : PySem.W.subIn K (.ref (cA K c)) (.type "BaseException") = some true
  t : PySem.W.typeIn K (.ref (cA K c)) = some (.type "type")
structure XtOk (K : PySem.W.Frag) (mg : Str → Option Value) (x : Xt) : Prop where
  xr : ∀ c ∈ x.rzs, XC K mg c
  xv : ∀ c ∈ x.xvs, c = "NoBook" ∧ ∃ fI, PySem.NbX.NbTxt K mg (cA K c) fI
  xp : ∀ p ∈ x.xps, ExcC K (cA K p.1) ∧ ∀ b, excSub p.1 p.2 = some b → PySem.W.kitOne K (.ref (cA K p.1)) (cV K p.2) = some b
  xn : ∀ d ∈ x.xns, (d = "ValueError" ∧ mg d = none) ∨ (d ≠ "ValueError" ∧ mg d = some (.ref (cA K d)))
  xt : ∀ p ∈ x.xts, excSub p.1 p.2 = some true → PySem.W.exmOne K (.ref (cA K p.1)) (.ref (cA K p.2)) = some true
structure Cok (X : Cx) (c : Cc) (sp : Nat → Sp) : Prop where
  N : X.N = c.N
  nd : c.N.Nodup
  sc : X.env.scope = c.sc
  fn : ∀ x, X.fn x = fnB c x
  calm : X.calm = true
  xt : XtOk X.K X.mg c.xt
  bi : ∀ x ∈ biNames, X.mg x = none
  gl : ∀ p ∈ c.gls, ∃ u, X.mg p.1 = some u ∧ RelV (vOf p.2) u
  calls : ∀ p ∈ c.fns, ∃ (k : Nat) (f : Addr) (fd : FuncData) (ps : List Str), FnOk X.prog X.w X.K X.mg X.base (L2.CX X.prog X.w) k f fd ps (sp p.2) ∧ Room k X.A ∧ X.mg p.1 = some (.ref f) ∧ PySem.W.keepIn X.K (.ref f) = true ∧ Binds X.K fd ps []
  hu : X.A.units + 65 < cLine
  rm : ∃ k, Room k X.A
  att : ∀ p ∈ c.xt.atts, Cls X.K (cA X.K p.1) ∧ NoAttr X.K (cA X.K p.1) p.2
  mks : ∀ p ∈ c.xt.mks, ∃ (k : Nat) (f : Addr) (fd : FuncData) (ps : List Str), FnOk X.prog X.w X.K X.mg X.base (L2.CX X.prog X.w) k f fd ps (sp p.2) ∧ Room (k + 1) X.A ∧ X.mg p.1 = some (.ref (cA X.K p.1)) ∧ Mk X.K (cA X.K p.1) f ∧ Binds X.K fd ps []
  mts : ∀ p ∈ c.xt.mts, ∃ (k : Nat) (f : Addr) (fd : FuncData) (ps : List Str), FnOk X.prog X.w X.K X.mg X.base (L2.CX X.prog X.w) k f fd ps (sp p.2.2) ∧ Room k X.A ∧ Cls X.K (cA X.K p.1) ∧ Meth X.K (cA X.K p.1) p.2.1 f ∧ Binds X.K fd ps []
section
variable {X : Cx} {c : Cc} {sp : Nat → Sp}
theorem op_fdivB : OpR X (binaryOp .FloorDiv) (rI CDivB fun i j => .int (i.fdiv j)) := opI fun _ j _ _ _ _ _ hc q => PyProof.Rows.floordiv_int hc.1 q (.inl (PyProof.noPylong_of_log2 (by
  have h := hc.2
  rcases Nat.eq_zero_or_pos j.natAbs with e | e
  · rw [e]; decide
  · exact Nat.lt_trans ((Nat.log2_lt (by omega)).mpr (show j.natAbs < 2 ^ 60 from h)) (by decide))))
theorem Cok.blk (h : Cok X c sp) (s : Shared) (H : Hp) (scope : Scope) (C : Addr) (cl : List (Str × Addr)) (fp : List Addr) : Cok (X.blk s H scope (compEnvC scope cl C X.env) fp) (blkCtx c scope) sp := by
  refine ⟨h.N, h.nd, ?_, fun x => rfl, h.calm, h.xt, h.bi, h.gl, h.calls, h.hu, h.rm, h.att, h.mks, h.mts⟩
  show relS scope X.env.scope = relS scope c.sc
  rw [h.sc]
theorem Cok.vis (h : Cok X c sp) {x : Str} (v : visB c x = true) : Vis X.env.scope x ∧ (x == ("__debug__" : Str)) = false ∧ (x == ("__classdict__" : Str)) = false := by
  unfold visB at v
  simp only [Bool.and_eq_true, Bool.not_eq_true'] at v
  obtain ⟨⟨v1, v2⟩, v3⟩ := v
  refine ⟨?_, v2, v3⟩
  unfold Vis
  rw [h.sc]
  split at v1
  · rename_i e; exact .inl e
  · rename_i e; exact .inr (.inl e)
  · rename_i e; exact .inr (.inr e)
  · cases v1
theorem Cok.glo (h : Cok X c sp) {x : Str} (v : glB c x = true) : Gl X x ∧ (x == ("__debug__" : Str)) = false := by
  unfold glB at v
  simp only [Bool.and_eq_true, Bool.not_eq_true'] at v
  refine ⟨?_, v.2⟩
  unfold Gl PySem.Env.kindOf
  rw [h.sc]
  have v1 := v.1
  split at v1
  · rename_i e; exact e
  · cases v1
theorem Cok.ix (h : Cok X c sp) {i : Nat} {x : Str} (v : ixB c i x = true) : X.N[i]? = some x := by
  rw [h.N]
  exact of_decide_eq_true v
theorem Cok.loc (h : Cok X c sp) {x : Str} (v : locB c x = true) : L2.Loc X.env.scope x ∧ (X.fn x = true ∨ X.env.scope.names.lookup x = some .local) := by
  unfold locB at v
  unfold L2.Loc
  rw [h.sc, h.fn]
  split at v
  · rename_i e; exact ⟨.inl e, .inr e⟩
  · rename_i e; exact ⟨.inr e, .inl v⟩
  · cases v
theorem star_ok {e : Expr} {es : List Expr} {env : PySem.Env} (h : notStar e = true) : starEach (e :: es) env = (false, eval e env) :: starEach es env := by
  cases e <;> first | rfl | (cases h)
theorem any_ns {pos : Pos} {env : PySem.Env} : ∀ {es : List Expr}, es.all notStar = true → (backTo pos (starEach es env)).any (·.1) = false
  | [], _ => rfl
  | e :: es, h => by
    simp only [List.all_cons, Bool.and_eq_true] at h
    rw [star_ok h.1]
    have ih := any_ns (pos := pos) (env := env) h.2
    show (false || (backTo pos (starEach es env)).any (·.1)) = false
    rw [ih]
    rfl
theorem all_ns {pos : Pos} {env : PySem.Env} : ∀ {es : List Expr}, es.all notStar = true → (backTo pos (starEach es env)).all (fun x => !x.1) = true
  | [], _ => rfl
  | e :: es, h => by
    simp only [List.all_cons, Bool.and_eq_true] at h
    rw [star_ok h.1]
    have ih := all_ns (pos := pos) (env := env) h.2
    show (true && (backTo pos (starEach es env)).all (fun x => !x.1)) = true
    rw [ih]
    rfl
theorem chkL_ns : ∀ {es : List IE} {xs : List Expr}, chkL c es xs = true → xs.all notStar = true ∧ es.length = xs.length
  | [], [], _ => ⟨rfl, rfl⟩
  | [], _ :: _, h => by simp only [chkL] at h; cases h
  | _ :: _, [], h => by simp only [chkL] at h; cases h
  | e :: es, x :: xs, h => by
    simp only [chkL, Bool.and_eq_true] at h
    obtain ⟨q1, q2⟩ := chkL_ns h.2
    exact ⟨by simp only [List.all_cons, h.1.1, q1, Bool.and_self], by rw [List.length_cons, List.length_cons, q2]⟩
theorem bim_ok {o : CmpOp} {e : Expr} (h : notSet e = true) : behindInMarks o e = false := by
  cases e <;> first | rfl | (cases h)
theorem lm_ok {o o' : CmpOp} {e e' : Expr} (h : notSet e' = true) : lastMarks [o, o'] [e, e'] = false := by
  show behindInMarks o' e' = false
  exact bim_ok h
theorem fsi_ok {e : Expr} {env : PySem.Env} (h : notSet e = true) : ∀ x, foldedSetIterable e env x = pure x := by
  intro x
  cases e <;> first | rfl | (cases h)
theorem sub_ok {e : Expr} (h : notSlice e = true) : ∀ o i, subscripted e false o i = operate [o, i] (getItem o i) := by
  intro o i
  cases e <;> first | rfl | (cases h)
theorem base_ok {o : Expr} {m : Str} {env : PySem.Env} {w : Sem Value} (h : notCall o = true) : attributeBase o m env w = w := by
  cases o <;> first | rfl | (cases h)
theorem base0_ok {o : Expr} {m : Str} {env : PySem.Env} {w : Sem Value} (h : notCall0 o = true) : attributeBase o m env w = w := by
  cases o <;> first | rfl | skip
  rename_i f as kws pos
  cases as with
  | nil => simp only [notCall0] at h; cases h
  | cons a as => cases f <;> cases kws <;> rfl
theorem PE.or2 {e : Expr} {t u : TE} (h : PE X e t) (g : PE X e u) : PE X e (fun σ H Q => t σ H Q ∨ u σ H Q) := ⟨fun pins s σ H Q I hw => by
  rcases hw with hw | hw
  · exact h.run pins s σ H Q I hw
  · exact g.run pins s σ H Q I hw⟩
theorem PT.or2 {e : Expr} {t u : TT} (h : PT X e t) (g : PT X e u) : PT X e (fun σ H Q => t σ H Q ∨ u σ H Q) := ⟨fun pins s σ H Q I hw => by
  rcases hw with hw | hw
  · exact h.run pins s σ H Q I hw
  · exact g.run pins s σ H Q I hw⟩
theorem PS.or2 {e : Stmt} {t u : TS} (h : PS X e t) (g : PS X e u) : PS X e (fun D σ H => t D σ H ∨ u D σ H) := ⟨fun pins s σ H D I hw => by
  rcases hw with hw | hw
  · exact h.run pins s σ H D I hw
  · exact g.run pins s σ H D I hw⟩
theorem PI.or2 {tg e : Expr} {t u : TI} (h : PI X tg e t) (g : PI X tg e u) : PI X tg e (fun σ H R => t σ H R ∨ u σ H R) := ⟨fun pins s σ H R I hw => by
  rcases hw with hw | hw
  · exact h.run pins s σ H R I hw
  · exact g.run pins s σ H R I hw⟩
theorem op_ok {op : BOp} {o : Operator} (h : opB op o = true) : OpR X (binaryOp o) (rBin X.K op) := by
  cases op <;> cases o <;> first | (cases h; done) | skip
  · exact op_add.or (op_add_str.or (op_cat.or op_catA))
  · exact op_sub
  · exact op_mul.or (op_rep.or op_mulT)
  · exact op_fdivB
  · exact op_modN
  · exact op_pow
theorem cop_ok (hu : X.A.units + 65 < cLine) {op : COp} {o : CmpOp} (h : copB op o = true) : OpR X (compareOp o) (rCmp X.K op) := by
  cases op <;> cases o <;> first | (cases h; done) | skip
  · exact op_eqD (by omega)
  · exact op_neD (by omega)
  · exact op_lt.or (op_ltL (by omega))
  · exact op_le
  · exact op_gt
  · exact op_ge
  · exact op_isN.or op_isBl
  · exact op_notN.or op_notBl
  · exact (op_inD hu).or (op_in_seq.or (op_in_sign.or ((op_nonD (by omega)).or (op_inTD hu))))
  · exact (op_notInD hu).or (op_notIn_seq.or (op_notIn_sign.or ((op_nonDnot (by omega)).or (op_notInTD hu))))
theorem pe_cmp_ok (h : Cok X c sp) {op : COp} {o : CmpOp} {l r : Expr} {ta tb : TE} {pos : Pos} (ho : copB op o = true) (hs : notSet r = true) (ha : PE X l ta) (hb : PE X r tb) : PE X (.Compare l [o] [r] pos) (rdCmp X.K op ta tb) := by
  have hop := cop_ok (X := X) h.hu ho
  have base := pe_cmpR (pos := pos) hop ha hb (bim_ok hs)
  cases op <;> cases o <;> first | (cases ho; done) | exact base | skip
  · exact PE.or2 base (pe_cmp (pc_din (by have := h.hu; omega) ha hb) (bim_ok hs))
  · exact PE.or2 base (pe_cmp (pc_dnotin (by have := h.hu; omega) ha hb) (bim_ok hs))
theorem pt_cmp_ok (h : Cok X c sp) {op : COp} {o : CmpOp} {l r : Expr} {ta tb : TE} {pos : Pos} (ho : copB op o = true) (hs : notSet r = true) (ha : PE X l ta) (hb : PE X r tb) : PT X (.Compare l [o] [r] pos) (tB (rdCmp X.K op ta tb)) := by
  have hop := cop_ok (X := X) h.hu ho
  have base := pt_cmpR (pos := pos) hop ha hb (bim_ok hs)
  cases op <;> cases o <;> first | (cases ho; done) | exact base | skip
  · have q := PT.or2 base (pt_cmp (pos := pos) (pc_din (by have := h.hu; omega) ha hb) (bim_ok hs))
    exact ⟨fun pins s σ H Q I hw => q.run pins s σ H Q I hw⟩
  · have q := PT.or2 base (pt_cmp (pos := pos) (pc_dnotin (by have := h.hu; omega) ha hb) (bim_ok hs))
    exact ⟨fun pins s σ H Q I hw => q.run pins s σ H Q I hw⟩
theorem pw_of {op : BoolOp} {vs : List Expr} {pos : Pos} {t : TT} (h : PT X (.BoolOp op vs pos) t) : PW X (.BoolOp op vs pos) t := ⟨fun wh pins s σ H Q I hw => h.run pins s σ H Q I hw⟩
/-- names as targets -/
theorem pg_nm (h : Cok X c sp) {i : Nat} {e : Expr} (v : chkNm c i e = true) : PG X e (gName i) := by
  cases e <;> first | (simp only [chkNm] at v; cases v; done) | skip
  simp only [chkNm, Bool.and_eq_true] at v
  obtain ⟨l1, l2⟩ := h.loc v.2
  exact pg_name (by rw [h.N]; exact h.nd) (h.ix v.1) l1 l2
theorem pg_nms (h : Cok X c sp) : ∀ {is : List Nat} {es : List Expr}, chkNms c is es = true → PGs X es (rdG.rdGs is) ∧ (assignEach es X.env).length = is.length ∧ (assignEach es X.env).findIdx? (·.1) = none
  | [], [], _ => ⟨pgs_nil, rfl, rfl⟩
  | [], _ :: _, v => by simp only [chkNms] at v; cases v
  | _ :: _, [], v => by simp only [chkNms] at v; cases v
  | i :: is, e :: es, v => by
    simp only [chkNms, Bool.and_eq_true] at v
    obtain ⟨q1, q2, q3⟩ := pg_nms h v.2
    have g := pg_nm h v.1
    cases e <;> first | (simp only [chkNm] at v; cases v.1; done) | skip
    refine ⟨pgs_cons g q1, ?_, ?_⟩
    · show (assignEach es X.env).length + 1 = is.length + 1
      rw [q2]
    · show ((false, _) :: assignEach es X.env).findIdx? (·.1) = none
      rw [List.findIdx?_cons]
      simp only [Bool.false_eq_true, if_false]
      rw [q3]
      rfl
theorem pg_ok (h : Cok X c sp) {g : Tg} {e : Expr} (v : chkG c g e = true) : PG X e (rdG X.K g) := by
  cases g with
  | nm i => exact pg_nm h v
  | tp is =>
    cases e <;> first | (simp only [chkG] at v; cases v; done) | skip
    simp only [chkG] at v
    obtain ⟨q1, q2, q3⟩ := pg_nms h v
    exact pg_tup h.calm q1 q2 q3
end
end R

set_option linter.all false
set_option maxHeartbeats 4000000
set_option maxRecDepth 100000
/-! Exceptions: isinstance of what was caught; a try that keeps what it caught. -/
namespace R
open PySem L2
section
variable {X : Cx}
theorem cvv_rel {K : PySem.W.Frag} {d : Str} : RelV (cVV K d) (cV K d) := by
  unfold cVV cV
  split
  · rfl
  · rfl
theorem cvv_eq {K : PySem.W.Frag} {d : Str} {u : Value} (r : RelV (cVV K d) u) : u = cV K d := by
  unfold cVV at r
  unfold cV
  split at r
  · rename_i e
    rw [if_pos e]
    exact r
  · rename_i e
    rw [if_neg e]
    exact r
theorem cvv_all {K : PySem.W.Frag} : ∀ {cs : List Str} {us : List Value}, Vals (cs.map (cVV K)) us → us = cs.map (cV K)
  | [], _, .nil => rfl
  | d :: ds, _, .cons r t => by
    rw [cvv_eq r, cvv_all t]
    rfl
theorem exh_at {pins : List (Addr × Obj)} {σ : L2.St} {H : Hp} {s : Shared} {a C : Addr} {d : Option Addr} (I : Inv X pins σ H s) (h : H a = some (ExHD (.ref C) d a)) (hd : d = none ∨ ∃ dd fs, d = some dd ∧ H dd = some (.xd fs)) : ∃ oe od, PySem.W.InstAt s.heap a oe C od := by
  have q : ObjOk X.prog X.w H s.heap a (ExHD (.ref C) d a) := I.hok a _ h
  obtain ⟨⟨oe, vs, e, z, da⟩, _⟩ := q
  have nc : PySem.W.notCls oe := by unfold PySem.W.notCls; rw [da] <;> trivial
  rcases hd with rfl | ⟨dd, fs, rfl, hx⟩
  · refine ⟨oe, none, e, z.1, nc, ?_⟩
    rw [z.2] <;> trivial
  · obtain ⟨mA, hns, _⟩ := (show ObjOk X.prog X.w H s.heap dd (.xd fs) from I.hok dd _ hx)
    obtain ⟨od, ho, _⟩ := lookIn_ns hns
    exact ⟨oe, some od, e, z.1, nc, by rw [z.2]; exact ho⟩
theorem exAs_d {K : PySem.W.Frag} {H : Hp} {c : Str} {cls : Value} {d : Option Addr} (h : ExAs K H c cls d) : d = none ∨ ∃ dd fs, d = some dd ∧ H dd = some (.xd fs) := by
  rcases h with ⟨_, _, h⟩ | ⟨n, dd, _, _, h3, h4⟩
  · exact .inl h
  · exact .inr ⟨dd, _, h3, h4⟩
theorem exh_ok {P : Program} {w : World} {H : Hp} {h : Heap} {a : Addr} {cls : Value} {d : Option Addr} {oe : Obj} {vs : Array Value} (e : h.get? a = some oe) (z : Zc cls d oe) (da : oe.data = .fields vs) : ObjOk P w H h a (ExHD cls d a) :=
  ⟨⟨oe, vs, e, z, da⟩, ⟨oe, e⟩, fun _ _ ⟨o, v, q, r⟩ k => ⟨o, v, k o q, r⟩⟩
theorem kitx_of_exc {K : PySem.W.Frag} {C x : Addr} {ox : Obj} {od : Option Obj} (E : ExcC K C) : PySem.W.KitX K (.ref x) (.ref C) (fun h => PySem.W.InstAt h x ox C od) :=
  PySem.W.kitx_exc (by obtain ⟨cd, hc, _⟩ := PySem.W.any_some E.hd; rw [hc]; rfl) E.hg E.hk E.hs E.ha E.hn E.ht E.hm
theorem exc_any {K : PySem.W.Frag} {c : Str} : ∀ {cs : List Str} {b : Bool}, (∀ d ∈ cs, ∀ b, excSub c d = some b → PySem.W.kitOne K (.ref (cA K c)) (cV K d) = some b) → excAny c cs = some b → PySem.W.kitAny K (.ref (cA K c)) (cs.map (cV K)) = some b
  | [], b, _, h => by
    simp only [excAny] at h
    cases h
    rfl
  | d :: ds, b, hk, h => by
    simp only [excAny] at h
    split at h
    · cases h
    · rename_i b1 e1
      split at h
      · cases h
      · rename_i r e2
        cases h
        have ih := exc_any (fun d m => hk d (List.mem_cons_of_mem _ m)) e2
        refine kitAny_cons (hk d List.mem_cons_self b1 e1) (fun z => ?_) fun z => ?_
        · rw [z, Bool.false_or]
          exact ih
        · rw [z, Bool.true_or]
def XpOk (K : PySem.W.Frag) (rz cs : List Str) : Prop := ∀ c ∈ rz, ExcC K (cA K c) ∧ ∀ d ∈ cs, ∀ b, excSub c d = some b → PySem.W.kitOne K (.ref (cA K c)) (cV K d) = some b
theorem cr_isX {rz cs : List Str} (hx : XpOk X.K rz cs) : CallR X (.builtin "isinstance") (rIsX X.K rz cs) := by
  intro pins s σ H xs us Q I r h
  obtain ⟨a, c0, y, b, cls, dd, rfl, ⟨d, rfl, rfl⟩, h0, ha, hc, e, q⟩ := h
  have hcl := h0.cl
  subst hcl
  have hdd := exAs_d h0
  generalize excC c0 = c at *
  obtain ⟨u1, u2, rfl, r1, r2⟩ := vals2 r
  cases (show u1 = Value.ref a from r1)
  cases cvv_eq r2
  obtain ⟨oe, od, J⟩ := exh_at I ha hdd
  obtain ⟨C, hk⟩ := hx c hc
  have e' : PySem.W.kitOne X.K (.ref (cA X.K c)) (cV X.K d) = some b := by
    simp only [excAny] at e
    split at e
    · cases e
    · rename_i b1 e1
      rw [Bool.or_false] at e
      cases e
      exact hk d List.mem_cons_self _ e1
  exact PySem.W.kia_one (kitx_of_exc C) I.kIn J e' (fun z => nomatch z) fun tk => ⟨.bl b, H, I.tok tk, rfl, q⟩
theorem cr_isXT {rz cs : List Str} (hx : XpOk X.K rz cs) : CallR X (.builtin "isinstance") (rIsXT X.K rz cs) := by
  intro pins s σ H xs us Q I r h
  obtain ⟨a, T, c0, b, cls, dd, rfl, hT, h0, ha, hc, e, q⟩ := h
  have hcl := h0.cl
  subst hcl
  have hdd := exAs_d h0
  generalize excC c0 = c at *
  obtain ⟨u1, u2, rfl, r1, r2⟩ := vals2 r
  cases (show u1 = Value.ref a from r1)
  cases (show u2 = Value.ref T from r2)
  obtain ⟨oe, od, J⟩ := exh_at I ha hdd
  obtain ⟨C, hk⟩ := hx c hc
  obtain ⟨_, its, rv, o, h1, h2, n, h3⟩ := (show ObjOk X.prog X.w H s.heap T (.tup (cs.map (cVV X.K))) from I.hok T _ hT)
  have e3 := cvv_all rv
  subst e3
  obtain ⟨oc, od, dt, sl⟩ := o
  simp only at h2 h3
  subst h2 h3
  exact PySem.W.kia_tup (kitx_of_exc C) I.kIn J h1 (exc_any hk e) (fun z => nomatch z) fun tk => ⟨.bl b, H, I.tok tk, rfl, q⟩
end
end R

set_option linter.all false
set_option maxHeartbeats 4000000
set_option maxRecDepth 100000
namespace R
open PySem L2
section
variable {X : Cx} {pins : List (Addr × Obj)} {σ : L2.St} {H : Hp} {s : Shared}
/-- an object that lies in the heap, untracked so far, is tracked -/
theorem inv_track {a : Addr} {o : HO} (I : Inv X pins σ H s) (hn : H a = none) (n0 : X.s_0.heap.get? a = none) (nL : a ≠ X.env.locals) (nC : ∀ x, X.env.cells.lookup x ≠ some a) (np : ∀ p ∈ X.pn ++ pins, p.1 ≠ a)
    (new : ObjOk X.prog X.w (upd H a o) s.heap a o) : Inv X pins σ (upd H a o) s := by
  refine ⟨I.ok, I.os, I.bare, ⟨I.base.keep, I.base.slot, fun b u q n hx => ?_, I.base.there, fun b xs e => ?_, fun b u xs e => ?_, fun b ps e => ?_⟩, I.loc, I.cell, ?_, fun x c e => ?_, fun p hp => ?_, HOk.laidN I.hok (fun _ _ h => h) hn new, I.len⟩
  · have : b ≠ a := fun z => by rw [z, n0] at q; cases q
    rw [upd_ne this]
    exact I.base.free b u q n hx
  · have q := I.base.tups b xs e
    rw [upd_ne (ne_of_none q hn)]
    exact q
  · have q := I.base.frzs b u xs e
    rw [upd_ne (ne_of_none q hn)]
    exact q
  · obtain ⟨more, q⟩ := I.base.tbls b ps e
    refine ⟨more, ?_⟩
    rw [upd_ne (ne_of_none q hn)]
    exact q
  · rw [upd_ne (Ne.symm nL)]
    exact I.free
  · have : c ≠ a := fun z => nC x (by rw [← z]; exact e)
    rw [upd_ne this]
    exact I.freeC x c e
  · obtain ⟨h1, h2, h3⟩ := I.pin p hp
    refine ⟨h1, ?_, h3⟩
    rw [upd_ne (np p hp)]
    exact h2
/-- the wish of the library's context, from mine -/
def WXo (K : PySem.W.Frag) (W : Str → Hp → Prop) : WX := fun cls d _ H => EW K W cls d H
/-- what stands around a def's own statements -/
structure Top (X : Cx) : Prop where
  st : X.stack = X.env :: X.outer
  fr : X.env.frame = some X.env.locals
  ex : X.ex = []
theorem ps_tryK {x n y : Str} {np yp zp ap pos pos' : Pos} {body : List Stmt} {rz : List Str} {t : Str} {v en : Nat} {tb : (Str → Hp → Prop) → TS} (T : Top X) (hN : X.N.Nodup) (hi : X.N[en]? = some n) (hln : X.env.kindOf n = some .local) (hv : X.N[v]? = some y)
    (hy : L2.Loc X.env.scope y) (hyf : X.fn y = true ∨ X.env.scope.names.lookup y = some .local) (hvis : Vis X.env.scope n) (hnd : (n == ("__debug__" : Str)) = false) (hnc : (n == ("__classdict__" : Str)) = false) (hlo : X.env.scope.names.lookup n = some .local) (ne : v ≠ en)
    (hc : Names X x (.ref (cA X.K t))) (hx : ∀ r ∈ rz, excSub r t = some true → PySem.W.exmOne X.K (.ref (cA X.K r)) (.ref (cA X.K t)) = some true)
    (hb : ∀ (W : Str → Hp → Prop) (pn : List (Addr × Obj)) (xe : Value → Shared → Prop), Takes (X.tr pn xe) (WXo X.K W) → PassesOwn (model X.prog X.w) X.A X.env xe → PSs (X.tr pn xe) body (tb W)) :
    PS X (.Try body [.ExceptHandler (some (.Name x np)) (some n) [.Assign [.Name y yp] (.Name n zp) ap] pos'] [] [] pos) (fun D σ H => tb (WT X.K rz t v D σ) D σ H) := by
  refine ⟨fun pins s σ H D I h => ?_⟩
  have ok := I.ok
  have hfr : X.A.frames = some (X.env :: X.outer) := by rw [ok.frames, T.st]
  have hlen := I.len
  have run := (hb (WT X.K rz t v D σ) (X.pn ++ pins) (fun e s₁ => wpAny (model X.prog X.w) X.A (noteFrame e X.env) (fun _ s₂ => wpAny (model X.prog X.w) X.A (setFlight e none) (fun _ s₃ =>
    wpAny (model X.prog X.w) X.A (handleBy e X.env [.ExceptHandler (some (.Name x np)) (some n) [.Assign [.Name y yp] (.Name n zp) ap] pos']) (SP X pins D) X.xe s₃) X.xe s₂) X.xe s₁) ?caught PassesOwn.looking).run [] s σ H D (I.toTry _) h
  case caught =>
    rintro u s' ⟨a, B, sI, pins', σ', H', cls, d, rfl, J', nb, up, sky, na, os, ag, c, ea, hcr, hct, hW⟩
    have hcl := ea.cl
    subst hcl
    have J : Inv X pins σ' H' sI := J'.ofTry ok
    rw [T.st] at sky
    show wpAny (model X.prog X.w) X.A (noteFrame (.ref a) X.env) _ _ _
    refine Sky.land Zc.steady hfr T.fr sky fun h3 fl3 up3 => ?_
    have J3 : Inv X pins σ' H' { s' with heap := h3 } := J.landed nb fl3.1 (up.trans up3) os ag
    obtain ⟨oe3, vs3, he3, hz3, hd3⟩ := fl3.there
    have nfr : a ∉ frs (X.env :: X.outer) := fun hm => by
      obtain ⟨_, o', e', hnf⟩ := fl3.2.2.1.mem hm
      rw [he3] at e'
      cases e'
      exact hnf _ hd3
    have nL : a ≠ X.env.locals := fun z => nfr (List.mem_filterMap.mpr ⟨X.env, List.mem_cons_self, by rw [T.fr, z]⟩)
    have nF : a ∉ X.fs := fun hm => by
      obtain ⟨e, he, q⟩ := List.mem_filterMap.mp hm
      exact nfr (List.mem_filterMap.mpr ⟨e, List.mem_cons_of_mem _ he, q⟩)
    have nI : sI.heap.get? a = none := by
      cases q : sI.heap.get? a with
      | none => rfl
      | some o =>
        have z := nb a o q (by rw [T.st]; exact nfr)
        rw [fl3.2.1] at z
        cases z
    have n0 : X.s_0.heap.get? a = none := by
      cases q : X.s_0.heap.get? a with
      | none => rfl
      | some o =>
        obtain ⟨o', z⟩ := J.base.there a o q (by rw [T.ex]; exact List.not_mem_nil)
        rw [nI] at z
        cases z
    have npn : ∀ p ∈ X.pn ++ pins, p.1 ≠ a := fun p hp z => by
      have q := (J.pin p hp).1
      rw [z, nI] at q
      cases q
    have S3 := J3.suite he3 hd3 na nL nF
    refine wpAny_handleBy_cons (codeAny_handlers_test ?_) (by intro q; cases q)
    have LT : PySem.W.Looks (model X.prog X.w) h3 (typeOf (.ref a)) (.ref (cA X.K (excC c))) := fun A Q E s k q => wpAny_typeOf_ref (k _ _ he3) (by rw [hz3.1]; exact q)
    have LM := PySem.W.exm_one (M := model X.prog X.w) (J3.kIn) LT (hx (excC c) hcr hct)
    have test : ∀ {Q : Value → Shared → Prop} {E : Value → Shared → Prop}, Q (.ref (cA X.K t)) { s' with heap := h3 } → wpAny (model X.prog X.w) (X.A.mark (some (.ref a))) (eval (.Name x np) X.env) Q E { s' with heap := h3 } := fun {Q E} q => by
      obtain ⟨hg, hdbg, hm | ⟨hm, hv', hnn⟩⟩ := hc
      · exact ld_glob (X := X.suite a ((a, oe3) :: (X.pn ++ pins))) S3 hg hm q hdbg
      · exact ld_blt (X := X.suite a ((a, oe3) :: (X.pn ++ pins))) S3 hg hm hv' q hnn hdbg
    refine test (LM.here ?_)
    refine codeAny_handlers_suite_as ?_
    refine HandSPX.lands_againZ fl3 fun h4 fl4 up4 => ?_
    have J4 : Inv X pins σ' H' { s' with heap := h4 } := J.landed nb fl4.1 ((up.trans up3).trans up4) os ag
    obtain ⟨oe4, vs4, he4, hz4, hd4⟩ := fl4.there
    have S4 := J4.suite he4 hd4 na nL nF
    have hloc : L2.Loc X.env.scope n := .inl hln
    refine store_ok (X := X.suite a ((a, oe4) :: (X.pn ++ pins))) (v := .ref a) S4 hN hi hloc rfl (fun s5 S5 => ?_) (.inr hln)
    have sN : (X.suite a ((a, oe4) :: (X.pn ++ pins))).N.Nodup := hN
    have ls' : σ'.length = σ.length := J.len.trans hlen.symm
    have len : en < σ'.length := by
      rw [J.len]
      exact (List.getElem?_eq_some_iff.mp hi).1
    have lvn : v < σ'.length := by
      rw [J.len]
      exact (List.getElem?_eq_some_iff.mp hv).1
    have hsu : PSs (X.suite a ((a, oe4) :: (X.pn ++ pins))) [.Assign [.Name y yp] (.Name n zp) ap] (tAsg (tVar en) (gName v)) :=
      pss_one (ps_set (i := v) sN hv hy (pe_var hi hvis hnd hnc) rfl hyf)
    refine wpAny_mono (hsu.run [] s5 _ H' { nx := fun σ6 H6 => σ6 = (σ'.set en (some (.ref a))).set v (some (.ref a)) ∧ H6 = H', rt := fun _ _ => False, bk := fun _ _ => False, ct := fun _ _ => False } S5 ⟨.ref a, List.getElem?_set_self len, rfl, rfl⟩) (fun f s6 hsp => ?_) (fun _ _ z => False.elim z)
    cases f with
    | next =>
      obtain ⟨σ6, H6, S6, e1, e2⟩ := hsp
      rw [e1, e2] at S6
      have J6 := S6.unsuite ok
      have hp6 := S6.pin (a, oe4) (List.mem_append.mpr (.inl List.mem_cons_self))
      have nC : ∀ x, X.env.cells.lookup x ≠ some a := fun x e => by
        obtain ⟨w, o, ho, hdo⟩ := J6.cell x a e
        rw [hp6.1] at ho
        cases ho
        rw [hd4] at hdo
        cases hdo
      have J7 := inv_track (o := ExHD (.ref (cA X.K (excC c))) d a) J6 na n0 nL nC npn (exh_ok hp6.1 hz4 hd4)
      refine gone_ok J7 hN hi hln fun s7 J8 => ⟨_, _, J8, hW a _ d _ ea na ?_ ?_⟩
      · rw [List.length_set, List.length_set, List.length_set]
        exact ls'
      · rw [List.getElem?_set_ne (Ne.symm ne), List.getElem?_set_self (by rw [List.length_set]; exact lvn)]
    | brk => obtain ⟨σ6, H6, S6, z⟩ := hsp; exact z.elim
    | cont => obtain ⟨σ6, H6, S6, z⟩ := hsp; exact z.elim
    | ret u => obtain ⟨v6, σ6, H6, S6, r6, z⟩ := hsp; exact z.elim
  refine wpAny_Try_except (wpAny_mono run (fun f s1 hsp => ?_) fun e s1 he => he)
  cases f with
  | next =>
    obtain ⟨σ', H', J', q⟩ := hsp
    exact wpAny_execs_nil ⟨σ', H', J'.ofTry ok, q⟩
  | brk =>
    obtain ⟨σ', H', J', q⟩ := hsp
    exact ⟨σ', H', J'.ofTry ok, q⟩
  | cont =>
    obtain ⟨σ', H', J', q⟩ := hsp
    exact ⟨σ', H', J'.ofTry ok, q⟩
  | ret u =>
    obtain ⟨v, σ', H', J', r, q⟩ := hsp
    exact ⟨v, σ', H', J'.ofTry ok, r, q⟩
theorem ps_tryA {x n y : Str} {np yp zp ap pos pos' : Pos} {wp : Pos} {fI : Addr} {body : List Stmt} {t : Str} {v en : Nat} {tb : (Str → Hp → Prop) → TS} (T : Top X) (hN : X.N.Nodup) (hi : X.N[en]? = some n) (hln : X.env.kindOf n = some .local) (hv : X.N[v]? = some y)
    (hy : L2.Loc X.env.scope y) (hyf : X.fn y = true ∨ X.env.scope.names.lookup y = some .local) (hvis : Vis X.env.scope n) (hnd : (n == ("__debug__" : Str)) = false) (hnc : (n == ("__classdict__" : Str)) = false) (hlo : X.env.scope.names.lookup n = some .local) (ne : v ≠ en)
    (hc : Names X x (.ref (cA X.K t))) (NT : PySem.NbX.NbTxt X.K X.mg (cA X.K t) fI)
    (hb : ∀ (W : Str → Hp → Prop) (pn : List (Addr × Obj)) (xe : Value → Shared → Prop), Takes (X.tr pn xe) (WXo X.K W) → PassesOwn (model X.prog X.w) X.A X.env xe → PSs (X.tr pn xe) body (tb W)) :
    PS X (.Try body [.ExceptHandler (some (.Name x np)) (some n) [.Assign [.Name y yp] (.Attribute (.Name n zp) "at" wp) ap] pos'] [] [] pos) (fun D σ H => tb (WA t v D σ) D σ H) := by
  refine ⟨fun pins s σ H D I h => ?_⟩
  have ok := I.ok
  have hfr : X.A.frames = some (X.env :: X.outer) := by rw [ok.frames, T.st]
  have hlen := I.len
  have run := (hb (WA t v D σ) (X.pn ++ pins) (fun e s₁ => wpAny (model X.prog X.w) X.A (noteFrame e X.env) (fun _ s₂ => wpAny (model X.prog X.w) X.A (setFlight e none) (fun _ s₃ =>
    wpAny (model X.prog X.w) X.A (handleBy e X.env [.ExceptHandler (some (.Name x np)) (some n) [.Assign [.Name y yp] (.Attribute (.Name n zp) "at" wp) ap] pos']) (SP X pins D) X.xe s₃) X.xe s₂) X.xe s₁) ?caught PassesOwn.looking).run [] s σ H D (I.toTry _) h
  case caught =>
    rintro u s' ⟨a, B, sI, pins', σ', H', cls, d, rfl, J', nb, up, sky, na, os, ag, c, ea, hct, n1, hpn, hW⟩
    obtain ⟨en1, _⟩ | ⟨n2, dd1, en1, rfl, rfl, hdd⟩ := ea
    · rw [hpn] at en1
      cases en1
    rw [hpn] at en1
    cases en1
    subst hct
    have J : Inv X pins σ' H' sI := J'.ofTry ok
    rw [T.st] at sky
    show wpAny (model X.prog X.w) X.A (noteFrame (.ref a) X.env) _ _ _
    refine Sky.land Zc.steady hfr T.fr sky fun h3 fl3 up3 => ?_
    have J3 : Inv X pins σ' H' { s' with heap := h3 } := J.landed nb fl3.1 (up.trans up3) os ag
    obtain ⟨oe3, vs3, he3, hz3, hd3⟩ := fl3.there
    have nfr : a ∉ frs (X.env :: X.outer) := fun hm => by
      obtain ⟨_, o', e', hnf⟩ := fl3.2.2.1.mem hm
      rw [he3] at e'
      cases e'
      exact hnf _ hd3
    have nL : a ≠ X.env.locals := fun z => nfr (List.mem_filterMap.mpr ⟨X.env, List.mem_cons_self, by rw [T.fr, z]⟩)
    have nF : a ∉ X.fs := fun hm => by
      obtain ⟨e, he, q⟩ := List.mem_filterMap.mp hm
      exact nfr (List.mem_filterMap.mpr ⟨e, List.mem_cons_of_mem _ he, q⟩)
    have nI : sI.heap.get? a = none := by
      cases q : sI.heap.get? a with
      | none => rfl
      | some o =>
        have z := nb a o q (by rw [T.st]; exact nfr)
        rw [fl3.2.1] at z
        cases z
    have n0 : X.s_0.heap.get? a = none := by
      cases q : X.s_0.heap.get? a with
      | none => rfl
      | some o =>
        obtain ⟨o', z⟩ := J.base.there a o q (by rw [T.ex]; exact List.not_mem_nil)
        rw [nI] at z
        cases z
    have npn : ∀ p ∈ X.pn ++ pins, p.1 ≠ a := fun p hp z => by
      have q := (J.pin p hp).1
      rw [z, nI] at q
      cases q
    have S3 := J3.suite he3 hd3 na nL nF
    refine wpAny_handleBy_cons (codeAny_handlers_test ?_) (by intro q; cases q)
    have LT : PySem.W.Looks (model X.prog X.w) h3 (typeOf (.ref a)) (.ref (cA X.K (excC c))) := fun A Q E s k q => wpAny_typeOf_ref (k _ _ he3) (by rw [hz3.1]; exact q)
    have LM := PySem.W.exm_one (M := model X.prog X.w) (J3.kIn) LT NT.te
    have test : ∀ {Q : Value → Shared → Prop} {E : Value → Shared → Prop}, Q (.ref (cA X.K (excC c))) { s' with heap := h3 } → wpAny (model X.prog X.w) (X.A.mark (some (.ref a))) (eval (.Name x np) X.env) Q E { s' with heap := h3 } := fun {Q E} q => by
      obtain ⟨hg, hdbg, hm | ⟨hm, hv', hnn⟩⟩ := hc
      · exact ld_glob (X := X.suite a ((a, oe3) :: (X.pn ++ pins))) S3 hg hm q hdbg
      · exact ld_blt (X := X.suite a ((a, oe3) :: (X.pn ++ pins))) S3 hg hm hv' q hnn hdbg
    refine test (LM.here ?_)
    refine codeAny_handlers_suite_as ?_
    refine HandSPX.lands_againZ fl3 fun h4 fl4 up4 => ?_
    have J4 : Inv X pins σ' H' { s' with heap := h4 } := J.landed nb fl4.1 ((up.trans up3).trans up4) os ag
    obtain ⟨oe4, vs4, he4, hz4, hd4⟩ := fl4.there
    have S4 := J4.suite he4 hd4 na nL nF
    have hloc : L2.Loc X.env.scope n := .inl hln
    refine store_ok (X := X.suite a ((a, oe4) :: (X.pn ++ pins))) (v := .ref a) S4 hN hi hloc rfl (fun s5 S5 => ?_) (.inr hln)
    have sN : (X.suite a ((a, oe4) :: (X.pn ++ pins))).N.Nodup := hN
    have ls' : σ'.length = σ.length := J.len.trans hlen.symm
    have len : en < σ'.length := by
      rw [J.len]
      exact (List.getElem?_eq_some_iff.mp hi).1
    have lvn : v < σ'.length := by
      rw [J.len]
      exact (List.getElem?_eq_some_iff.mp hv).1
    have hsu : PSs (X.suite a ((a, oe4) :: (X.pn ++ pins))) [.Assign [.Name y yp] (.Attribute (.Name n zp) "at" wp) ap] (tAsg (tAtNb (cA X.K (excC c)) a (.ref (cA X.K (excC c))) (some dd1) (tVar en)) (gName v)) :=
      pss_one (ps_set (i := v) sN hv hy (pe_atNb NT hz4 ⟨vs4, hd4⟩ (pe_var hi hvis hnd hnc)) rfl hyf)
    refine wpAny_mono (hsu.run [] s5 _ H' { nx := fun σ6 H6 => σ6 = (σ'.set en (some (.ref a))).set v (some (.int (n1 : Nat))) ∧ H6 = H', rt := fun _ _ => False, bk := fun _ _ => False, ct := fun _ _ => False } S5 ⟨.ref a, List.getElem?_set_self len, rfl, rfl, dd1, .int (n1 : Nat), rfl, hdd, rfl, rfl⟩) (fun f s6 hsp => ?_) (fun _ _ z => False.elim z)
    cases f with
    | next =>
      obtain ⟨σ6, H6, S6, e1, e2⟩ := hsp
      rw [e1, e2] at S6
      have J6 := S6.unsuite ok
      refine gone_ok J6 hN hi hln fun s7 J8 => ⟨_, _, J8, hW _ ?_ ?_⟩
      · rw [List.length_set, List.length_set, List.length_set]
        exact ls'
      · rw [List.getElem?_set_ne (Ne.symm ne), List.getElem?_set_self (by rw [List.length_set]; exact lvn)]
    | brk => obtain ⟨σ6, H6, S6, z⟩ := hsp; exact z.elim
    | cont => obtain ⟨σ6, H6, S6, z⟩ := hsp; exact z.elim
    | ret u => obtain ⟨v6, σ6, H6, S6, r6, z⟩ := hsp; exact z.elim
  refine wpAny_Try_except (wpAny_mono run (fun f s1 hsp => ?_) fun e s1 he => he)
  cases f with
  | next =>
    obtain ⟨σ', H', J', q⟩ := hsp
    exact wpAny_execs_nil ⟨σ', H', J'.ofTry ok, q⟩
  | brk =>
    obtain ⟨σ', H', J', q⟩ := hsp
    exact ⟨σ', H', J'.ofTry ok, q⟩
  | cont =>
    obtain ⟨σ', H', J', q⟩ := hsp
    exact ⟨σ', H', J'.ofTry ok, q⟩
  | ret u =>
    obtain ⟨v, σ', H', J', r, q⟩ := hsp
    exact ⟨v, σ', H', J'.ofTry ok, r, q⟩
/-- the field of an exception that was caught -/
theorem pe_exAt {e : Expr} {te : TE} {rz : List Str} {pos : Pos} (T : ∀ r ∈ rz, ∃ fI, PySem.NbX.NbTxt X.K X.mg (cA X.K r) fI) (he : PE X e te) (hb : attributeBase e "at" X.env (eval e X.env) = eval e X.env) : PE X (.Attribute e "at" pos) (tExAt X.K rz te) := by
  refine ⟨fun pins s σ H Q I h => ?_⟩
  refine attr_of hb (thn (he.run pins s σ H _ I h) fun u s1 hh => ?_)
  obtain ⟨x, H1, I1, rx, a, c, cls, d, n, ex, h0, ha, en, hc, q⟩ := hh
  subst ex
  obtain rfl : u = Value.ref a := rx
  obtain ⟨fI, T⟩ := T _ hc
  have hcl := h0.cl
  subst hcl
  rcases h0 with ⟨e0, _⟩ | ⟨n2, dd, e2, _, rfl, hx⟩
  · rw [en] at e0
    cases e0
  rw [en] at e2
  cases e2
  obtain ⟨⟨oe, vs, ho, hz, hd⟩, _⟩ := (show ObjOk X.prog X.w H1 s1.heap a (ExHD (.ref (cA X.K (excC c))) (some dd) a) from I1.hok a _ ha)
  obtain ⟨mA, hns, hr⟩ := (show ObjOk X.prog X.w H1 s1.heap dd (.xd [(("at" : Str), .int (n : Nat))]) from I1.hok dd _ hx)
  obtain ⟨od, hod, hl⟩ := lookIn_ns hns
  have l : List.lookup ("at" : Str) [(("at" : Str), V.int (n : Nat))] = some (.int (n : Nat)) := by simp [List.lookup]
  obtain ⟨u, hu, ru⟩ := RelO.some_of (v := .int (n : Nat)) (o := mA "at") (by rw [← l]; exact hr "at")
  have J : PySem.W.InstAt s1.heap a oe (cA X.K (excC c)) (some od) := ⟨ho, hz.1, by unfold PySem.W.notCls; rw [hd] <;> rfl, by rw [hz.2]; exact hod⟩
  exact HandSPX.exc_get I1.kIn J T.ga T.gg T.exC (PySem.W.findObj_own T.hdC T.noN rfl (by rw [hl, hu])) (handed_of ru) ⟨.int (n : Nat), H1, I1.tok _, ru, q⟩
end
end R

set_option linter.all false
set_option maxHeartbeats 4000000
set_option maxRecDepth 100000
namespace R
open PySem L2
/-- several, each by itself -/
def PLs (X : Cx) (sp : Nat → Sp) : List IE → List Expr → Prop
  | [], [] => True
  | e :: es, x :: xs => notStar x = true ∧ PE X x (rdE X.K sp e) ∧ PLs X sp es xs
  | _, _ => False
section
variable {X : Cx} {c : Cc} {sp : Nat → Sp}
theorem PLs.ns : ∀ {es : List IE} {xs : List Expr}, PLs X sp es xs → xs.all notStar = true
  | [], [], _ => rfl
  | [], _ :: _, h => h.elim
  | _ :: _, [], h => h.elim
  | e :: es, x :: xs, h => by
    obtain ⟨h1, _, h3⟩ := h
    simp only [List.all_cons, h1, PLs.ns h3, Bool.and_self]
theorem PLs.pa : ∀ {es : List IE} {xs : List Expr}, PLs X sp es xs → PA X xs (rdA X.K sp es)
  | [], [], _ => by simp only [rdA]; exact pa_nil
  | [], _ :: _, h => h.elim
  | _ :: _, [], h => h.elim
  | e :: es, x :: xs, h => by
    obtain ⟨h1, h2, h3⟩ := h
    simp only [rdA]
    exact pa_cons h2 h3.pa (star_ok h1)
theorem pe_never {e : Expr} : PE X e tNev := ⟨fun _ _ _ _ _ _ h => h.elim⟩
theorem pi_never {tg e : Expr} : PI X tg e (fun _ _ _ => False) := ⟨fun _ _ _ _ _ _ h => h.elim⟩
theorem bA {s : Str} (h : s ∈ biNames) : s ∈ biNames := h
/-- sources -/
theorem src_ok (h : Cok X c sp) {k : SK} {tg iter : Expr} {zs : List Expr} {src : List IE} (hs : srcArgs c k tg iter = some zs) (hp : PLs X sp src zs) : PI X tg iter (rdSrc X.K k (rdL X.K sp src) (rdA X.K sp src)) := by
  cases k with
  | seq =>
    simp only [srcArgs, Option.some.injEq] at hs
    subst hs
    match src, hp with
    | [e], hp =>
      simp only [rdL, rdSrc]
      exact PI.or2 (pi_list hp.2.1) (PI.or2 (pi_tup hp.2.1) (pi_str hp.2.1))
    | _ :: _ :: _, hp => exact hp.2.2.elim
  | keys =>
    simp only [srcArgs, Option.some.injEq] at hs
    subst hs
    match src, hp with
    | [e], hp =>
      simp only [rdL, rdSrc]
      exact pi_keys hp.2.1
    | _ :: _ :: _, hp => exact hp.2.2.elim
  | rng =>
    simp only [srcArgs] at hs
    split at hs
    · rename_i x p args pos
      split at hs
      · rename_i hc
        simp only [Option.some.injEq] at hs
        subst hs
        simp only [Bool.and_eq_true, decide_eq_true_eq] at hc
        obtain ⟨rfl, hg⟩ := hc
        have g := (h.glo hg).1
        have m := h.bi "range" (by decide)
        have pa := hp.pa
        have ns := hp.ns
        match args, src, hp with
        | [], [], _ => simp only [rdL, rdSrc]; exact pi_never
        | [a], [e], hp =>
          simp only [rdL, rdSrc]
          exact pi_range1 g m pa (star_ok hp.1)
        | [a, b], [e, f], hp =>
          simp only [rdL, rdSrc]
          exact pi_range2 g m pa (by rw [star_ok hp.1, star_ok hp.2.2.1]; rfl) (star_ok hp.2.2.1)
        | [a, b, d], [e, f, j], hp =>
          simp only [rdL, rdSrc]
          exact pi_range3 g m pa (star_ok hp.1) (any_ns (by have := hp.2.2.ns; exact this))
        | _ :: _ :: _ :: _ :: _, _ :: _ :: _ :: _ :: _, _ => simp only [rdL, rdSrc]; exact pi_never
      · cases hs
    · cases hs
  | enum =>
    simp only [srcArgs] at hs
    split at hs
    · rename_i x p y pos
      split at hs
      · rename_i hc
        simp only [Option.some.injEq] at hs
        subst hs
        simp only [Bool.and_eq_true, decide_eq_true_eq] at hc
        obtain ⟨⟨ht, rfl⟩, hg⟩ := hc
        cases tg <;> first | (cases ht; done) | skip
        match src, hp with
        | [e], hp =>
          simp only [rdL, rdSrc]
          exact PI.or2 (pi_enum (h.glo hg).1 (h.bi "enumerate" (by decide)) hp.pa (star_ok hp.1)) (pi_enumT (h.glo hg).1 (h.bi "enumerate" (by decide)) hp.pa (star_ok hp.1))
        | _ :: _ :: _, hp => exact hp.2.2.elim
      · cases hs
    · cases hs
  | zip =>
    simp only [srcArgs] at hs
    split at hs
    · rename_i x p y z pos
      split at hs
      · rename_i hc
        simp only [Option.some.injEq] at hs
        subst hs
        simp only [Bool.and_eq_true, decide_eq_true_eq] at hc
        obtain ⟨⟨ht, rfl⟩, hg⟩ := hc
        cases tg <;> first | (cases ht; done) | skip
        match src, hp with
        | [e, f], hp =>
          simp only [rdL, rdSrc]
          exact pi_zip (h.glo hg).1 (h.bi "zip" (by decide)) hp.pa (star_ok hp.1) (any_ns (by have := hp.2.2.ns; exact this))
        | [_], hp => exact hp.2.2.elim
        | _ :: _ :: _ :: _, hp => exact hp.2.2.2.2.elim
      · cases hs
    · cases hs
  | rev => simp only [srcArgs] at hs; cases hs
/-! ### len(set(xs)) -/
theorem firstMet_all (ns : List Int) : PyProof.Rows.firstMet (fun i => ns.getD i 0) ns.length = dedup ns := by
  unfold PyProof.Rows.firstMet dedup
  congr 1
  apply List.ext_getElem?
  intro i
  rw [List.getElem?_map]
  by_cases hi : i < ns.length
  · rw [List.getElem?_range hi, List.getElem?_eq_getElem hi]
    simp [List.getD_eq_getElem?_getD, hi]
  · rw [List.getElem?_eq_none (by simp; omega), List.getElem?_eq_none (by omega)]
    rfl
theorem pe_lenSet {a : Expr} {ta : TE} {p p2 q pos : Pos} (hc : X.calm = true) (hg : Gl X "len") (hm : X.mg "len" = none) (hg2 : Gl X "set") (hm2 : X.mg "set" = none) (ha : PE X a ta)
    (na : starEach [a] X.env = (false, eval a X.env) :: starEach [] X.env) : PE X (.Call (.Name "len" p) [.Call (.Name "set" p2) [a] [] q] [] pos) (tLenSet X.K ta) := by
  refine ⟨fun pins s σ H Q I hw => PyProof.Rows.Call_ (ld_blt I hg hm PySem.boot_len (PyProof.Rows.callWith_builtin1 (PyProof.Rows.args_cons ?_ rfl) rfl rfl))⟩
  refine PyProof.Rows.Call_ (ld_blt I hg2 hm2 PyProof.Rows.boot_set (PyProof.Rows.callWith_type1 (PyProof.Rows.args_cons (thn (ha.run pins s σ H _ I hw) ?_) na) na rfl))
  intro v s1 w1
  obtain ⟨x, H1, J, rx, l, ns, rfl, sq, small, fin⟩ := w1
  refine PyProof.Rows.args_nil ?_
  cases rx
  obtain ⟨vs, rv, isl, _⟩ := J.list sq
  have sz : vs.toArray.size = ns.length := by rw [List.size_toArray, ← rv.length, List.length_map]
  refine PySem.call_set_list (ns := ns) (J.ok.hd hc) isl.isList (by simpa using rv.ints) (by unfold PySem.scanBound; omega) ?_
  intro h' tk so keep
  rw [sz, firstMet_all] at so
  obtain ⟨o, es, ep, t, ho, hex, hd, _, _, _, hf, hn⟩ := so
  have bd : (dedup ns).length ≤ ns.length := by
    rw [← firstMet_all]
    exact PyProof.Rows.firstMet_length_le _ _
  have J2 : Inv X pins σ H1 { s1 with heap := h', toks := tk } := J.kept fun b o e => keep b o (Heap.lt_size e) e
  exact PyProof.Rows.args_nil (PySem.call_len_set ho hex hd hf (by rw [hn] <;> omega) ⟨.int (dedup ns).length, H1, J2.tok _, ⟨_, by rw [hn]⟩, fin⟩)
/-! ### built-ins -/
theorem boot_all : bootBuiltins "all" = some (.builtin "all") := by rfl
theorem boot_max : bootBuiltins "max" = some (.builtin "max") := by rfl
theorem boot_min : bootBuiltins "min" = some (.builtin "min") := by rfl
theorem boot_sorted : bootBuiltins "sorted" = some (.builtin "sorted") := by rfl
theorem boot_sum : bootBuiltins "sum" = some (.builtin "sum") := by rfl
theorem boot_isi : bootBuiltins "isinstance" = some (.builtin "isinstance") := by rfl
theorem pe_isi (h : Cok X c sp) {a : Expr} {ta : TE} {t : String} {p p2 pos : Pos} (hb : bootBuiltins t = some (.type t)) (hi : (t : Str) ∈ biNames) (hn : (t : Str) ≠ "__name__") (gi : glB c "isinstance" = true) (gt : glB c t = true) (ha : PE X a ta) (na : notStar a = true) : PE X (.Call (.Name "isinstance" p) [a, .Name t p2] [] pos) (tCB (rIsi X.K) (tCons ta (tCons (tC (.ty t)) tNil))) := by
  have g := h.glo gt
  have pt : PE X (.Name t p2) (tC (.ty t)) := pe_bltn g.1 (h.bi _ hi) hb rfl hn g.2
  exact pe_callB call_isi (h.glo gi).1 (h.bi "isinstance" (by decide)) boot_isi (pa_cons ha (pa_cons pt pa_nil (star_ok rfl)) (star_ok na)) (he := star_ok na) (hpl := any_ns rfl)
theorem xp_ok (h : Cok X c sp) {rz cs : List Str} (v : xB c rz cs = true) : XpOk X.K rz cs := by
  unfold xB at v
  simp only [Bool.and_eq_true, List.all_eq_true, decide_eq_true_eq, Bool.not_eq_true'] at v
  intro r hr
  obtain ⟨⟨v1, _⟩, v2⟩ := v
  match cs, v1 with
  | d :: ds, _ =>
    refine ⟨(h.xt.xp _ (v2 r hr d List.mem_cons_self)).1, fun d' hd b hb => ?_⟩
    exact (h.xt.xp _ (v2 r hr d' hd)).2 b hb
theorem cl_ok (h : Cok X c sp) {d : Str} {e : Expr} (v : chkCl c d e = true) : PE X e (tC (cVV X.K d)) := by
  unfold chkCl at v
  split at v
  · simp only [Bool.and_eq_true, decide_eq_true_eq] at v
    obtain ⟨⟨rfl, g⟩, m⟩ := v
    have g' := h.glo g
    rcases h.xt.xn _ m with ⟨e, q⟩ | ⟨e, q⟩
    · subst e
      exact pe_bltn g'.1 q (show bootBuiltins "ValueError" = some (.type "ValueError") by rfl) cvv_rel (by decide) g'.2
    · refine pe_glob g'.1 q ?_ g'.2
      unfold cVV
      rw [if_neg e]
      rfl
  · cases v
theorem cl_ns {d : Str} {e : Expr} (v : chkCl c d e = true) : notStar e = true := by
  cases e <;> first | rfl | (simp only [chkCl] at v; cases v)
theorem cls_ok (h : Cok X c sp) : ∀ {cs : List Str} {es : List Expr}, chkCls c cs es = true → PA X es (tCls X.K cs)
  | [], [], _ => pa_nil
  | [], _ :: _, v => by simp only [chkCls] at v; cases v
  | _ :: _, [], v => by simp only [chkCls] at v; cases v
  | d :: ds, e :: es, v => by
    simp only [chkCls, Bool.and_eq_true] at v
    exact pa_cons (cl_ok h v.1) (cls_ok h v.2) (star_ok (cl_ns v.1))
theorem pa2 {e f : IE} {a b : Expr} (hp : PLs X sp [e, f] [a, b]) : PA X [a, b] (rdA X.K sp [e, f]) := hp.pa
theorem bi_ok (h : Cok X c sp) {b : BI} {x : Str} {p pos : Pos} {args zs : List Expr} {es : List IE} (hb : biArgs c b x args = some zs) (hp : PLs X sp es zs) : PE X (.Call (.Name x p) args [] pos) (rdBi X.K b (rdL X.K sp es) (rdA X.K sp es)) := by
  unfold biArgs at hb
  split at hb
  case isFalse => cases hb
  rename_i hg
  cases b <;> simp only [biPl, Bool.false_and, Bool.true_and, if_false, reduceCtorEq, Bool.false_eq_true] at hb
  case len =>
    split at hb
    case isFalse => cases hb
    rename_i hx
    cases hb
    replace hx := of_decide_eq_true hx
    simp only [biNm] at hx
    subst hx
    match es, args, hp with
    | [], [], hp => simp only [rdL, rdBi]; exact pe_never
    | _ :: _ :: _, _ :: _ :: _, hp => simp only [rdL, rdBi]; exact pe_never
    | [e], [a], hp =>
      simp only [rdL, rdBi]
      exact pe_callB call_len (h.glo hg).1 (h.bi "len" (by decide)) PySem.boot_len hp.pa (he := star_ok hp.1) (hpl := any_ns rfl)
  case tuple =>
    split at hb
    case isFalse => cases hb
    rename_i hx
    cases hb
    replace hx := of_decide_eq_true hx
    simp only [biNm] at hx
    subst hx
    match es, args, hp with
    | [], [], hp => simp only [rdL, rdBi]; exact pe_never
    | _ :: _ :: _, _ :: _ :: _, hp => simp only [rdL, rdBi]; exact pe_never
    | [e], [a], hp =>
      simp only [rdL, rdBi]
      exact pe_tupleOf (h.glo hg).1 (h.bi "tuple" (by decide)) hp.2.1 (star_ok hp.1)
  case list =>
    split at hb
    case isFalse => cases hb
    rename_i hx
    cases hb
    replace hx := of_decide_eq_true hx
    simp only [biNm] at hx
    subst hx
    match es, args, hp with
    | [], [], hp => simp only [rdL, rdBi]; exact pe_never
    | _ :: _ :: _, _ :: _ :: _, hp => simp only [rdL, rdBi]; exact pe_never
    | [e], [a], hp =>
      simp only [rdL, rdBi]
      exact pe_callTy (call_list_of.or ((call_listK h.calm).or (call_list_dT h.calm))) (h.glo hg).1 (h.bi "list" (by decide)) PyProof.Rows.boot_list hp.pa (he := star_ok hp.1) (hpl := any_ns rfl)
  case dict =>
    split at hb
    case isFalse => cases hb
    rename_i hx
    cases hb
    replace hx := of_decide_eq_true hx
    simp only [biNm] at hx
    subst hx
    match es, args, hp with
    | [], [], hp => simp only [rdL, rdBi]; exact pe_never
    | _ :: _ :: _, _ :: _ :: _, hp => simp only [rdL, rdBi]; exact pe_never
    | [e], [a], hp =>
      simp only [rdL, rdBi]
      exact pe_callTy (call_dictT (by have := h.hu; omega)) (h.glo hg).1 (h.bi "dict" (by decide)) PyProof.Rows.boot_dict hp.pa (he := star_ok hp.1) (hpl := any_ns rfl)
  case int =>
    split at hb
    case isFalse => cases hb
    rename_i hx
    cases hb
    replace hx := of_decide_eq_true hx
    simp only [biNm] at hx
    subst hx
    match es, args, hp with
    | [], [], hp => simp only [rdL, rdBi]; exact pe_never
    | _ :: _ :: _, _ :: _ :: _, hp => simp only [rdL, rdBi]; exact pe_never
    | [e], [a], hp =>
      simp only [rdL, rdBi]
      exact pe_callTy (call_int1.or call_int_str) (h.glo hg).1 (h.bi "int" (by decide)) PyProof.Rows.boot_int hp.pa (he := star_ok hp.1) (hpl := any_ns rfl)
  case str =>
    split at hb
    case isFalse => cases hb
    rename_i hx
    cases hb
    replace hx := of_decide_eq_true hx
    simp only [biNm] at hx
    subst hx
    match es, args, hp with
    | [], [], hp => simp only [rdL, rdBi]; exact pe_never
    | _ :: _ :: _, _ :: _ :: _, hp => simp only [rdL, rdBi]; exact pe_never
    | [e], [a], hp =>
      simp only [rdL, rdBi]
      exact pe_callTy call_str_int (h.glo hg).1 (h.bi "str" (by decide)) PyProof.Rows.boot_str hp.pa (he := star_ok hp.1) (hpl := any_ns rfl)
  case all =>
    split at hb
    case isFalse => cases hb
    rename_i hx
    cases hb
    replace hx := of_decide_eq_true hx
    simp only [biNm] at hx
    subst hx
    match es, args, hp with
    | [], [], hp => simp only [rdL, rdBi]; exact pe_never
    | _ :: _ :: _, _ :: _ :: _, hp => simp only [rdL, rdBi]; exact pe_never
    | [e], [a], hp =>
      simp only [rdL, rdBi]
      exact pe_callB (cr_all h.calm) (h.glo hg).1 (h.bi "all" (by decide)) boot_all hp.pa (he := star_ok hp.1) (hpl := any_ns rfl)
  case sorted =>
    split at hb
    case isFalse => cases hb
    rename_i hx
    cases hb
    replace hx := of_decide_eq_true hx
    simp only [biNm] at hx
    subst hx
    match es, args, hp with
    | [], [], hp => simp only [rdL, rdBi]; exact pe_never
    | _ :: _ :: _, _ :: _ :: _, hp => simp only [rdL, rdBi]; exact pe_never
    | [e], [a], hp =>
      simp only [rdL, rdBi]
      exact pe_callB (cr_sortedI.or (cr_sortedPO.or (cr_sortedTL (by have := h.hu; omega)))) (h.glo hg).1 (h.bi "sorted" (by decide)) boot_sorted hp.pa (he := star_ok hp.1) (hpl := any_ns rfl)
  case sum =>
    split at hb
    case isFalse => cases hb
    rename_i hx
    cases hb
    replace hx := of_decide_eq_true hx
    simp only [biNm] at hx
    subst hx
    match es, args, hp with
    | [], [], hp => simp only [rdL, rdBi]; exact pe_never
    | _ :: _ :: _, _ :: _ :: _, hp => simp only [rdL, rdBi]; exact pe_never
    | [e], [a], hp =>
      simp only [rdL, rdBi]
      exact pe_callB (cr_sum h.calm) (h.glo hg).1 (h.bi "sum" (by decide)) boot_sum hp.pa (he := star_ok hp.1) (hpl := any_ns rfl)
  case max =>
    split at hb
    case isFalse => cases hb
    rename_i hx
    cases hb
    replace hx := of_decide_eq_true hx
    simp only [biNm] at hx
    subst hx
    match es, args, hp with
    | [], [], hp => simp only [rdL, rdBi]; exact pe_never
    | _ :: _ :: _ :: _, _ :: _ :: _ :: _, hp => simp only [rdL, rdBi]; exact pe_never
    | [e, f], [a, b], hp =>
      simp only [rdL, rdBi]
      exact pe_callB ((call_max2 h.calm).or (cr_max h.calm)) (h.glo hg).1 (h.bi "max" (by decide)) boot_max hp.pa (he := star_ok hp.1) (hpl := any_ns (by have := hp.2.2.ns; exact this))
    | [e], [a], hp =>
      simp only [rdL, rdBi]
      exact pe_callB ((call_max2 h.calm).or (cr_max h.calm)) (h.glo hg).1 (h.bi "max" (by decide)) boot_max hp.pa (he := star_ok hp.1) (hpl := any_ns rfl)
  case min =>
    split at hb
    case isFalse => cases hb
    rename_i hx
    cases hb
    replace hx := of_decide_eq_true hx
    simp only [biNm] at hx
    subst hx
    match es, args, hp with
    | [], [], hp => simp only [rdL, rdBi]; exact pe_never
    | _ :: _ :: _ :: _, _ :: _ :: _ :: _, hp => simp only [rdL, rdBi]; exact pe_never
    | [e, f], [a, b], hp =>
      simp only [rdL, rdBi]
      exact pe_callB ((call_min2 h.calm).or (cr_min h.calm)) (h.glo hg).1 (h.bi "min" (by decide)) boot_min hp.pa (he := star_ok hp.1) (hpl := any_ns (by have := hp.2.2.ns; exact this))
    | [e], [a], hp =>
      simp only [rdL, rdBi]
      exact pe_callB ((call_min2 h.calm).or (cr_min h.calm)) (h.glo hg).1 (h.bi "min" (by decide)) boot_min hp.pa (he := star_ok hp.1) (hpl := any_ns rfl)
  case sortedSet =>
    split at hb
    · split at hb
      · rename_i y p2 z q hc
        cases hb
        simp only [Bool.and_eq_true, decide_eq_true_eq] at hc
        obtain ⟨⟨rfl, rfl⟩, hg2⟩ := hc
        match es, hp with
        | [e], hp =>
          simp only [rdL, rdBi]
          exact pe_sortSet h.calm (h.glo hg).1 (h.bi "sorted" (by decide)) (h.glo hg2).1 (h.bi "set" (by decide)) hp.2.1 (star_ok hp.1)
        | _ :: _ :: _, hp => exact hp.2.2.elim
      · cases hb
    · cases hb
  case lenset =>
    split at hb
    · split at hb
      · rename_i y p2 z q hc
        cases hb
        simp only [Bool.and_eq_true, decide_eq_true_eq] at hc
        obtain ⟨⟨rfl, rfl⟩, hg2⟩ := hc
        match es, hp with
        | [e], hp =>
          simp only [rdL, rdBi]
          exact PE.or2 (pe_lenSet h.calm (h.glo hg).1 (h.bi "len" (by decide)) (h.glo hg2).1 (h.bi "set" (by decide)) hp.2.1 (star_ok hp.1)) (PE.or2 (pe_lenSetT h.calm (h.glo hg).1 (h.bi "len" (by decide)) (h.glo hg2).1 (h.bi "set" (by decide)) hp.2.1 (star_ok hp.1)) (PE.or2 (pe_lenSetS h.calm (h.glo hg).1 (h.bi "len" (by decide)) (h.glo hg2).1 (h.bi "set" (by decide)) hp.2.1 (star_ok hp.1)) (pe_lenSetU h.calm (by have := h.hu; omega) (h.glo hg).1 (h.bi "len" (by decide)) (h.glo hg2).1 (h.bi "set" (by decide)) hp.2.1 (star_ok hp.1))))
        | _ :: _ :: _, hp => exact hp.2.2.elim
      · cases hb
    · cases hb
  case isBool =>
    split at hb
    · split at hb
      · rename_i z t p2 hc
        cases hb
        simp only [Bool.and_eq_true, decide_eq_true_eq] at hc
        obtain ⟨⟨rfl, rfl⟩, hg2⟩ := hc
        match es, hp with
        | [e], hp =>
          simp only [rdL, rdBi]
          exact pe_isi h PyProof.Rows.boot_bool (by decide) (by decide) hg hg2 hp.2.1 hp.1
        | _ :: _ :: _, hp => exact hp.2.2.elim
      · cases hb
    · cases hb
  case isInt =>
    split at hb
    · split at hb
      · rename_i z t p2 hc
        cases hb
        simp only [Bool.and_eq_true, decide_eq_true_eq] at hc
        obtain ⟨⟨rfl, rfl⟩, hg2⟩ := hc
        match es, hp with
        | [e], hp =>
          simp only [rdL, rdBi]
          exact pe_isi h PyProof.Rows.boot_int (by decide) (by decide) hg hg2 hp.2.1 hp.1
        | _ :: _ :: _, hp => exact hp.2.2.elim
      · cases hb
    · cases hb
  case isStr =>
    split at hb
    · split at hb
      · rename_i z t p2 hc
        cases hb
        simp only [Bool.and_eq_true, decide_eq_true_eq] at hc
        obtain ⟨⟨rfl, rfl⟩, hg2⟩ := hc
        match es, hp with
        | [e], hp =>
          simp only [rdL, rdBi]
          exact pe_isi h PyProof.Rows.boot_str (by decide) (by decide) hg hg2 hp.2.1 hp.1
        | _ :: _ :: _, hp => exact hp.2.2.elim
      · cases hb
    · cases hb
  case isList =>
    split at hb
    · split at hb
      · rename_i z t p2 hc
        cases hb
        simp only [Bool.and_eq_true, decide_eq_true_eq] at hc
        obtain ⟨⟨rfl, rfl⟩, hg2⟩ := hc
        match es, hp with
        | [e], hp =>
          simp only [rdL, rdBi]
          exact pe_isi h PyProof.Rows.boot_list (by decide) (by decide) hg hg2 hp.2.1 hp.1
        | _ :: _ :: _, hp => exact hp.2.2.elim
      · cases hb
    · cases hb
  case isTuple =>
    split at hb
    · split at hb
      · rename_i z t p2 hc
        cases hb
        simp only [Bool.and_eq_true, decide_eq_true_eq] at hc
        obtain ⟨⟨rfl, rfl⟩, hg2⟩ := hc
        match es, hp with
        | [e], hp =>
          simp only [rdL, rdBi]
          exact pe_isi h PyProof.Rows.boot_tuple (by decide) (by decide) hg hg2 hp.2.1 hp.1
        | _ :: _ :: _, hp => exact hp.2.2.elim
      · cases hb
    · cases hb
  case isExc tp rz cs =>
    cases tp with
    | false =>
      rcases cs with _ | ⟨d, _ | ⟨d', r'⟩⟩ <;> dsimp only at hb
      · simp only [biPl, Bool.false_and, if_false, reduceCtorEq, Bool.false_eq_true] at hb
      · split at hb
        · split at hb
          · rename_i z t p2 hc
            cases hb
            simp only [Bool.and_eq_true, decide_eq_true_eq] at hc
            obtain ⟨⟨rfl, hx⟩, hg2⟩ := hc
            match es, hp with
            | [e], hp =>
              simp only [rdL, rdBi, tIsX]
              exact pe_callB (cr_isX (xp_ok h hx)) (h.glo hg).1 (h.bi "isinstance" (by decide)) boot_isi (pa_cons hp.2.1 (pa_cons (cl_ok h hg2) pa_nil (star_ok rfl)) (star_ok hp.1)) (he := star_ok hp.1) (hpl := any_ns rfl)
            | _ :: _ :: _, hp => exact hp.2.2.elim
          · cases hb
        · cases hb
      · simp only [biPl, Bool.false_and, if_false, reduceCtorEq, Bool.false_eq_true] at hb
    | true =>
      dsimp only at hb
      split at hb
      · split at hb
        · rename_i z ts k2 p2 hc
          cases hb
          simp only [Bool.and_eq_true, decide_eq_true_eq] at hc
          obtain ⟨⟨rfl, hx⟩, hg2⟩ := hc
          match es, hp with
          | [e], hp =>
            simp only [rdL, rdBi, tIsX]
            exact pe_callB (cr_isXT (xp_ok h hx)) (h.glo hg).1 (h.bi "isinstance" (by decide)) boot_isi (pa_cons hp.2.1 (pa_cons (pe_tup (cls_ok h hg2)) pa_nil (star_ok rfl)) (star_ok hp.1)) (he := star_ok hp.1) (hpl := any_ns rfl)
          | _ :: _ :: _, hp => exact hp.2.2.elim
        · cases hb
      · cases hb
  case tupRange =>
    split at hb
    · split at hb
      · rename_i hc
        cases hb
        simp only [Bool.and_eq_true, decide_eq_true_eq] at hc
        obtain ⟨⟨rfl, rfl⟩, hg2⟩ := hc
        have g2 := (h.glo hg2).1
        have m2 := h.bi "range" (by decide)
        match es, zs, hp with
        | [], [], hp => simp only [rdL, rdBi]; exact pe_never
        | _ :: _ :: _ :: _, _ :: _ :: _ :: _, hp => simp only [rdL, rdBi]; exact pe_never
        | [e], [a], hp =>
          simp only [rdL, rdBi]
          exact pe_tupRg h.calm (h.glo hg).1 (h.bi "tuple" (by decide)) (prg_1 g2 m2 hp.2.1 (star_ok hp.1)) (star_ok rfl)
        | [e, f], [a, b], hp =>
          simp only [rdL, rdBi]
          exact pe_tupRg h.calm (h.glo hg).1 (h.bi "tuple" (by decide)) (prg_2 g2 m2 hp.2.1 hp.2.2.2.1 (star_ok hp.1) (star_ok hp.2.2.1) (any_ns (by have := hp.2.2.ns; exact this))) (star_ok rfl)
      · cases hb
    · cases hb
  case lstRange =>
    split at hb
    · split at hb
      · rename_i hc
        cases hb
        simp only [Bool.and_eq_true, decide_eq_true_eq] at hc
        obtain ⟨⟨rfl, rfl⟩, hg2⟩ := hc
        have g2 := (h.glo hg2).1
        have m2 := h.bi "range" (by decide)
        match es, zs, hp with
        | [], [], hp => simp only [rdL, rdBi]; exact pe_never
        | _ :: _ :: _ :: _, _ :: _ :: _ :: _, hp => simp only [rdL, rdBi]; exact pe_never
        | [e], [a], hp =>
          simp only [rdL, rdBi]
          exact pe_listRg h.calm (h.glo hg).1 (h.bi "list" (by decide)) (prg_1 g2 m2 hp.2.1 (star_ok hp.1)) (star_ok rfl)
        | [e, f], [a, b], hp =>
          simp only [rdL, rdBi]
          exact pe_listRg h.calm (h.glo hg).1 (h.bi "list" (by decide)) (prg_2 g2 m2 hp.2.1 hp.2.2.2.1 (star_ok hp.1) (star_ok hp.2.2.1) (any_ns (by have := hp.2.2.ns; exact this))) (star_ok rfl)
      · cases hb
    · cases hb
end
end R

set_option linter.all false
set_option maxHeartbeats 4000000
set_option maxRecDepth 100000
namespace R
open PySem L2
def PLo (X : Cx) (sp : Nat → Sp) : Option IE → Option Expr → Prop
  | none, none => True
  | some e, some x => PE X x (rdE X.K sp e)
  | _, _ => False
section
variable {X : Cx} {c : Cc} {sp : Nat → Sp}
theorem call_okE (h : Cok X c sp) {E : XK} (hE : Passes (L2.CX X.prog X.w) X E) {f : Nat} {x : Str} {p pos : Pos} {args : List Expr} {es : List IE} (hf : decide ((x, f) ∈ c.fns) = true) (hg : glB c x = true) (hp : PLs X sp es args) : PE X (.Call (.Name x p) args [] pos) (tCall (sp f) [] E (rdA X.K sp es)) := by
  obtain ⟨k, a, fd, ps, F, hr, hm, hk, hb⟩ := h.calls _ (of_decide_eq_true hf)
  have g := h.glo hg
  match es, args, hp with
  | [], [], hp =>
    simp only [rdA]
    exact pe_call0 F hr g.1 hm hk hb .nil hE g.2
  | e :: es, y :: ys, hp => exact pe_call F hr g.1 hm hk hb .nil hE hp.pa g.2 (star_ok hp.1) (any_ns (by have := hp.2.2.ns; exact this))
theorem fldC_ok (h : Cok X c sp) {cs : List Str} {x : Str} {o : Expr} {to : TE} {pos : Pos} (hn : notCall o = true) (ha : cs.all (fun c' => decide ((c', x) ∈ c.xt.atts)) = true) (ho : PE X o to) : PE X (.Attribute o x pos) (tFldC X.K cs to x) := by
  refine ⟨fun pins s σ H Q I hw => ?_⟩
  refine attr_of (base_ok hn) (thn (ho.run pins s σ H _ I hw) fun u s1 ⟨y, H1, I1, rx, a, dx, c', fs, v, hc, ex, ea, l, q⟩ => ?_)
  subst ex
  obtain rfl : u = Value.ref a := rx
  have := h.att (c', x) (of_decide_eq_true (List.all_eq_true.mp ha c' hc))
  exact getattr_ok I1 ea this.1 this.2 l fun u' s2 I2 ru => ⟨v, H1, I2, ru, q⟩
theorem sfldC_ok (h : Cok X c sp) {cs : List Str} {x : Str} {o value : Expr} {to tv : TE} {pos pos' : Pos} (ha : cs.all (fun c' => decide ((c', x) ∈ c.xt.atts)) = true) (ho : PE X o to) (hv : PE X value tv) (hs : swapsWith value (some (.Attribute o x pos')) pos.line X.env = pure false) :
    PS X (.Assign [.Attribute o x pos'] value pos) (sFldC X.K cs to tv x) := by
  refine ⟨fun pins s σ H D I hw => ?_⟩
  refine plainObj_wpAny_Assign_Attribute (thn (hv.run pins s σ H _ I hw) fun u s1 ⟨y, H1, I1, ry, q⟩ => thn (ho.run pins s1 σ H1 _ I1 q) fun ov s2 ⟨z, H2, I2, rx, a, dx, c', fs, hc, ex, ea, l, q2⟩ => ?_) hs
  subst ex
  obtain rfl : ov = Value.ref a := rx
  have := h.att (c', x) (of_decide_eq_true (List.all_eq_true.mp ha c' hc))
  exact setattr_ok I2 ea this.1 this.2 l ry fun s3 I3 => ⟨σ, _, I3, q2⟩
theorem make_okE (h : Cok X c sp) {cn : Str} {f : Nat} {p pos : Pos} {args : List Expr} {es : List IE} (hf : decide ((cn, f) ∈ c.xt.mks) = true) (hg : glB c cn = true) (hp : PLs X sp es args) : PE X (.Call (.Name cn p) args [] pos) (tMake (cA X.K cn) (sp f) [] E0 (rdA X.K sp es)) := by
  obtain ⟨k, a, fd, ps, F, hr, hm, M, hb⟩ := h.mks _ (of_decide_eq_true hf)
  have g := h.glo hg
  match es, args, hp with
  | [], [], hp =>
    simp only [rdA]
    exact pe_make0 M F hr g.1 hm hb .nil passL g.2
  | e :: es, y :: ys, hp => exact pe_make M F hr g.1 hm hb .nil passL hp.pa g.2 (star_ok hp.1) (any_ns (by have := hp.2.2.ns; exact this))
theorem call_ok (h : Cok X c sp) {f : Nat} {x : Str} {p pos : Pos} {args : List Expr} {es : List IE} (hf : decide ((x, f) ∈ c.fns) = true) (hg : glB c x = true) (hp : PLs X sp es args) : PE X (.Call (.Name x p) args [] pos) (tCall (sp f) [] E0 (rdA X.K sp es)) := by
  obtain ⟨k, a, fd, ps, F, hr, hm, hk, hb⟩ := h.calls _ (of_decide_eq_true hf)
  have g := h.glo hg
  match es, args, hp with
  | [], [], hp =>
    simp only [rdA]
    exact pe_call0 F hr g.1 hm hk hb .nil passL g.2
  | e :: es, y :: ys, hp => exact pe_call F hr g.1 hm hk hb .nil passL hp.pa g.2 (star_ok hp.1) (any_ns (by have := hp.2.2.ns; exact this))
theorem mt_ok (h : Cok X c sp) {m : MI} {nm : Str} {o : Expr} {oe : IE} {apos cpos : Pos} {args : List Expr} {es : List IE} (hl : (apos.endLine == cpos.line) = true) (hn : notCall o = true) (ho : PE X o (rdE X.K sp oe)) (hp : PLs X sp es args)
    (hm : (match m with
      | .get => decide (nm = "get") && decide (args.length = 2)
      | .join => decide (nm = "join") && decide (args.length = 1)
      | .split => decide (nm = "split") && decide (args.length = 1)
      | .strip => decide (nm = "strip") && decide (args.length = 1)
      | .index => decide (nm = "index") && decide (args.length = 1)) = true) : PE X (.Call (.Attribute o nm apos) args [] cpos) (rdMt X.K m (rdE X.K sp oe) (rdL X.K sp es) (rdA X.K sp es)) := by
  cases m <;> simp only [Bool.false_eq_true] at hm
  case strip =>
    simp only [Bool.and_eq_true, decide_eq_true_eq] at hm
    obtain ⟨rfl, hlen⟩ := hm
    match es, args, hp with
    | [e], [a], hp =>
      simp only [rdL, rdMt]
      exact pe_bm PySem.F.plainAttrs_str PySem.F.slot_str_strip PySem.F.type_str_strip mt_stripChars ho hp.pa (base_ok hn) (by rw [all_ns hp.ns]; rfl) hl (star_ok hp.1) (any_ns rfl)
    | [], [], hp => simp only [rdL, rdMt]; exact pe_never
    | _ :: _ :: _, _ :: _ :: _, hp => simp only [rdL, rdMt]; exact pe_never
  case join =>
    simp only [Bool.and_eq_true, decide_eq_true_eq] at hm
    obtain ⟨rfl, hlen⟩ := hm
    match es, args, hp with
    | [e], [a], hp =>
      simp only [rdL, rdMt]
      exact pe_join ho hp.2.1 (star_ok hp.1) (base_ok hn) hl
    | [], [], hp => simp only [rdL, rdMt]; exact pe_never
    | _ :: _ :: _, _ :: _ :: _, hp => simp only [rdL, rdMt]; exact pe_never
  case index =>
    simp only [Bool.and_eq_true, decide_eq_true_eq] at hm
    obtain ⟨rfl, hlen⟩ := hm
    match es, args, hp with
    | [e], [a], hp =>
      simp only [rdL, rdMt]
      exact pe_bm PySem.F.plainAttrs_list PySem.F.slot_list_index PySem.F.type_list_index (mt_indexD h.hu) ho hp.pa (base_ok hn) (by rw [all_ns hp.ns]; rfl) hl (star_ok hp.1) (any_ns rfl)
    | [], [], hp => simp only [rdL, rdMt]; exact pe_never
    | _ :: _ :: _, _ :: _ :: _, hp => simp only [rdL, rdMt]; exact pe_never
  case split =>
    simp only [Bool.and_eq_true, decide_eq_true_eq] at hm
    obtain ⟨rfl, hlen⟩ := hm
    match es, args, hp with
    | [e], [a], hp =>
      simp only [rdL, rdMt]
      exact pe_split ho hp.2.1 (star_ok hp.1) (base_ok hn) hl
    | [], [], hp => simp only [rdL, rdMt]; exact pe_never
    | _ :: _ :: _, _ :: _ :: _, hp => simp only [rdL, rdMt]; exact pe_never
  case get =>
    simp only [Bool.and_eq_true, decide_eq_true_eq] at hm
    obtain ⟨rfl, hlen⟩ := hm
    match es, args, hp with
    | [e, f], [a, b], hp =>
      simp only [rdL, rdMt]
      refine pe_dget2 (by have := h.hu; omega) ho hp.2.1 hp.2.2.2.1 ⟨base_ok hn, ?_, hl, ?_⟩
      · rw [all_ns hp.ns]
        rfl
      · rw [star_ok hp.1, star_ok hp.2.2.1]
        rfl
    | [], [], hp => simp only [rdL, rdMt]; exact pe_never
    | [_], [_], hp => simp only [rdL, rdMt]; exact pe_never
    | _ :: _ :: _ :: _, _ :: _ :: _ :: _, hp => simp only [rdL, rdMt]; exact pe_never
end
section
variable {sp : Nat → Sp} {X : Cx}
theorem holes_ok : ∀ (ps : List (Option Str)) (vs zs : List Expr) (es : List IE), holes ps vs = some zs → PLs X sp es zs → PJ X vs (fParts ps (rdL X.K sp es)) ∧ vs.length = ps.length
  | [], [], zs, es, e, hp => ⟨.nil, rfl⟩
  | [], v :: vs, zs, es, e, hp => by simp [holes] at e
  | some s :: ps, [], zs, es, e, hp => by simp [holes] at e
  | none :: ps, [], zs, es, e, hp => by simp [holes] at e
  | some s :: ps, v :: vs, zs, es, e, hp => by
    unfold holes at e
    split at e
    · rename_i e1 e2
      cases e1
    · rename_i e1 e2
      cases e1
      cases e2
      split at e
      · rename_i hs
        subst hs
        obtain ⟨a, b⟩ := holes_ok ps vs zs es e hp
        exact ⟨.cons pe_str a, by rw [List.length_cons, List.length_cons, b]⟩
      · cases e
    · rename_i e1 e2
      cases e1
    · cases e
  | none :: ps, v :: vs, zs, es, e, hp => by
    unfold holes at e
    split at e
    · rename_i e1 e2
      cases e1
    · rename_i e1 e2
      cases e1
    · rename_i e1 e2
      cases e1
      cases e2
      obtain ⟨zs', e3, rfl⟩ := Option.map_eq_some_iff.mp e
      match es, hp with
      | ee :: es, hp =>
        obtain ⟨_, hp1, hp2⟩ := hp
        obtain ⟨a, b⟩ := holes_ok ps vs zs' es e3 hp2
        refine ⟨?_, by rw [List.length_cons, List.length_cons, b]⟩
        simp only [rdL, fParts]
        exact .cons (pe_fmt hp1) a
    · cases e
theorem fstr_ok {ps : List (Option Str)} {vs zs : List Expr} {es : List IE} {pos : Pos} (e : holes ps vs = some zs) (hp : PLs X sp es zs) (h2 : 2 ≤ ps.length) : PE X (.JoinedStr vs pos) (rdBi X.K (.fstr ps) (rdL X.K sp es) (rdA X.K sp es)) := by
  obtain ⟨a, b⟩ := holes_ok ps vs zs es e hp
  match vs, b, a with
  | v1 :: v2 :: rest, _, a =>
    simp only [rdBi]
    exact pe_joined a
  | [v1], b, _ => exact absurd h2 (by rw [← b]; simp)
  | [], b, _ => exact absurd h2 (by rw [← b]; simp)
end
section
variable {sp : Nat → Sp}
theorem pe_lit {X : Cx} {d : Int} {w : Expr} (v : litI d w = true) : PE X w (tC (.int d)) := by
  unfold litI at v
  split at v
  · cases of_decide_eq_true v
    exact pe_int
  · cases of_decide_eq_true v
    rename_i j kk p1 p2
    have b : PE X (.UnaryOp .USub (.Constant (.int j) kk p1) p2) (tUn (rU fun i => .int (-i)) (tC (.int j))) := pe_un un_neg pe_int
    exact ⟨fun pins s σ H Q I hw => b.run pins s σ H Q I ⟨_, rfl, hw⟩⟩
  · cases v
theorem maxd_ok {X : Cx} {c : Cc} {sp : Nat → Sp} (h : Cok X c sp) {d : Int} {es : List IE} {args : List Expr} {p pos kp : Pos} {w : Expr} (g : glB c "max" = true) (v : litI d w = true) (hl : args.length = 1) (hp : PLs X sp es args) :
    PE X (.Call (.Name "max" p) args [⟨some "default", w, kp⟩] pos) (rdE X.K sp (.bi (.maxd d) es)) := by
  match es, args, hp with
  | [], [], hp => cases hl
  | _ :: _ :: _, _ :: _ :: _, hp => cases hl
  | [e], [a], hp =>
    simp only [rdE, rdL, rdBi]
    exact pe_callBK (cr_maxDef h.calm h.hu) (h.glo g).1 (h.bi "max" (by decide)) boot_max hp.pa (pk_cons (pe_lit v) pk_nil) (he := by rw [star_ok hp.1] <;> rfl) (hpl := by rw [star_ok hp.1] <;> rfl)
/-- a method's call, by its own form -/
theorem mcall_ht {X : Cx} {o : Expr} {m : Str} {apos pos : Pos} {args : List Expr} (hb : notCall0 o = true) (hl : (apos.endLine == pos.line) = true) (hn : args.length < 30) (ns : args.all notStar = true) :
    eval (.Call (.Attribute o m apos) args [] pos) X.env = (do
      let ov ← eval o X.env
      standAt apos.atName
      let (f, first) ← holding [ov] (getMethod ov m (plainOf o X.env))
      callWith pos f first (backTo pos (starEach args X.env)) (backToKw pos (keywordEach [] X.env))) := by
  refine mcall_of (t := fun ov => do
      let (f, first) ← holding [ov] (getMethod ov m (plainOf o X.env))
      callWith pos f first (backTo pos (starEach args X.env)) (backToKw pos (keywordEach [] X.env))) (base0_ok hb) fun ov => mcall_line ?_ hl
  unfold methodCallForm
  rw [all_ns ns]
  show (true && true && decide (args.length + 0 + 0 < 30)) = true
  rw [decide_eq_true (by omega)]
  rfl
theorem meth_ok {X : Cx} {c : Cc} {sp : Nat → Sp} (h : Cok X c sp) {E : XK} (hE : Passes (L2.CX X.prog X.w) X E) {cs : List (Str × Nat)} {m : Str} {o : Expr} {to : TE} {ta : TA} {apos pos : Pos} {args : List Expr} (hb : notCall0 o = true) (hl : (apos.endLine == pos.line) = true)
    (hn : args.length < 30) (hm : cs.all (fun p => decide ((p.1, m, p.2) ∈ c.xt.mts)) = true) (ho : PE X o to) (ns : args.all notStar = true) (ha : PA X args ta) (hnil : args = [] → ta = tNil) :
    PE X (.Call (.Attribute o m apos) args [] pos) (fun σ H Q => ∃ (cn : Str) (f : Nat), (cn, f) ∈ cs ∧ tMeth (cA X.K cn) m (sp f) [] E to ta σ H Q) := by
  refine ⟨fun pins s σ H Q I hw => ?_⟩
  obtain ⟨cn, f, hcs, hw⟩ := hw
  obtain ⟨k, a, fd, ps, F, hr, hc, hme, hbd⟩ := h.mts (cn, m, f) (of_decide_eq_true (List.all_eq_true.mp hm _ hcs))
  cases args with
  | nil =>
    rw [hnil rfl] at hw
    exact (pe_meth0 ho hc hme F hr hbd .nil hE (mcall_ht hb hl hn ns)).run pins s σ H Q I hw
  | cons y ys =>
    simp only [List.all_cons, Bool.and_eq_true] at ns
    exact (pe_meth ho hc hme F hr hbd .nil hE ha (star_ok ns.1) (any_ns ns.2) (mcall_ht hb hl hn (by simp only [List.all_cons, ns.1, ns.2, Bool.and_self]))).run pins s σ H Q I hw
mutual
theorem pe : ∀ (e : IE) {X : Cx} {c : Cc} (h : Cok X c sp) (x : Expr), chkE c e x = true → PE X x (rdE X.K sp e)
  | .var i, X, c, h, x, v => by
    unfold chkE at v
    split at v
    · rename_i y p
      simp only [Bool.and_eq_true] at v
      simp only [rdE]
      exact pe_var (h.ix v.1) (h.vis v.2).1 (h.vis v.2).2.1 (h.vis v.2).2.2
    · cases v
  | .int i, X, c, h, x, v => by
    unfold chkE at v
    simp only [rdE]
    exact pe_lit v
  | .bl i, X, c, h, x, v => by
    unfold chkE at v
    split at v
    · cases of_decide_eq_true v
      simp only [rdE]
      exact pe_bl
    · cases v
  | .non, X, c, h, x, v => by
    unfold chkE at v
    split at v
    · simp only [rdE]
      exact pe_non
    · cases v
  | .str i, X, c, h, x, v => by
    unfold chkE at v
    split at v
    · cases of_decide_eq_true v
      simp only [rdE]
      exact pe_str
    · cases v
  | .glb i d, X, c, h, x, v => by
    unfold chkE at v
    split at v
    · rename_i y p
      simp only [Bool.and_eq_true, List.any_eq_true, decide_eq_true_eq] at v
      obtain ⟨⟨rfl, v2⟩, p, hp, rfl, e⟩ := v
      obtain ⟨u, m, r⟩ := h.gl p hp
      have g := h.glo v2
      simp only [rdE]
      rw [e] at r
      exact pe_glob g.1 m r g.2
    · cases v
  | .bin op a b, X, c, h, x, v => by
    unfold chkE at v
    split at v
    · rename_i l o r p
      simp only [Bool.and_eq_true] at v
      simp only [rdE]
      exact pe_op (op_ok v.1.1) (pe a h l v.1.2) (pe b h r v.2)
    · cases v
  | .cmp op a b, X, c, h, x, v => by
    unfold chkE at v
    split at v
    · rename_i l o r p
      simp only [Bool.and_eq_true] at v
      simp only [rdE]
      exact pe_cmp_ok h v.1.1.1 v.1.1.2 (pe a h l v.1.2) (pe b h r v.2)
    · cases v
  | .chain op op' a b d, X, c, h, x, v => by
    unfold chkE at v
    split at v
    · rename_i l o o' r r' p
      simp only [Bool.and_eq_true] at v
      obtain ⟨⟨⟨⟨⟨⟨v1, v2⟩, v3⟩, v4⟩, v5⟩, v6⟩, v7⟩ := v
      simp only [rdE]
      exact pe_chain (cop_ok h.hu v1) (cop_ok h.hu v2) (pe a h l v5) (pe b h r v6) (pe d h r' v7) (lm_ok v4)
    · cases v
  | .and a b, X, c, h, x, v => by
    unfold chkE at v
    split at v
    · rename_i l r rest p
      simp only [Bool.and_eq_true] at v
      obtain ⟨v1, v2⟩ := v
      simp only [rdE]
      split at v2
      · exact pe_andT (pe a h l v1) (pe_one (pe b h r v2))
      · exact pe_andT (pe a h l v1) (pe b h _ v2)
    · cases v
  | .or a b, X, c, h, x, v => by
    unfold chkE at v
    split at v
    · rename_i l r rest p
      simp only [Bool.and_eq_true] at v
      obtain ⟨v1, v2⟩ := v
      simp only [rdE]
      split at v2
      · exact pe_orT (pe a h l v1) (pe_one (pe b h r v2))
      · exact pe_orT (pe a h l v1) (pe b h _ v2)
    · cases v
  | .not a, X, c, h, x, v => by
    unfold chkE at v
    split at v
    · rename_i l p
      simp only [rdE]
      exact pe_notT (pe a h l v)
    · cases v
  | .neg a, X, c, h, x, v => by
    unfold chkE at v
    split at v
    · rename_i l p
      simp only [rdE]
      exact pe_un un_neg (pe a h l v)
    · cases v
  | .ifx t a b, X, c, h, x, v => by
    unfold chkE at v
    split at v
    · rename_i l y z p
      simp only [Bool.and_eq_true] at v
      simp only [rdE]
      exact pe_ifExp (pt t h l v.1.1) (pe a h y v.1.2) (pe b h z v.2)
    · cases v
  | .tup es, X, c, h, x, v => by
    unfold chkE at v
    split at v
    · simp only [rdE]
      exact pe_tup (pls es h _ v).pa
    · cases v
  | .lst es, X, c, h, x, v => by
    unfold chkE at v
    split at v
    · simp only [rdE]
      exact pe_lst (pls es h _ v).pa
    · cases v
  | .ix a b, X, c, h, x, v => by
    unfold chkE at v
    split at v
    · rename_i l i p
      simp only [Bool.and_eq_true] at v
      simp only [rdE]
      have ha := pe a h l v.1.2
      have hb := pe b h i v.2
      exact PE.or2 (pe_ix ix_seq ha hb (sub_ok v.1.1)) (pe_dget (by have := h.hu; omega) ha hb (sub_ok v.1.1))
    · cases v
  | .slc a lo hi, X, c, h, x, v => by
    unfold chkE at v
    split at v
    · rename_i l lo' hi' p1 p2
      simp only [Bool.and_eq_true] at v
      simp only [rdE]
      exact pe_slice (sl_list.or (sl_tupA.or sl_str)) (pe a h l v.1.1) (po lo h _ v.1.2) (po hi h _ v.2)
    · cases v
  | .call f es, X, c, h, x, v => by
    unfold chkE at v
    split at v
    · rename_i y p args pos
      simp only [Bool.and_eq_true] at v
      simp only [rdE]
      exact call_ok h v.1.1 v.1.2 (pls es h _ v.2)
    · cases v
  | .callF f es, X, c, h, x, v => by
    unfold chkE at v
    split at v
    · rename_i y p args pos
      simp only [Bool.and_eq_true] at v
      simp only [rdE]
      exact call_ok h v.1.1 v.1.2 (pls es h _ v.2)
    · cases v
  | .bcall f es, X, c, h, x, v => by
    unfold chkE at v
    split at v
    · rename_i y p args pos
      simp only [Bool.and_eq_true] at v
      simp only [rdE]
      exact call_ok h v.1.1 v.1.2 (pls es h _ v.2)
    · cases v
  | .bi b es, X, c, h, x, v => by
    unfold chkE at v
    split at v
    · rename_i y p args kws pos
      split at v
      · simp only [Bool.and_eq_true] at v
        obtain ⟨v1, v2⟩ := v
        obtain ⟨zs, e⟩ := Option.isSome_iff_exists.mp v1
        rw [e, Option.getD_some] at v2
        simp only [rdE]
        exact bi_ok h e (pls es h _ v2)
      · rename_i kn w kp
        rw [Bool.and_eq_true] at v
        obtain ⟨v1, v2⟩ := v
        cases b with
        | maxd d =>
          simp only [Bool.and_eq_true, decide_eq_true_eq] at v1
          obtain ⟨⟨⟨⟨rfl, v4⟩, rfl⟩, v5⟩, v6⟩ := v1
          exact maxd_ok h v4 v5 v6 (pls es h _ v2)
        | _ => cases v1
      · cases v
    · rename_i vs pos
      cases b with
      | fstr ps =>
        simp only [Bool.and_eq_true, decide_eq_true_eq] at v
        obtain ⟨⟨v1, v2⟩, v3⟩ := v
        obtain ⟨zs, e⟩ := Option.isSome_iff_exists.mp v1
        rw [e, Option.getD_some] at v2
        simp only [rdE]
        exact fstr_ok e (pls es h _ v2) v3
      | _ => cases v
    · rename_i y nm pos
      cases b with
      | excAt rz =>
        simp only [Bool.and_eq_true, decide_eq_true_eq, List.all_eq_true] at v
        obtain ⟨⟨⟨v0, v1⟩, v2⟩, v3⟩ := v
        subst v0
        have hp := pls es h _ v3
        simp only [rdE]
        match es, hp with
        | [e], hp =>
          simp only [rdL, rdBi]
          exact pe_exAt (fun r m => (h.xt.xv r (v2 r m)).2) hp.2.1 (base_ok v1)
        | _ :: _ :: _, hp => exact hp.2.2.elim
      | _ => cases v
    · cases v
  | .mt m o es, X, c, h, x, v => by
    unfold chkE at v
    split at v
    · rename_i y nm apos args cpos
      simp only [Bool.and_eq_true] at v
      obtain ⟨⟨⟨⟨v1, v2⟩, v3⟩, v4⟩, v5⟩ := v
      simp only [rdE]
      exact mt_ok h v1 v2 (pe o h _ v3) (pls es h _ v4) v5
    · cases v
  | .lc elt g k src ifs, X, c, h, x, v => by
    unfold chkE at v
    split at v
    · rename_i el tg iter ts scope p
      simp only [Bool.and_eq_true] at v
      obtain ⟨⟨⟨⟨⟨⟨v1, v2⟩, v3⟩, v4⟩, v5⟩, v6⟩, v7⟩ := v
      obtain ⟨zs, e⟩ := Option.isSome_iff_exists.mp v2
      rw [e, Option.getD_some] at v3
      have hs := src_ok h e (pls src h _ v3)
      have ow : (ownOf c g).map (·.2) = tgS g := by
        unfold ownOf
        rw [List.map_map]
        exact List.map_id _
      have blk : BlkOk X.N X.env.scope scope (ownOf c g) := by
        rw [h.N, h.sc]
        exact blkOk_by v4
      have base := pe_lc (pos := p) (g := rdG X.K g) (tt := rdI X.K sp ifs) (te := rdE X.K sp elt) h.calm (by rw [h.N]; exact h.nd) hs blk (fun s H C cl fp => pg_ok (h.blk s H scope C cl fp) v5) (fun s H C cl fp => pis ifs (h.blk s H scope C cl fp) _ v6) (fun s H C cl fp => pe elt (h.blk s H scope C cl fp) _ v7) (fsi_ok v1)
      rw [ow] at base
      cases k <;> first | (simp only [rdE]; exact base) | (simp only [rdE]; exact PE.or2 (pe_lock base) base)
    · cases v
  | .dnew t, X, c, h, x, v => by
    unfold chkE at v
    split at v
    · simp only [rdE]
      cases t
      · exact pe_dnewK
      · exact pe_dnewT
    · cases v
  | .disp t ks vs, X, c, h, x, v => by
    unfold chkE at v
    split at v
    · rename_i kx vx p
      simp only [Bool.and_eq_true] at v
      obtain ⟨⟨rfl, v1⟩, v2⟩ := v
      have hk := pls ks h _ v1
      have hv := pls vs h _ v2
      match ks, vs, hk, hv with
      | [k], [w], hk, hv =>
        simp only [rdE, rdL]
        exact pe_dispT (by have := h.hu; omega) hk.2.1 hv.2.1
      | [], _, hk, _ => exact hk.elim
      | [_], [], _, hv => exact hv.elim
      | _ :: _ :: _, _, hk, _ => exact hk.2.2.elim
      | [_], _ :: _ :: _, _, hv => exact hv.2.2.elim
    · cases v
  | .fld cs o y, X, c, h, x, v => by
    unfold chkE at v
    split at v
    · simp only [Bool.and_eq_true, decide_eq_true_eq] at v
      obtain ⟨⟨⟨rfl, v2⟩, v3⟩, v4⟩ := v
      simp only [rdE]
      exact fldC_ok h v2 v3 (pe o h _ v4)
    · cases v
  | .make cn f es, X, c, h, x, v => by
    unfold chkE at v
    split at v
    · rw [Bool.and_eq_true, Bool.and_eq_true, Bool.and_eq_true, decide_eq_true_eq] at v
      obtain ⟨⟨⟨rfl, v2⟩, v3⟩, v4⟩ := v
      simp only [rdE]
      exact make_okE h v3 v2 (pls es h _ v4)
    · cases v
  | .callm _ _ _, X, c, h, x, v => by
    simp only [rdE]
    exact pe_never
  | .mcall _ _ _ _ _, X, c, h, x, v => by
    simp only [rdE]
    exact pe_never
theorem pt : ∀ (e : IE) {X : Cx} {c : Cc} (h : Cok X c sp) (x : Expr), chkT c e x = true → PT X x (rdT X.K sp e)
  | .cmp op a b, X, c, h, x, v => by
    unfold chkT at v
    split at v
    · rename_i l o r p
      simp only [Bool.and_eq_true] at v
      simp only [rdT]
      exact pt_cmp_ok h v.1.1.1 v.1.1.2 (pe a h l v.1.2) (pe b h r v.2)
    · cases v
  | .chain op op' a b d, X, c, h, x, v => by
    unfold chkT at v
    split at v
    · rename_i l o o' r r' p
      simp only [Bool.and_eq_true] at v
      obtain ⟨⟨⟨⟨⟨⟨v1, v2⟩, v3⟩, v4⟩, v5⟩, v6⟩, v7⟩ := v
      simp only [rdT]
      exact pt_chain (cop_ok h.hu v1) (cop_ok h.hu v2) (pe a h l v5) (pe b h r v6) (pe d h r' v7) (lm_ok v4)
    · cases v
  | .and a b, X, c, h, x, v => by
    unfold chkT at v
    split at v
    · rename_i l r rest p
      simp only [Bool.and_eq_true] at v
      obtain ⟨v1, v2⟩ := v
      simp only [rdT]
      split at v2
      · exact (pw_and (pt a h l v1) (pw_and1 (pt b h r v2))).pt
      · exact (pw_and (pt a h l v1) (pw_of (pt b h _ v2))).pt
    · cases v
  | .or a b, X, c, h, x, v => by
    unfold chkT at v
    split at v
    · rename_i l r rest p
      simp only [Bool.and_eq_true] at v
      obtain ⟨v1, v2⟩ := v
      simp only [rdT]
      split at v2
      · exact (pw_or (pt a h l v1) (pw_or1 (pt b h r v2))).pt
      · exact (pw_or (pt a h l v1) (pw_of (pt b h _ v2))).pt
    · cases v
  | .not a, X, c, h, x, v => by
    unfold chkT at v
    split at v
    · rename_i l p
      simp only [rdT]
      exact pt_not (pt a h l v)
    · cases v
  | .var i, X, c, h, x, v => by
    unfold chkT at v
    split at v
    · rename_i y p
      simp only [Bool.and_eq_true] at v
      simp only [rdT]
      exact pt_truth (pe_var (h.ix v.1) (h.vis v.2).1 (h.vis v.2).2.1 (h.vis v.2).2.2) (fun _ => rfl)
    · cases v
  | .int i, X, c, h, x, v => by
    unfold chkT at v
    split at v
    · cases of_decide_eq_true v
      simp only [rdT]
      exact pt_truth pe_int (fun _ => rfl)
    · cases v
  | .bl i, X, c, h, x, v => by
    unfold chkT at v
    split at v
    · cases of_decide_eq_true v
      simp only [rdT]
      exact pt_truth pe_bl (fun _ => rfl)
    · cases v
  | .ix a b, X, c, h, x, v => by
    unfold chkT at v
    split at v
    · rename_i l i p
      simp only [Bool.and_eq_true] at v
      simp only [rdT]
      have ha := pe a h l v.1.2
      have hb := pe b h i v.2
      exact pt_truth (PE.or2 (pe_ix ix_seq ha hb (sub_ok v.1.1)) (pe_dget (by have := h.hu; omega) ha hb (sub_ok v.1.1))) (fun _ => rfl)
    · cases v
  | .call f es, X, c, h, x, v => by
    unfold chkT at v
    split at v
    · rename_i y p args pos
      simp only [Bool.and_eq_true] at v
      simp only [rdT]
      exact pt_truth (call_ok h v.1.1 v.1.2 (pls es h _ v.2)) (fun _ => rfl)
    · cases v
  | .bcall f es, X, c, h, x, v => by
    unfold chkT at v
    split at v
    · rename_i y p args pos
      simp only [Bool.and_eq_true] at v
      simp only [rdT]
      exact pt_truth (call_ok h v.1.1 v.1.2 (pls es h _ v.2)) (fun _ => rfl)
    · cases v
  | .bi b es, X, c, h, x, v => by
    unfold chkT at v
    split at v
    · rename_i y p args pos
      simp only [Bool.and_eq_true] at v
      obtain ⟨v1, v2⟩ := v
      obtain ⟨zs, e⟩ := Option.isSome_iff_exists.mp v1
      rw [e, Option.getD_some] at v2
      simp only [rdT]
      exact pt_truth (bi_ok h e (pls es h _ v2)) (fun _ => rfl)
    · cases v
  | .non, X, c, h, x, v => by simp only [chkT] at v; cases v
  | .str _, X, c, h, x, v => by simp only [chkT] at v; cases v
  | .glb _ _, X, c, h, x, v => by simp only [chkT] at v; cases v
  | .bin _ _ _, X, c, h, x, v => by simp only [chkT] at v; cases v
  | .neg _, X, c, h, x, v => by simp only [chkT] at v; cases v
  | .ifx _ _ _, X, c, h, x, v => by simp only [chkT] at v; cases v
  | .tup _, X, c, h, x, v => by simp only [chkT] at v; cases v
  | .lst _, X, c, h, x, v => by simp only [chkT] at v; cases v
  | .slc _ _ _, X, c, h, x, v => by simp only [chkT] at v; cases v
  | .mt _ _ _, X, c, h, x, v => by simp only [chkT] at v; cases v
  | .lc _ _ _ _ _, X, c, h, x, v => by simp only [chkT] at v; cases v
  | .fld cs o y, X, c, h, x, v => by
    unfold chkT at v
    split at v
    · simp only [Bool.and_eq_true, decide_eq_true_eq] at v
      obtain ⟨⟨⟨rfl, v2⟩, v3⟩, v4⟩ := v
      simp only [rdT]
      exact pt_truth (fldC_ok h v2 v3 (pe o h _ v4)) (fun _ => rfl)
    · cases v
  | .make _ _ _, X, c, h, x, v => by simp only [chkT] at v; cases v
  | .callF _ _, X, c, h, x, v => by simp only [chkT] at v; cases v
  | .callm _ _ _, X, c, h, x, v => by
    simp only [rdT]
    exact ⟨fun _ _ _ _ _ _ h => h.elim⟩
  | .mcall _ _ _ _ _, X, c, h, x, v => by
    simp only [rdT]
    exact ⟨fun _ _ _ _ _ _ h => h.elim⟩
  | .dnew _, X, c, h, x, v => by simp only [chkT] at v; cases v
  | .disp _ _ _, X, c, h, x, v => by simp only [chkT] at v; cases v
theorem pls : ∀ (es : List IE) {X : Cx} {c : Cc} (h : Cok X c sp) (xs : List Expr), chkL c es xs = true → PLs X sp es xs
  | [], X, c, h, [], v => trivial
  | [], X, c, h, _ :: _, v => by simp only [chkL] at v; cases v
  | _ :: _, X, c, h, [], v => by simp only [chkL] at v; cases v
  | e :: es, X, c, h, x :: xs, v => by
    simp only [chkL, Bool.and_eq_true] at v
    exact ⟨v.1.1, pe e h x v.1.2, pls es h xs v.2⟩
theorem pis : ∀ (es : List IE) {X : Cx} {c : Cc} (h : Cok X c sp) (xs : List Expr), chkI c es xs = true → PTs X xs (rdI X.K sp es)
  | [], X, c, h, [], v => by simp only [rdI]; exact pts_nil
  | [], X, c, h, _ :: _, v => by simp only [chkI] at v; cases v
  | [e], X, c, h, [], v => by simp only [chkI] at v; cases v
  | [e], X, c, h, [x], v => by
    simp only [chkI] at v
    simp only [rdI]
    exact pts_one (pt e h x v)
  | [e], X, c, h, _ :: _ :: _, v => by simp only [chkI] at v; cases v
  | _ :: _ :: _, X, c, h, xs, v => by simp only [chkI] at v; cases v
theorem po : ∀ (e : Option IE) {X : Cx} {c : Cc} (h : Cok X c sp) (x : Option Expr), chkO c e x = true → PO X x (rdO X.K sp e)
  | none, X, c, h, none, v => by simp only [rdO]; exact po_none
  | none, X, c, h, some _, v => by simp only [chkO] at v; cases v
  | some _, X, c, h, none, v => by simp only [chkO] at v; cases v
  | some e, X, c, h, some x, v => by
    simp only [chkO] at v
    simp only [rdO]
    exact po_some (pe e h x v)
end
end
end R

set_option linter.all false
set_option maxHeartbeats 4000000
set_option maxRecDepth 100000
namespace R
open PySem L2
section
variable {sp : Nat → Sp}
theorem chkL_all {c : Cc} {es : List IE} {xs : List Expr} (h : chkL c es xs = true) : xs.all notStar = true := (chkL_ns h).1
theorem call_okX {X : Cx} {c : Cc} (h : Cok X c sp) {E : XK} (hE : Passes (L2.CX X.prog X.w) X E) {f : Nat} {x : Str} {p pos : Pos} {args : List Expr} {ta : TA} (hf : decide ((x, f) ∈ c.fns) = true) (hg : glB c x = true) (ns : args.all notStar = true) (ha : PA X args ta) (hnil : args = [] → ta = tNil) :
    PE X (.Call (.Name x p) args [] pos) (tCall (sp f) [] E ta) := by
  obtain ⟨k, a, fd, ps, F, hr, hm, hk, hb⟩ := h.calls _ (of_decide_eq_true hf)
  have g := h.glo hg
  cases args with
  | nil =>
    rw [hnil rfl]
    exact pe_call0 F hr g.1 hm hk hb .nil hE g.2
  | cons y ys =>
    simp only [List.all_cons, Bool.and_eq_true] at ns
    exact pe_call F hr g.1 hm hk hb .nil hE ha g.2 (star_ok ns.1) (any_ns ns.2)
mutual
theorem pex : ∀ (e : IE) {X : Cx} {c : Cc} {W : Str → Hp → Prop} (h : Cok X c sp) (tk : Takes X (WXo X.K W)) (x : Expr), chkE c e x = true → PE X x (rdX X.K sp W e)
  | .callm f js es, X, c, W, h, tk, x, v => by
    unfold chkE at v
    split at v
    · rename_i y p args pos
      simp only [Bool.and_eq_true] at v
      simp only [rdX]
      exact call_okX h (passes_call tk fun cls d σ H hw => hw) v.1.1 v.1.2 (chkL_all v.2) (pexA es h tk _ v.2) (fun e => pexN e v.2)
    · cases v
  | .mcall cs m js o es, X, c, W, h, tk, x, v => by
    unfold chkE at v
    split at v
    · rename_i oe nm apos args cpos
      rw [Bool.and_eq_true, Bool.and_eq_true, Bool.and_eq_true, Bool.and_eq_true, Bool.and_eq_true, Bool.and_eq_true, decide_eq_true_eq, decide_eq_true_eq] at v
      obtain ⟨⟨⟨⟨⟨⟨v1, v2⟩, rfl⟩, v4⟩, v5⟩, v6⟩, v7⟩ := v
      simp only [rdX]
      exact meth_ok h (passes_call tk fun cls d σ H hw => hw) v2 v1 v4 v5 (pex o h tk _ v6) (chkL_all v7) (pexA es h tk _ v7) (fun e => pexN e v7)
    · cases v
  | .and a b, X, c, W, h, tk, x, v => by
    unfold chkE at v
    split at v
    · rename_i l r rest p
      simp only [Bool.and_eq_true] at v
      obtain ⟨v1, v2⟩ := v
      simp only [rdX]
      split at v2
      · exact pe_andT (pex a h tk l v1) (pe_one (pex b h tk r v2))
      · exact pe_andT (pex a h tk l v1) (pex b h tk _ v2)
    · cases v
  | .or a b, X, c, W, h, tk, x, v => by
    unfold chkE at v
    split at v
    · rename_i l r rest p
      simp only [Bool.and_eq_true] at v
      obtain ⟨v1, v2⟩ := v
      simp only [rdX]
      split at v2
      · exact pe_orT (pex a h tk l v1) (pe_one (pex b h tk r v2))
      · exact pe_orT (pex a h tk l v1) (pex b h tk _ v2)
    · cases v
  | .not a, X, c, W, h, tk, x, v => by
    unfold chkE at v
    split at v
    · rename_i l p
      simp only [rdX]
      exact pe_notT (pex a h tk l v)
    · cases v
  | .bin op a b, X, c, W, h, tk, x, v => by
    unfold chkE at v
    split at v
    · rename_i l o r p
      simp only [Bool.and_eq_true] at v
      simp only [rdX]
      exact pe_op (op_ok v.1.1) (pex a h tk l v.1.2) (pex b h tk r v.2)
    · cases v
  | .cmp op a b, X, c, W, h, tk, x, v => by
    unfold chkE at v
    split at v
    · rename_i l o r p
      simp only [Bool.and_eq_true] at v
      simp only [rdX]
      exact pe_cmp_ok h v.1.1.1 v.1.1.2 (pex a h tk l v.1.2) (pex b h tk r v.2)
    · cases v
  | .var i, X, c, W, h, tk, x, v => by simp only [rdX]; exact pe _ h x v
  | .int i, X, c, W, h, tk, x, v => by simp only [rdX]; exact pe _ h x v
  | .bl i, X, c, W, h, tk, x, v => by simp only [rdX]; exact pe _ h x v
  | .non, X, c, W, h, tk, x, v => by simp only [rdX]; exact pe _ h x v
  | .str i, X, c, W, h, tk, x, v => by simp only [rdX]; exact pe _ h x v
  | .glb _ _, X, c, W, h, tk, x, v => by simp only [rdX]; exact pe _ h x v
  | .chain _ _ _ _ _, X, c, W, h, tk, x, v => by simp only [rdX]; exact pe _ h x v
  | .neg _, X, c, W, h, tk, x, v => by simp only [rdX]; exact pe _ h x v
  | .ifx _ _ _, X, c, W, h, tk, x, v => by simp only [rdX]; exact pe _ h x v
  | .tup _, X, c, W, h, tk, x, v => by simp only [rdX]; exact pe _ h x v
  | .lst _, X, c, W, h, tk, x, v => by simp only [rdX]; exact pe _ h x v
  | .ix _ _, X, c, W, h, tk, x, v => by simp only [rdX]; exact pe _ h x v
  | .slc _ _ _, X, c, W, h, tk, x, v => by simp only [rdX]; exact pe _ h x v
  | .call _ _, X, c, W, h, tk, x, v => by simp only [rdX]; exact pe _ h x v
  | .bcall _ _, X, c, W, h, tk, x, v => by simp only [rdX]; exact pe _ h x v
  | .callF _ _, X, c, W, h, tk, x, v => by simp only [rdX]; exact pe _ h x v
  | .bi _ _, X, c, W, h, tk, x, v => by simp only [rdX]; exact pe _ h x v
  | .mt _ _ _, X, c, W, h, tk, x, v => by simp only [rdX]; exact pe _ h x v
  | .lc _ _ _ _ _, X, c, W, h, tk, x, v => by simp only [rdX]; exact pe _ h x v
  | .dnew _, X, c, W, h, tk, x, v => by simp only [rdX]; exact pe _ h x v
  | .disp _ _ _, X, c, W, h, tk, x, v => by simp only [rdX]; exact pe _ h x v
  | .fld _ _ _, X, c, W, h, tk, x, v => by simp only [rdX]; exact pe _ h x v
  | .make _ _ _, X, c, W, h, tk, x, v => by simp only [rdX]; exact pe _ h x v
theorem pexA : ∀ (es : List IE) {X : Cx} {c : Cc} {W : Str → Hp → Prop} (h : Cok X c sp) (tk : Takes X (WXo X.K W)) (xs : List Expr), chkL c es xs = true → PA X xs (rdXA X.K sp W es)
  | [], X, c, W, h, tk, [], v => by simp only [rdXA]; exact pa_nil
  | [], X, c, W, h, tk, _ :: _, v => by simp only [chkL] at v; cases v
  | _ :: _, X, c, W, h, tk, [], v => by simp only [chkL] at v; cases v
  | e :: es, X, c, W, h, tk, x :: xs, v => by
    simp only [chkL, Bool.and_eq_true] at v
    simp only [rdXA]
    exact pa_cons (pex e h tk x v.1.2) (pexA es h tk xs v.2) (star_ok v.1.1)
theorem pexN : ∀ {es : List IE} {K : PySem.W.Frag} {c : Cc} {W : Str → Hp → Prop} {xs : List Expr}, xs = [] → chkL c es xs = true → rdXA K sp W es = tNil
  | [], K, c, W, xs, _, v => by simp only [rdXA]
  | _ :: _, K, c, W, xs, e, v => by subst e; simp only [chkL] at v; cases v
end
theorem pxt : ∀ (e : IE) {X : Cx} {c : Cc} {W : Str → Hp → Prop} (h : Cok X c sp) (tk : Takes X (WXo X.K W)) (x : Expr), chkT c e x = true → PT X x (rdXT X.K sp W e)
  | .and a b, X, c, W, h, tk, x, v => by
    unfold chkT at v
    split at v
    · rename_i l r rest p
      simp only [Bool.and_eq_true] at v
      obtain ⟨v1, v2⟩ := v
      simp only [rdXT]
      split at v2
      · exact (pw_and (pxt a h tk l v1) (pw_and1 (pxt b h tk r v2))).pt
      · exact (pw_and (pxt a h tk l v1) (pw_of (pxt b h tk _ v2))).pt
    · cases v
  | .or a b, X, c, W, h, tk, x, v => by
    unfold chkT at v
    split at v
    · rename_i l r rest p
      simp only [Bool.and_eq_true] at v
      obtain ⟨v1, v2⟩ := v
      simp only [rdXT]
      split at v2
      · exact (pw_or (pxt a h tk l v1) (pw_or1 (pxt b h tk r v2))).pt
      · exact (pw_or (pxt a h tk l v1) (pw_of (pxt b h tk _ v2))).pt
    · cases v
  | .not a, X, c, W, h, tk, x, v => by
    unfold chkT at v
    split at v
    · rename_i l p
      simp only [rdXT]
      exact pt_not (pxt a h tk l v)
    · cases v
  | .callm f js es, X, c, W, h, tk, x, v => by
    have v' : chkE c (.callm f js es) x = true := by unfold chkT at v; unfold chkE; exact v
    have b := pex (.callm f js es) h tk x v'
    simp only [rdXT]
    unfold chkT at v
    split at v
    · exact pt_truth b (fun _ => rfl)
    · cases v
  | .mcall cs m js o es, X, c, W, h, tk, x, v => by
    have v' : chkE c (.mcall cs m js o es) x = true := by unfold chkT at v; unfold chkE; exact v
    have b := pex (.mcall cs m js o es) h tk x v'
    simp only [rdXT]
    unfold chkT at v
    split at v
    · exact pt_truth b (fun _ => rfl)
    · cases v
  | .var i, X, c, W, h, tk, x, v => by simp only [rdXT]; exact pt _ h x v
  | .int i, X, c, W, h, tk, x, v => by simp only [rdXT]; exact pt _ h x v
  | .bl i, X, c, W, h, tk, x, v => by simp only [rdXT]; exact pt _ h x v
  | .non, X, c, W, h, tk, x, v => by simp only [rdXT]; exact pt _ h x v
  | .str i, X, c, W, h, tk, x, v => by simp only [rdXT]; exact pt _ h x v
  | .glb _ _, X, c, W, h, tk, x, v => by simp only [rdXT]; exact pt _ h x v
  | .bin _ _ _, X, c, W, h, tk, x, v => by simp only [rdXT]; exact pt _ h x v
  | .cmp _ _ _, X, c, W, h, tk, x, v => by simp only [rdXT]; exact pt _ h x v
  | .chain _ _ _ _ _, X, c, W, h, tk, x, v => by simp only [rdXT]; exact pt _ h x v
  | .neg _, X, c, W, h, tk, x, v => by simp only [rdXT]; exact pt _ h x v
  | .ifx _ _ _, X, c, W, h, tk, x, v => by simp only [rdXT]; exact pt _ h x v
  | .tup _, X, c, W, h, tk, x, v => by simp only [rdXT]; exact pt _ h x v
  | .lst _, X, c, W, h, tk, x, v => by simp only [rdXT]; exact pt _ h x v
  | .ix _ _, X, c, W, h, tk, x, v => by simp only [rdXT]; exact pt _ h x v
  | .slc _ _ _, X, c, W, h, tk, x, v => by simp only [rdXT]; exact pt _ h x v
  | .call _ _, X, c, W, h, tk, x, v => by simp only [rdXT]; exact pt _ h x v
  | .bcall _ _, X, c, W, h, tk, x, v => by simp only [rdXT]; exact pt _ h x v
  | .bi _ _, X, c, W, h, tk, x, v => by simp only [rdXT]; exact pt _ h x v
  | .mt _ _ _, X, c, W, h, tk, x, v => by simp only [rdXT]; exact pt _ h x v
  | .lc _ _ _ _ _, X, c, W, h, tk, x, v => by simp only [rdXT]; exact pt _ h x v
  | .dnew _, X, c, W, h, tk, x, v => by simp only [rdXT]; exact pt _ h x v
  | .disp _ _ _, X, c, W, h, tk, x, v => by simp only [rdXT]; exact pt _ h x v
  | .fld _ _ _, X, c, W, h, tk, x, v => by simp only [rdXT]; exact pt _ h x v
  | .make _ _ _, X, c, W, h, tk, x, v => by simp only [rdXT]; exact pt _ h x v
  | .callF _ _, X, c, W, h, tk, x, v => by simp only [rdXT]; exact pt _ h x v
end
end R

set_option linter.all false
set_option maxHeartbeats 4000000
set_option maxRecDepth 100000
namespace R
open PySem L2
theorem swN {e : Expr} {t : Option Expr} {l : Nat} {env : PySem.Env} (h : notLc e = true) : swapsWith e t l env = pure false := by
  cases e <;> first | rfl | (cases h)
theorem swS {e o k : Expr} {p : Pos} {l : Nat} {env : PySem.Env} : swapsWith e (some (.Subscript o k p)) l env = pure false := by
  cases e <;> rfl
theorem swT {e : Expr} {ts : List Expr} {n : Nat} {p : Pos} {l : Nat} {env : PySem.Env} (h : notLc e = true) : swapsWithSole [.Tuple ts n p] e l env = pure false := by
  cases e <;> first | rfl | (cases h)
theorem ssT {e : Expr} {ts : List Expr} {n : Nat} {p : Pos} {env : PySem.Env} (h : notTuple e = true) : swappedStores [.Tuple ts n p] e env = pure none := by
  cases e <;> first | rfl | (cases h)
theorem ssS {e o k : Expr} {p : Pos} {env : PySem.Env} : swappedStores [.Subscript o k p] e env = pure none := by
  cases e <;> rfl
theorem swL {elt : Expr} {gs : List Comprehension} {scope : Scope} {pos py : Pos} {y : Str} {l : Nat} {env : PySem.Env} : swapsWith (.ListComp elt gs scope pos) (some (.Name y py)) l env = pure (env.blockKind == .function && env.kindOf y == some .local && py.line == pos.line && !(scope.names.any fun (n, k) => n == y && (k == .local || k == .cell))) := rfl
section
variable {X : Cx} {c : Cc} {sp : Nat → Sp}
theorem PS.imp {e : Stmt} {t u : TS} (h : PS X e t) (g : ∀ D σ H, u D σ H → t D σ H) : PS X e u := ⟨fun pins s σ H D I hw => h.run pins s σ H D I (g D σ H hw)⟩
theorem var_ok (h : Cok X c sp) {i : Nat} {o : Expr} (v1 : chkNm c i o = true) (v2 : visN c o = true) : PE X o (tVar i) := by
  cases o <;> first | (simp only [chkNm] at v1; cases v1; done) | skip
  simp only [chkNm, Bool.and_eq_true] at v1
  simp only [visN] at v2
  exact pe_var (h.ix v1.1) (h.vis v2).1 (h.vis v2).2.1 (h.vis v2).2.2
theorem nm_notCall {i : Nat} {o : Expr} (v1 : chkNm c i o = true) : notCall o = true := by
  cases o <;> first | rfl | (simp only [chkNm] at v1; cases v1; done)
theorem Cok.tr (h : Cok X c sp) (pn : List (Addr × Obj)) (xe : Value → Shared → Prop) : Cok (X.tr pn xe) c sp :=
  ⟨h.N, h.nd, h.sc, h.fn, h.calm, h.xt, h.bi, h.gl, h.calls, h.hu, h.rm, h.att, h.mks, h.mts⟩
theorem Top.tr (T : Top X) (pn : List (Addr × Obj)) (xe : Value → Shared → Prop) : Top (X.tr pn xe) := ⟨T.st, T.fr, T.ex⟩
theorem psms_ok (h : Cok X c sp) {m : MS} {to : TE} {nm : Str} {o : Expr} {apos cpos pos : Pos} {args : List Expr} {es : List IE} (hl : (apos.endLine == cpos.line) = true) (ho : PE X o to) (hn : notCall o = true) (hnm : nm = msNm m) (hp : PLs X sp es args) (hlen : msAr m args.length = true) : PS X (.Expr (.Call (.Attribute o nm apos) args [] cpos) pos) (rdMs X.K m to (rdA X.K sp es)) := by
  subst hnm
  cases m <;> simp only [rdMs] <;> try exact ps_never
  case append =>
    match es, args, hp, hlen with
    | [e], [a], hp, _ =>
      refine ps_expr (pe_bm PySem.F.plainAttrs_list PySem.F.slot_list_append PySem.F.type_list_append mt_append ho hp.pa (base_ok hn) ?_ hl (star_ok hp.1) (any_ns rfl)) rfl
      rw [all_ns hp.ns]
      rfl
    | [], [], hp, e => exact nomatch e
    | _ :: _ :: _, _ :: _ :: _, hp, e => exact nomatch e
  case insert =>
    match es, args, hp, hlen with
    | [e, f], [a, b], hp, _ =>
      refine ps_expr (pe_bm PySem.F.plainAttrs_list PySem.F.slot_list_insert PySem.F.type_list_insert mt_insert ho hp.pa (base_ok hn) ?_ hl (star_ok hp.1) (any_ns (by have := hp.2.2.ns; exact this))) rfl
      rw [all_ns hp.ns]
      rfl
    | [], [], hp, e => exact nomatch e
    | [_], [_], hp, e => exact nomatch e
    | _ :: _ :: _ :: _, _ :: _ :: _ :: _, hp, e => exact nomatch e
  case pop1 =>
    match es, args, hp, hlen with
    | [e], [a], hp, _ =>
      refine ps_expr (pe_bm PySem.F.plainAttrs_list PySem.F.slot_list_pop PySem.F.type_list_pop mt_popAt ho hp.pa (base_ok hn) ?_ hl (star_ok hp.1) (any_ns rfl)) rfl
      rw [all_ns hp.ns]
      rfl
    | [], [], hp, e => exact nomatch e
    | _ :: _ :: _, _ :: _ :: _, hp, e => exact nomatch e
  case reverse =>
    match es, args, hp, hlen with
    | [], [], hp, _ => exact ps_expr (pe_bm0 PySem.F.plainAttrs_list PySem.F.slot_list_reverse PySem.F.type_list_reverse mt_reverse ho (base_ok hn) hl) rfl
    | e :: es, a :: args, hp, e' => exact nomatch e'
theorem set_ok (h : Cok X c sp) {g : Tg} {e : IE} {tg v : Expr} {pos : Pos} (hg : chkG c g tg = true) (hv : chkE c e v = true) (hx : setC tg v = true) : PS X (.Assign [tg] v pos) (tAsg (rdE X.K sp e) (rdG X.K g)) := by
  have he := pe e h v hv
  cases g with
  | tp is =>
    cases tg <;> first | (simp only [chkG] at hg; cases hg; done) | skip
    simp only [setC, Bool.and_eq_true] at hx
    exact ps_asg he (pg_ok h hg) (swT hx.1) (ssT hx.2) rfl
  | nm i =>
    cases tg <;> first | (simp only [chkG, chkNm] at hg; cases hg; done) | skip
    rename_i y py
    simp only [chkG, chkNm, Bool.and_eq_true] at hg
    obtain ⟨l1, l2⟩ := h.loc hg.2
    have hN : X.N.Nodup := by rw [h.N]; exact h.nd
    simp only [rdG]
    cases hlc : notLc v with
    | true => exact ps_set hN (h.ix hg.1) l1 he (swN hlc) l2
    | false =>
      cases v <;> first | (cases hlc; done) | (simp only [setC, notLc] at hx; cases hx; done) | skip
      rename_i elt gs scope p
      have sw := swL (elt := elt) (gs := gs) (scope := scope) (pos := p) (py := py) (y := y) (l := pos.line) (env := X.env)
      cases hb : (X.env.blockKind == .function && X.env.kindOf y == some .local && py.line == p.line && !(scope.names.any fun (n, k) => n == y && (k == .local || k == .cell))) with
      | false =>
        rw [hb] at sw
        exact ps_set hN (h.ix hg.1) l1 he sw l2
      | true =>
        rw [hb] at sw
        simp only [Bool.and_eq_true] at hb
        have hy : X.env.scope.names.lookup y = some .local := by
          have := hb.1.1.2
          exact eq_of_beq this
        cases e <;> first | (unfold chkE at hv; cases hv; done) | skip
        rename_i elt' g' k src ifs
        unfold chkE at hv
        split at hv
        · rename_i el tg' iter ts scope' p' heq
          cases heq
          simp only [Bool.and_eq_true] at hv
          obtain ⟨⟨⟨⟨⟨⟨v1, v2⟩, v3⟩, v4⟩, v5⟩, v6⟩, v7⟩ := hv
          obtain ⟨zs, e⟩ := Option.isSome_iff_exists.mp v2
          rw [e, Option.getD_some] at v3
          have hs := src_ok h e (pls src h _ v3)
          have ow : (ownOf c g').map (·.2) = tgS g' := by
            unfold ownOf
            rw [List.map_map]
            exact List.map_id _
          have blk : BlkOk X.N X.env.scope scope (ownOf c g') := by
            rw [h.N, h.sc]
            exact blkOk_by v4
          have base := ps_setLc (pos := p) (spos := pos) (py := py) (g := rdG X.K g') (tt := rdI X.K sp ifs) (te := rdE X.K sp elt') h.calm hN (h.ix hg.1) hy sw hs blk (fun s H C cl fp => pg_ok (h.blk s H scope C cl fp) v5) (fun s H C cl fp => pis ifs (h.blk s H scope C cl fp) _ v6) (fun s H C cl fp => pe elt' (h.blk s H scope C cl fp) _ v7) (fsi_ok v1)
          rw [ow] at base
          cases k <;> first | (simp only [rdE]; exact base) | skip
          simp only [rdE]
          refine PS.imp (PS.or2 (ps_lock base) base) fun D σ H hw => ?_
          rcases hw with ⟨d, u, h1, h2, h3⟩ | hw
          · refine .inl ⟨d, u, h1, h2, fun od => ?_⟩
            exact h3 od
          · exact .inr hw
        · cases hv
end
section
variable {c : Cc} {sp : Nat → Sp}
mutual
theorem psx : ∀ (s : IS) {X : Cx} (W : Str → Hp → Prop) (h : Cok X c sp) (T : Top X) (pa : PassesOwn (model X.prog X.w) X.A X.env X.xe) (tk : Takes X (WXo X.K W)) (x : Stmt), chkS c s x = true → PS X x (rdS X.K sp W s)
  | .set g e, X, W, h, T, pa, tk, x, v => by
    unfold chkS at v
    split at v
    · simp only [Bool.and_eq_true] at v
      simp only [rdS]
      exact set_ok h v.1.1 v.1.2 v.2
    · cases v
  | .setix i k w, X, W, h, T, pa, tk, x, v => by
    unfold chkS at v
    split at v
    · rename_i o ke p1 ve p2
      simp only [Bool.and_eq_true] at v
      obtain ⟨⟨⟨⟨⟨v1, v2⟩, v3⟩, v4⟩, v5⟩, v6⟩ := v
      simp only [rdS]
      have hk := pe k h ke v5
      have hv := pe w h ve v6
      have ho := var_ok h v1 v2
      have as : ∀ v, assign (.Subscript o ke p1) X.env v = (do
          let ov ← holding [v] (eval o X.env)
          let iv ← holding [v, ov] (eval ke X.env)
          standAt p1
          holding [v, ov, iv] (setItem ov iv v)
          release [v, ov, iv] []) := by
        intro _
        cases ke <;> first | rfl | (cases v3)
      exact PS.or2 (ps_asg hv (pg_sub ho hk set_list as) (show swapsWith ve (some (.Subscript o ke p1)) p2.line X.env = pure false from swS) ssS rfl) (ps_dput (by have := h.hu; omega) ho hk hv swS)
    · cases v
  | .ms m i es, X, W, h, T, pa, tk, x, v => by
    unfold chkS at v
    split at v
    · simp only [Bool.and_eq_true] at v
      obtain ⟨⟨⟨⟨⟨v1, v2⟩, v3⟩, v4⟩, v5⟩, v6⟩ := v
      simp only [rdS]
      exact psms_ok h v4 (var_ok h v1 v2) (nm_notCall v1) (of_decide_eq_true v3) (pls es h _ v5) v6
    · cases v
  | .msv g i, X, W, h, T, pa, tk, x, v => by
    unfold chkS at v
    split at v
    · rename_i tg o nm apos cpos p
      simp only [Bool.and_eq_true] at v
      obtain ⟨⟨⟨⟨⟨v1, v2⟩, v3⟩, v4⟩, v5⟩, v6⟩ := v
      have v4 := of_decide_eq_true v4
      subst v4
      simp only [rdS]
      have ho := var_ok h v2 v3
      have hn := nm_notCall v2
      have he := pe_bm0 (cpos := cpos) PySem.F.plainAttrs_list PySem.F.slot_list_pop PySem.F.type_list_pop mt_pop ho (base_ok hn) v5
      cases tg <;> first | (simp only [isTupT] at v6; cases v6; done) | skip
      exact ps_asg he (pg_ok h v1) (swT rfl) (ssT rfl) rfl
    · cases v
  | .frz _, X, W, h, T, pa, tk, x, v => by
    unfold chkS at v
    cases v
  | .ite t a b, X, W, h, T, pa, tk, x, v => by
    unfold chkS at v
    split at v
    · simp only [Bool.and_eq_true] at v
      simp only [rdS]
      exact ps_if (pt t h _ v.1.1) (pssx a W h T pa tk _ v.1.2) (pssx b W h T pa tk _ v.2)
    · cases v
  | .for_ g k src body, X, W, h, T, pa, tk, x, v => by
    unfold chkS at v
    split at v
    · rename_i tg iter b p
      simp only [Bool.and_eq_true] at v
      obtain ⟨⟨⟨⟨v1, v2⟩, v3⟩, v4⟩, v5⟩ := v
      obtain ⟨zs, e⟩ := Option.isSome_iff_exists.mp v2
      rw [e, Option.getD_some] at v3
      have base := ps_for (pos := p) pa h.calm (src_ok h e (pls src h _ v3)) (pg_ok h v4) (pssx body W h T pa tk _ v5) (fsi_ok v1)
      cases k <;> first | (simp only [rdS]; exact base) | (simp only [rdS]; exact PS.or2 (ps_lock base) base)
    · cases v
  | .forq g i t e, X, W, h, T, pa, tk, x, v => by
    unfold chkS at v
    split at v
    · rename_i tg iter y p1 p2 z p3
      simp only [Bool.and_eq_true] at v
      obtain ⟨⟨⟨⟨⟨v1, v2⟩, v3⟩, v4⟩, v5⟩, v6⟩ := v
      simp only [rdS]
      exact ps_for pa h.calm (pi_list (var_ok h v2 v3)) (pg_ok h v4) (pss_cons (ps_if (pt t h _ v5) (pss_cons (ps_ret (pe e h _ v6)) pss_nil) pss_nil) pss_nil) (fsi_ok v1)
    · cases v
  | .whl t body, X, W, h, T, pa, tk, x, v => by
    unfold chkS at v
    split at v
    · simp only [Bool.and_eq_true] at v
      simp only [rdS]
      exact ps_while pa (pt t h _ v.1) (pssx body W h T pa tk _ v.2)
    · cases v
  | .ret e, X, W, h, T, pa, tk, x, v => by
    unfold chkS at v
    split at v
    · simp only [rdS]
      exact ps_ret (pe e h _ v)
    · cases v
  | .retn, X, W, h, T, pa, tk, x, v => by
    unfold chkS at v
    split at v
    · simp only [rdS]
      exact ps_retN
    · cases v
  | .brk, X, W, h, T, pa, tk, x, v => by
    unfold chkS at v
    split at v
    · simp only [rdS]
      exact ps_break
    · cases v
  | .cnt, X, W, h, T, pa, tk, x, v => by
    unfold chkS at v
    split at v
    · simp only [rdS]
      exact ps_continue
    · cases v
  | .pass, X, W, h, T, pa, tk, x, v => by
    unfold chkS at v
    split at v
    · simp only [rdS]
      exact ps_pass
    · simp only [rdS]
      exact ps_doc
    · cases v
  | .expr e, X, W, h, T, pa, tk, x, v => by
    unfold chkS at v
    split at v
    · simp only [Bool.and_eq_true] at v
      simp only [rdS]
      exact ps_expr (pe e h _ v.2) (swN v.1)
    · cases v
  | .raise d, X, W, h, T, pa, tk, x, v => by
    unfold chkS at v
    split at v
    · simp only [Bool.and_eq_true, decide_eq_true_eq] at v
      obtain ⟨⟨⟨rfl, g⟩, m⟩, np⟩ := v
      have C := h.xt.xr _ m
      have g' := h.glo g
      simp only [rdS]
      exact PS.imp (ps_raise h.calm tk (pmk_own PySem.F.excBase_ValueError C.q C.g C.k (raises_own C.s C.t) g'.1 g'.2)) fun D σ H hw => ⟨_, .inl ⟨np, rfl, rfl⟩, hw⟩
    · cases v
  | .xcall f es, X, W, h, T, pa, tk, x, v => by
    unfold chkS at v
    split at v
    · simp only [Bool.and_eq_true] at v
      simp only [rdS]
      exact ps_expr (call_okE h (E := EW X.K W) (passes_call tk fun cls d σ H hw => hw) v.1.1 v.1.2 (pls es h _ v.2)) (swN rfl)
    · cases v
  | .tryx body rz t vv en, X, W, h, T, pa, tk, x, v => by
    unfold chkS at v
    split at v
    · rename_i b x' np n y yp z zp ap pos' pos
      simp only [Bool.and_eq_true, decide_eq_true_eq, List.all_eq_true] at v
      obtain ⟨⟨⟨⟨⟨⟨⟨⟨⟨⟨⟨⟨v1, v2⟩, v3⟩, v4⟩, v5⟩, v6⟩, v7⟩, v8⟩, v9⟩, v10⟩, v11⟩, v12⟩, v13⟩ := v
      subst v2
      subst v10
      have hN : X.N.Nodup := by rw [h.N]; exact h.nd
      have g' := h.glo v3
      have vis := h.vis v11
      have loc := h.loc v9
      have hm : X.mg x' = some (.ref (cA X.K x')) := by
        rcases h.xt.xn _ v4 with ⟨e, _⟩ | ⟨_, q⟩
        · exact absurd e v5
        · exact q
      have hlo : X.env.scope.names.lookup z = some .local := by rw [h.sc]; exact v7
      simp only [rdS]
      exact ps_tryK (tb := fun W => rdSs X.K sp W body) T hN (h.ix v6) hlo (h.ix v8) loc.1 loc.2 vis.1 vis.2.1 vis.2.2 hlo v12 ⟨g'.1, g'.2, .inl hm⟩ (fun r hr e => h.xt.xt _ (v13 r hr) e)
        fun W' pn xe tk' pa' => pssx body (X := X.tr pn xe) W' (h.tr pn xe) (T.tr pn xe) pa' tk' b v1
    · cases v
  | .raisev d e, X, W, h, T, pa, tk, x, v => by
    unfold chkS at v
    split at v
    · rename_i x' np a pos pos'
      simp only [Bool.and_eq_true, decide_eq_true_eq] at v
      obtain ⟨⟨⟨rfl, g⟩, m⟩, ve⟩ := v
      obtain ⟨rfl, fI, NT⟩ := h.xt.xv _ m
      obtain ⟨k, hr⟩ := h.rm
      have g' := h.glo g
      have hp := pls [e] h [a] ve
      simp only [rdS]
      exact PS.imp (ps_raise h.calm tk (pmk_nb NT hr hp.pa g'.1 (star_ok hp.1) (any_ns hp.2.2.ns))) fun D σ H hw => hw
    · cases v
  | .tryat body t vv en, X, W, h, T, pa, tk, x, v => by
    unfold chkS at v
    split at v
    · rename_i b x' np n y yp z zp w wp ap pos' pos
      simp only [Bool.and_eq_true, decide_eq_true_eq] at v
      obtain ⟨⟨⟨⟨⟨⟨⟨⟨⟨⟨⟨v1, v2⟩, v3⟩, v4⟩, v6⟩, v7⟩, v8⟩, v9⟩, v10⟩, v11⟩, v12⟩, v13⟩ := v
      subst v2
      subst v10
      subst v13
      obtain ⟨rfl, fI, NT⟩ := h.xt.xv _ v4
      have hN : X.N.Nodup := by rw [h.N]; exact h.nd
      have g' := h.glo v3
      have vis := h.vis v11
      have loc := h.loc v9
      have hlo : X.env.scope.names.lookup z = some .local := by rw [h.sc]; exact v7
      simp only [rdS]
      exact ps_tryA (tb := fun W => rdSs X.K sp W body) T hN (h.ix v6) hlo (h.ix v8) loc.1 loc.2 vis.1 vis.2.1 vis.2.2 hlo v12 ⟨g'.1, g'.2, .inl NT.gC⟩ NT
        fun W' pn xe tk' pa' => pssx body (X := X.tr pn xe) W' (h.tr pn xe) (T.tr pn xe) pa' tk' b v1
    · cases v
  | .stuck, X, W, h, T, pa, tk, x, v => by
    simp only [rdS]
    exact ps_never
  | .setx g e, X, W, h, T, pa, tk, x, v => by
    unfold chkS at v
    split at v
    · rename_i tg e' p
      simp only [Bool.and_eq_true] at v
      obtain ⟨⟨⟨v1, v2⟩, v3⟩, v4⟩ := v
      simp only [rdS]
      have he := pex e h tk _ v2
      cases g with
      | tp is =>
        cases tg <;> first | (simp only [chkG] at v1; cases v1; done) | skip
        exact ps_asg he (pg_ok h v1) (swT v3) (ssT v4) rfl
      | nm i =>
        cases tg <;> first | (simp only [chkG, chkNm] at v1; cases v1; done) | skip
        rename_i y py
        simp only [chkG, chkNm, Bool.and_eq_true] at v1
        obtain ⟨l1, l2⟩ := h.loc v1.2
        have hN : X.N.Nodup := by rw [h.N]; exact h.nd
        simp only [rdG]
        exact ps_set hN (h.ix v1.1) l1 he (swN v3) l2
    · cases v
  | .itex t a b, X, W, h, T, pa, tk, x, v => by
    unfold chkS at v
    split at v
    · simp only [Bool.and_eq_true] at v
      simp only [rdS]
      exact ps_if (pxt t h tk _ v.1.1) (pssx a W h T pa tk _ v.1.2) (pssx b W h T pa tk _ v.2)
    · cases v
  | .retx e, X, W, h, T, pa, tk, x, v => by
    unfold chkS at v
    split at v
    · simp only [rdS]
      exact ps_ret (pex e h tk _ v)
    · cases v
  | .rett js e, X, W, h, T, pa, tk, x, v => by
    unfold chkS at v
    split at v
    · simp only [rdS]
      exact ps_ret (pex e h tk _ v)
    · cases v
  | .exprx e, X, W, h, T, pa, tk, x, v => by
    unfold chkS at v
    split at v
    · simp only [Bool.and_eq_true] at v
      simp only [rdS]
      exact ps_expr (pex e h tk _ v.2) (swN v.1)
    · cases v
  | .fset cs i y e, X, W, h, T, pa, tk, x, v => by
    unfold chkS at v
    split at v
    · simp only [Bool.and_eq_true, decide_eq_true_eq] at v
      obtain ⟨⟨⟨⟨⟨v1, v2⟩, rfl⟩, v4⟩, v5⟩, v6⟩ := v
      simp only [rdS]
      exact sfldC_ok h v4 (var_ok h v1 v2) (pe e h _ v6) (swN v5)
    · cases v
  | .msf cs m i y es, X, W, h, T, pa, tk, x, v => by
    unfold chkS at v
    split at v
    · simp only [Bool.and_eq_true, decide_eq_true_eq] at v
      obtain ⟨⟨⟨⟨⟨⟨⟨v1, v2⟩, rfl⟩, v4⟩, v5⟩, v6⟩, v7⟩, v8⟩ := v
      simp only [rdS]
      exact psms_ok h v6 (fldC_ok h (nm_notCall v1) v4 (var_ok h v1 v2)) rfl v5 (pls es h _ v7) v8
    · cases v
  | .setl is e, X, W, h, T, pa, tk, x, v => by
    unfold chkS at v
    split at v
    · rename_i es kk p1 ve p2
      simp only [Bool.and_eq_true] at v
      obtain ⟨⟨⟨v1, v2⟩, v3⟩, v4⟩ := v
      obtain ⟨q1, q2, q3⟩ := pg_nms h v1
      simp only [rdS]
      exact ps_asg (pe e h _ v2) (pg_lst h.calm q1 q2 q3) (swT v3) (ssT v4) rfl
    · cases v
  | .msvi g i e, X, W, h, T, pa, tk, x, v => by
    unfold chkS at v
    split at v
    · rename_i tg o nm apos a cpos p
      simp only [Bool.and_eq_true] at v
      obtain ⟨⟨⟨⟨⟨⟨⟨v1, v2⟩, v3⟩, v4⟩, v5⟩, v6⟩, v7⟩, v8⟩ := v
      have v4 := of_decide_eq_true v4
      subst v4
      simp only [rdS]
      have ho := var_ok h v2 v3
      have hn := nm_notCall v2
      have hs : [a].all notStar = true := by simp only [List.all_cons, v7, List.all_nil, Bool.and_self]
      have he := pe_bm (cpos := cpos) PySem.F.plainAttrs_list PySem.F.slot_list_pop PySem.F.type_list_pop mt_popAt ho (pa_cons (pe e h _ v8) pa_nil (star_ok v7)) (base_ok hn) (by rw [all_ns hs]; rfl) v5 (star_ok v7) (any_ns rfl)
      cases g with
      | tp is =>
        cases tg <;> first | (simp only [chkG] at v1; cases v1; done) | skip
        exact ps_asg he (pg_ok h v1) (swT rfl) (ssT rfl) rfl
      | nm i =>
        cases tg <;> first | (simp only [chkG, chkNm] at v1; cases v1; done) | skip
        rename_i y py
        simp only [chkG, chkNm, Bool.and_eq_true] at v1
        obtain ⟨l1, l2⟩ := h.loc v1.2
        have hN : X.N.Nodup := by rw [h.N]; exact h.nd
        simp only [rdG]
        exact ps_set hN (h.ix v1.1) l1 he (swN rfl) l2
    · cases v
  | .mspop i j e, X, W, h, T, pa, tk, x, v => by
    unfold chkS at v
    split at v
    · rename_i o nm apos o2 nm2 apos2 a cpos2 cpos p
      simp only [Bool.and_eq_true] at v
      obtain ⟨⟨⟨⟨⟨⟨⟨⟨⟨v1, v2⟩, v3⟩, v4⟩, w1⟩, w2⟩, w3⟩, w4⟩, v7⟩, v8⟩ := v
      have v3 := of_decide_eq_true v3
      have w3 := of_decide_eq_true w3
      subst v3
      subst w3
      simp only [rdS]
      have hs : [a].all notStar = true := by simp only [List.all_cons, v7, List.all_nil, Bool.and_self]
      have he := pe_bm (cpos := cpos2) PySem.F.plainAttrs_list PySem.F.slot_list_pop PySem.F.type_list_pop mt_popAt (var_ok h w1 w2) (pa_cons (pe e h _ v8) pa_nil (star_ok v7)) (base_ok (nm_notCall w1)) (by rw [all_ns hs]; rfl) w4 (star_ok v7) (any_ns rfl)
      exact ps_expr (pe_bm PySem.F.plainAttrs_list PySem.F.slot_list_append PySem.F.type_list_append mt_append (var_ok h v1 v2) (pa_cons he pa_nil rfl) (base_ok (nm_notCall v1)) rfl v4 rfl rfl) rfl
    · cases v
  | .retw js es, X, W, h, T, pa, tk, x, v => by
    unfold chkS at v
    split at v
    · simp only [rdS]
      exact ps_ret (pe (.tup es) h _ v)
    · cases v
  | .lendq i t b, X, W, h, T, pa, tk, x, v => by
    unfold chkS at v
    split at v
    · simp only [Bool.and_eq_true] at v
      have hb := pe (.bl b) h _ v.2
      simp only [rdE] at hb
      simp only [rdS]
      exact ps_if (pt t h _ v.1) (pss_cons (ps_ret hb) pss_nil) pss_nil
    · cases v
  | .lends k i e, X, W, h, T, pa, tk, x, v => by
    unfold chkS at v
    split at v
    · simp only [Bool.and_eq_true] at v
      simp only [rdS]
      exact set_ok h v.1.1 v.1.2 v.2
    · cases v
  | .msk m i j es, X, W, h, T, pa, tk, x, v => by
    unfold chkS at v
    split at v
    · simp only [Bool.and_eq_true, decide_eq_true_eq] at v
      obtain ⟨⟨⟨⟨⟨v1, v2⟩, v3⟩, v4⟩, v5⟩, v6⟩ := v
      simp only [rdS]
      exact psms_ok h v4 (pe _ h _ v1) v2 v3 (pls es h _ v5) v6
    · cases v
theorem pssx : ∀ (ss : List IS) {X : Cx} (W : Str → Hp → Prop) (h : Cok X c sp) (T : Top X) (pa : PassesOwn (model X.prog X.w) X.A X.env X.xe) (tk : Takes X (WXo X.K W)) (xs : List Stmt), chkSs c ss xs = true → PSs X xs (rdSs X.K sp W ss)
  | [], X, W, h, T, pa, tk, xs, v => by
    unfold chkSs at v
    split at v
    · simp only [rdSs]
      exact pss_nil
    · cases v
  | s :: ss, X, W, h, T, pa, tk, xs, v => by
    unfold chkSs at v
    split at v
    · simp only [rdSs, rdS]
      have q := pssx ss W h T pa tk xs v
      exact ⟨fun pins s σ H D I hw => q.run pins s σ H D I hw⟩
    · split at v
      · simp only [Bool.and_eq_true] at v
        simp only [rdSs]
        exact pss_cons (psx s W h T pa tk _ v.1) (pssx ss W h T pa tk _ v.2)
      · cases v
end
end
end R

set_option linter.all false
set_option maxHeartbeats 4000000
set_option maxRecDepth 100000
/-! The defs of a law as a table: each keeps what its terms compute. -/
namespace R
open PySem L2
structure TD where
  f : Nat
  nm : Str
  st : Stmt
  N : List Str
  ps : List Str
  fn : Fn
  qual : Option Str := none
def spEv (tbl : List (Nat × Fn)) (K : PySem.W.Frag) (n f : Nat) : Sp := fun vs H Q E => (∃ (I : Hp) (fn : Fn) (ds : List D) (k : Kd) (d : D), Sub I H ∧ Reps K I ds vs ∧ tbl.lookup f = some fn ∧ ds.length = fn.np ∧ evFn tbl n f ds = some (k, d) ∧ (k = .bo → ∃ c, d = .exc c) ∧
  (k ≠ .bo → ∀ v I' H', Ext I H I' H' → RK K ⟨fun _ => False, []⟩ H I' H' k d v → Q v H') ∧ (k = .bo → ∀ c : Str, d = .exc c → ∀ I' H', Ext I H I' H' → ∀ cls d', ExAs K H' c cls d' → E cls d' H')) ∨
  (∃ (I : Hp) (fn : Fn) (ds : List D) (js : List Nat) (r : D) (outs : List D) (P : List (Nat × Addr)), Sub I H ∧ ArgsP K I H P ds vs ∧ P.map (·.1) = js ∧ tbl.lookup f = some fn ∧ ds.length = fn.np ∧ evFn tbl n f ds = some (.bo, .io js r outs) ∧
    (∀ v I' H', Stp (callB H P ds) I H I' H' → Sub I' H' → Rep K I' r v → OutsP K (callB H P ds) I' H' outs → Q v H'))
theorem evFn_np {tbl : List (Nat × Fn)} : ∀ {n f : Nat} {ds : List D} {r : Kd × D}, evFn tbl n f ds = some r → ∃ fn, tbl.lookup f = some fn ∧ ds.length = fn.np
  | 0, f, ds, r, h => by
    simp only [evFn] at h
    cases h
  | n + 1, f, ds, r, h => by
    simp only [evFn] at h
    split at h
    · cases h
    · rename_i fn e
      refine ⟨fn, e, ?_⟩
      unfold run at h
      split at h
      · assumption
      · cases h
theorem RK.any {K : PySem.W.Frag} {B C : Bd} {Hs I H : Hp} {k : Kd} {d : D} {v : V} (h : RK K B Hs I H k d v) (n : k ≠ .bo) : RK K C Hs I H k d v := by
  cases k with
  | fz => exact h
  | ow => exact h
  | bo => exact absurd rfl n
theorem callOk (tbl : List (Nat × Fn)) (K : PySem.W.Frag) (n : Nat) : CallOk K (evFn tbl n) (spEv tbl K n) := by
  refine ⟨fun f ds k d h hk B vs I H Q E su r q q2 => ?_, fun f ds js r outs h P vs I H Q E su hP A q => ?_⟩
  · obtain ⟨fn, e1, e2⟩ := evFn_np h
    exact .inl ⟨I, fn, ds, k, d, su, r, e1, e2, h, hk, fun nb v I' H' x g => q nb v I' H' x (g.any nb), q2⟩
  · obtain ⟨fn, e1, e2⟩ := evFn_np h
    exact .inr ⟨I, fn, ds, js, r, outs, P, su, A, hP, e1, e2, h, q⟩
/-! ### the entry -/
theorem start_sta {K : PySem.W.Frag} {I H : Hp} {fn : Fn} {N : List Str} {ds : List D} {vs : List V} (su : Sub I H) (r : Reps K I ds vs) (h : ds.length = fn.np) (hN : fn.ns = N.length) : Sta K ⟨fun b => ∃ o, H b = some o, []⟩ I H (L2.start N vs) (start0 fn ds) := by
  have hl := r.len
  have no : ∀ (i : Nat) (k : Kd) (d : D), (start0 fn ds)[i]? = some (some (k, d)) → k = .fz ∧ ds[i]? = some d := by
    intro i k d e
    unfold start0 at e
    by_cases hi : i < ds.length
    · rw [List.getElem?_append_left (by rw [List.length_map]; exact hi), List.getElem?_map] at e
      cases q : ds[i]? with
      | none => rw [q] at e; cases e
      | some d' =>
        rw [q] at e
        cases e
        exact ⟨rfl, rfl⟩
    · rw [List.getElem?_append_right (by rw [List.length_map]; omega)] at e
      rw [List.getElem?_replicate] at e
      split at e
      · cases e
      · cases e
  refine ⟨su, fun b hb => hb, (fun j p m => nomatch m), ?_, fun i d e => ?_, fun i d e => ?_, fun i d e => ?_, fun i j d e p q _ e1 => ?_⟩
  · unfold L2.start start0
    rw [List.length_append, List.length_append, List.length_map, List.length_map, List.length_replicate, List.length_replicate, hl, hN, h]
  · obtain ⟨_, e⟩ := no i _ _ e
    obtain ⟨x, hx, rx⟩ := r.get e
    refine ⟨x, ?_, rx⟩
    unfold L2.start
    have hi : i < vs.length := (List.getElem?_eq_some_iff.mp hx).1
    rw [List.getElem?_append_left (by rw [List.length_map]; exact hi), List.getElem?_map, hx]
    rfl
  · cases (no i _ _ e).1
  · cases (no i _ _ e).1
  · cases (no i _ _ e1).1
theorem start_staIO {K : PySem.W.Frag} {I H : Hp} {fn : Fn} {N : List Str} {ds : List D} {vs : List V} {P : List (Nat × Addr)} (su : Sub I H) (A : ArgsP K I H P ds vs) (hP : P.map (·.1) = fn.io) (h : ds.length = fn.np) (hN : fn.ns = N.length) : Sta K (callB H P ds) I H (L2.start N vs) (startIO fn ds) := by
  have hl := A.len
  have inP : ∀ i, fn.io.contains i = true → ∃ p, (i, p) ∈ P := fun i hi => by
    rw [← hP] at hi
    simp only [List.contains_eq_mem, decide_eq_true_eq] at hi
    obtain ⟨⟨i', p⟩, m, e⟩ := List.mem_map.mp hi
    cases e
    exact ⟨p, m⟩
  have Pin : ∀ i p, (i, p) ∈ P → fn.io.contains i = true := fun i p m => by
    rw [← hP]
    simp only [List.contains_eq_mem, decide_eq_true_eq]
    exact List.mem_map.mpr ⟨(i, p), m, rfl⟩
  have at_ : ∀ (i : Nat) (d : D), ds[i]? = some d → (startIO fn ds)[i]? = some (some (if fn.io.contains i = true then Kd.ow else .fz, d)) := fun i d e => by
    unfold startIO
    have hi : i < ds.length := (List.getElem?_eq_some_iff.mp e).1
    rw [List.getElem?_append_left (by rw [List.length_mapIdx]; exact hi), List.getElem?_mapIdx, e]
    cases hc : fn.io.contains i <;> simp [hc]
  have no : ∀ (i : Nat) (k : Kd) (d : D), (startIO fn ds)[i]? = some (some (k, d)) → ds[i]? = some d ∧ k = if fn.io.contains i = true then Kd.ow else .fz := by
    intro i k d e
    cases q : ds[i]? with
    | some d' =>
      rw [at_ i d' q] at e
      cases e
      exact ⟨rfl, rfl⟩
    | none =>
      exfalso
      rw [List.getElem?_eq_none_iff] at q
      unfold startIO at e
      rw [List.getElem?_append_right (by rw [List.length_mapIdx]; exact q), List.getElem?_replicate] at e
      split at e <;> cases e
  have sv : ∀ (i : Nat) (v : V), vs[i]? = some v → (L2.start N vs)[i]? = some (some v) := fun i v e => by
    unfold L2.start
    have hi : i < vs.length := (List.getElem?_eq_some_iff.mp e).1
    rw [List.getElem?_append_left (by rw [List.length_map]; exact hi), List.getElem?_map, e]
    rfl
  have owd : ∀ (i : Nat) (d : D), (startIO fn ds)[i]? = some (some (.ow, d)) → ∃ p, (i, p) ∈ P ∧ ds[i]? = some d ∧ (L2.start N vs)[i]? = some (some (.ref p)) ∧ I p = none ∧ OwnC K I H p d := fun i d e => by
    obtain ⟨e1, e2⟩ := no i _ _ e
    split at e2
    · rename_i hc
      obtain ⟨p, m⟩ := inP i hc
      obtain ⟨d', g1, g2, g3, g4⟩ := A.ow i p m
      rw [e1] at g1
      cases g1
      exact ⟨p, m, e1, sv i _ g2, g3, g4⟩
    · cases e2
  refine ⟨su, fun b hb => hb.1, fun j p m => ?_, ?_, fun i d e => ?_, fun i d e => ?_, fun i d e => ?_, fun i j d e p q n h1 h2 h3 h4 => ?_⟩
  · obtain ⟨d, g1, g2, _⟩ := A.ow j p m
    exact ⟨sv j _ g2, d, by rw [at_ j d g1, if_pos (Pin j p m)]⟩
  · unfold L2.start startIO
    rw [List.length_append, List.length_append, List.length_map, List.length_mapIdx, List.length_replicate, List.length_replicate, hl, hN, h]
  · obtain ⟨e1, e2⟩ := no i _ _ e
    split at e2
    · cases e2
    · rename_i hc
      obtain ⟨v, g1, g2⟩ := A.fz i d (fun m => by
        obtain ⟨⟨i', p⟩, m', z⟩ := List.mem_map.mp m
        cases z
        exact hc (Pin _ p m')) e1
      exact ⟨v, sv i v g1, g2⟩
  · obtain ⟨p, m, e1, e2, e3, e4⟩ := owd i d e
    exact ⟨p, e2, e3, e4, fun a ma hb => hb.2 i p d m e1 ma⟩
  · obtain ⟨e1, e2⟩ := no i _ _ e
    split at e2 <;> cases e2
  · obtain ⟨p', m, e1, e2, e3, e4⟩ := owd i d h1
    obtain ⟨q', m', g1, g2, g3, g4⟩ := owd j e h2
    rw [h3] at e2
    rw [h4] at g2
    cases e2
    cases g2
    exact A.ne i j p q d e n m m' e1 g1
theorem Stp.ext {I H I' H' : Hp} {P : List (Nat × Addr)} (s : Stp ⟨fun b => ∃ o, H b = some o, P⟩ I H I' H') (su : Sub I' H') : Ext I H I' H' :=
  ⟨s.ii, fun b o h => (s.bh b ⟨o, h⟩).trans h, su, fun b o h n => s.bi b o ⟨o, h⟩ h n⟩
/-! ### the table -/
def TD.cc (fns : List (Str × Nat)) (gls : List (Str × D)) (xt : Xt) (t : TD) : Cc := ⟨t.N, defScope t.st, none, fns, gls, xt⟩
def TD.good (tbl : List (Nat × Fn)) (fns : List (Str × Nat)) (gls : List (Str × D)) (xt : Xt) (t : TD) : Bool :=
  decide (t.fn.np = t.ps.length) && decide (t.fn.ns = t.N.length) && decide (t.ps.length ≤ t.N.length) && okSs t.fn.body && chkSs (t.cc fns gls xt) t.fn.body (defBody t.st) && C8.scC t.N t.ps (defScope t.st) && (nodupB t.fn.io && pinSs t.fn.io t.fn.body)
section
variable {P : Program} {w : World} {K : PySem.W.Frag} {mg : Str → Option Value} {base : Heap}
/-- one def as it stands behind the top -/
def TD.At (K : PySem.W.Frag) (mg : Str → Option Value) (t : TD) (a : Addr) (fd : FuncData) : Prop := L2.Fun K t.nm (t.qual.getD t.nm) t.st a fd ∧ (t.qual = none → mg t.nm = some (.ref a)) ∧ Binds K fd t.ps []
/-- what is asked of the classes -/
structure ClsAt (K : PySem.W.Frag) (mg : Str → Option Value) (tds : List TD) (xt : Xt) : Prop where
  att : ∀ p ∈ xt.atts, Cls K (cA K p.1) ∧ NoAttr K (cA K p.1) p.2
  mks : ∀ p ∈ xt.mks, ∃ t ∈ tds, t.f = p.2 ∧ ∃ a fd, t.At K mg a fd ∧ mg p.1 = some (.ref (cA K p.1)) ∧ Mk K (cA K p.1) a
  mts : ∀ p ∈ xt.mts, ∃ t ∈ tds, t.f = p.2.2 ∧ ∃ a fd, t.At K mg a fd ∧ Cls K (cA K p.1) ∧ Meth K (cA K p.1) p.2.1 a
theorem tab_ok {tds : List TD} {gls : List (Str × D)} {xt : Xt} (hxt : XtOk K mg xt) (hcl : ClsAt K mg tds xt) (tbl : List (Nat × Fn)) (fns : List (Str × Nat)) (ht : ∀ t ∈ tds, tbl.lookup t.f = some t.fn) (hfn : ∀ p ∈ fns, ∃ t ∈ tds, t.nm = p.1 ∧ t.f = p.2 ∧ t.qual = none)
    (hg : ∀ t ∈ tds, t.good tbl fns gls xt = true) (hat : ∀ t ∈ tds, ∃ a fd, t.At K mg a fd) (hbi : ∀ x ∈ biNames, mg x = none) (hgl : ∀ p ∈ gls, ∃ u, mg p.1 = some u ∧ RelV (vOf p.2) u) :
    ∀ n, ∀ t ∈ tds, ∀ a fd, t.At K mg a fd → FnOk P w K mg base (L2.CX P w) (2 * n) a fd t.ps (spEv tbl K n t.f) := by
  intro n
  induction n with
  | zero =>
    intro t _ a fd _
    have no : ∀ {vs : List V} {H : Hp} {Q : VK} {E : XK}, spEv tbl K 0 t.f vs H Q E → False := fun h => by
      rcases h with ⟨I, fn, ds, k, d, _, _, _, _, h, _⟩ | ⟨I, fn, ds, js, r, outs, P, _, _, _, _, _, h, _⟩
      · simp only [evFn] at h
        cases h
      · simp only [evFn] at h
        cases h
    refine ⟨fun vs H Q E h => (no h).elim, fun A outer s H args us vs Q E _ _ _ _ h => (no h).elim⟩
  | succ n ih =>
    intro t m a fd F
    have g := hg t m
    unfold TD.good at g
    simp only [Bool.and_eq_true, decide_eq_true_eq] at g
    obtain ⟨⟨⟨⟨⟨⟨g1, g2⟩, g3⟩, g4⟩, g5⟩, g6⟩, g7, g8⟩ := g
    have S := C8.fnScope_by g6
    have lv : 2 * (n + 1) = (2 * n + 1) + 1 := by omega
    rw [lv]
    refine F.1.okX S (fun vs H Q E h => ?_) (fun cdv A outer s H vs Q E hr h => ?_)
    · rcases h with ⟨I, fn, ds, k, d, su, r, e1, e2, _, _⟩ | ⟨I, fn, ds, js, r, outs, P', su, A, _, e1, e2, _⟩
      · rw [ht t m] at e1
        cases e1
        rw [r.len, e2, g1]
      · rw [ht t m] at e1
        cases e1
        rw [A.len, e2, g1]
    · have C : Cok (cxOf (L2.CX P w) P w K mg base t.N (t.qual.getD t.nm) (defScope t.st) a cdv A outer s H E) (t.cc fns gls xt) (spEv tbl K n) := by
        refine ⟨rfl, S.nd, rfl, fun x => rfl, rfl, hxt, hbi, hgl, fun p hp => ?_, ?_, ?_, hcl.att, fun p hp => ?_, fun p hp => ?_⟩
        · obtain ⟨t', m', e1, e2, e3⟩ := hfn p hp
          obtain ⟨a', fd', F'⟩ := hat t' m'
          refine ⟨2 * n, a', fd', t'.ps, ?_, hr.mono (by omega), ?_, F'.1.kp, F'.2.2⟩
          · rw [← e2]
            exact ih t' m' a' fd' F'
          · rw [← e1]
            exact F'.2.1 e3
        · have := hr.un
          show A.units + 3 + 65 < _
          have h3 : ∀ e, (A.deeper e).units = A.units + 3 := fun _ => rfl
          rw [h3] at this
          omega
        · exact ⟨_, hr⟩
        · obtain ⟨t', m', e1, a', fd', F', e2, e3⟩ := hcl.mks p hp
          refine ⟨2 * n, a', fd', t'.ps, ?_, hr, e2, e3, F'.2.2⟩
          rw [← e1]
          exact ih t' m' a' fd' F'
        · obtain ⟨t', m', e1, a', fd', F', e2, e3⟩ := hcl.mts p hp
          refine ⟨2 * n, a', fd', t'.ps, ?_, hr.mono (by omega), e2, e3, F'.2.2⟩
          rw [← e1]
          exact ih t' m' a' fd' F'
      have tk : Takes (cxOf (L2.CX P w) P w K mg base t.N (t.qual.getD t.nm) (defScope t.st) a cdv A outer s H E) (WXo K fun c H' => ∀ cls d', ExAs K H' c cls d' → E cls d' H') := Takes.imp (takes_of rfl rfl rfl rfl) fun cls d σ H' ⟨c, e1, e3⟩ => e3 cls d e1
      refine ⟨_, pssx t.fn.body _ C ⟨rfl, rfl, rfl⟩ (passes_of rfl) tk _ g5, ?_⟩
      have e3 : ∀ ds : List D, ds.length = t.fn.np → evFn tbl (n + 1) t.f ds = (if t.fn.io = [] then finD (evSs (evFn tbl n) t.fn.body (start0 t.fn ds)) else finIO t.fn.io (evSs (evFn tbl n) t.fn.body (startIO t.fn ds))) := fun ds e2 => by
        simp only [evFn, ht t m]
        unfold run
        rw [if_pos e2]
      rcases h with ⟨I, fn, ds, k, d, su, r, e1, e2, ev, hk, q, q2⟩ | ⟨I, fn, ds, js, r, outs, P', su, AP, hP, e1, e2, ev, q⟩
      · rw [ht t m] at e1
        cases e1
        rw [e3 ds e2] at ev
        split at ev
        · rename_i io0
          have st := start_sta (fn := t.fn) (N := t.N) su r e2 g2
          cases eo : evSs (evFn tbl n) t.fn.body (start0 t.fn ds) with
          | none =>
            rw [eo] at ev
            cases ev
          | some o =>
            rw [eo] at ev
            refine sndSs (B := ⟨fun b => ∃ o, H b = some o, []⟩) (callOk tbl K n) (fun c H' => ∀ cls d', ExAs K H' c cls d' → E cls d' H') t.fn.body g4 (by rw [io0] at g8; exact g8) _ I H _ o _ st eo ?_
            cases o with
            | nx ρ' =>
              simp only [finD] at ev
              cases ev
              exact fun σ' I' H' x s' => q (by intro z; cases z) .non I' H' (x.ext s'.su) (show Rep K I' .non .non from rep_non)
            | bk ρ' => simp only [finD] at ev; cases ev
            | ct ρ' => simp only [finD] at ev; cases ev
            | rt k' d' =>
              have e5 : k' = k ∧ d' = d := by
                unfold finD at ev
                split at ev
                · rename_i z
                  cases z
                · cases ev
                · rename_i z
                  cases z
                  cases ev
                  exact ⟨rfl, rfl⟩
                · cases ev
              obtain ⟨rfl, rfl⟩ := e5
              refine ⟨fun nb v I' H' x su' rv => ?_, fun eb => ⟨fun c ec I' H' x su' => q2 eb c ec I' H' (x.ext su'), fun js r0 outs ez => ?_⟩⟩
              · refine q nb v I' H' (x.ext su') ?_
                cases k' with
                | fz => exact rv
                | ow =>
                  refine ⟨rv.1, ?_⟩
                  obtain ⟨p, e, nb'⟩ := rv.2
                  refine ⟨p, e, fun b mb => ?_⟩
                  cases hp : H b with
                  | none => rfl
                  | some o => exact absurd ⟨o, hp⟩ (nb' b mb)
                | bo => exact absurd rfl nb
              · obtain ⟨c, ec⟩ := hk eb
                rw [ez] at ec
                cases ec
        · exfalso
          have : ∀ r, finIO t.fn.io r = some (k, d) → ∃ js r0 outs, k = .bo ∧ d = .io js r0 outs := fun r e => by
            unfold finIO at e
            split at e
            · split at e
              · cases e
              · cases e
                exact ⟨_, _, _, rfl, rfl⟩
            · split at e
              · cases e
                exact ⟨_, _, _, rfl, rfl⟩
              · cases e
            · cases e
          obtain ⟨js, r0, outs, h1, h2⟩ := this _ ev
          obtain ⟨c, ec⟩ := hk h1
          rw [h2] at ec
          cases ec
      · rw [ht t m] at e1
        cases e1
        rw [e3 ds e2] at ev
        split at ev
        · exfalso
          unfold finD at ev
          split at ev
          · cases ev
          · cases ev
          · rename_i h1 h2
            cases ev
            exact h1 _ _ _ rfl rfl
          · cases ev
        · have hj : t.fn.io = js := by
            unfold finIO at ev
            split at ev
            · split at ev
              · cases ev
              · cases ev
                rfl
            · split at ev
              · cases ev
                rfl
              · cases ev
            · cases ev
          have st := start_staIO (fn := t.fn) (N := t.N) su AP (hP.trans hj.symm) e2 g2
          have hio : t.fn.io = (callB H P' ds).pins.map (·.1) := hj.trans hP.symm
          cases eo : evSs (evFn tbl n) t.fn.body (startIO t.fn ds) with
          | none =>
            rw [eo] at ev
            cases ev
          | some o =>
            rw [eo] at ev
            refine sndSs (B := callB H P' ds) (callOk tbl K n) (fun c H' => ∀ cls d', ExAs K H' c cls d' → E cls d' H') t.fn.body g4 (by rw [← hio]; exact g8) _ I H _ o _ st eo ?_
            cases o with
            | nx ρ' =>
              simp only [finIO] at ev
              split at ev
              · cases ev
              · rename_i os eos
                cases ev
                exact fun σ' I' H' x s' => q .non I' H' x s'.su rep_non (outsP_of s' hio (nodupB_iff g7) eos)
            | bk ρ' => simp only [finIO] at ev; cases ev
            | ct ρ' => simp only [finIO] at ev; cases ev
            | rt k' d' =>
              unfold finIO at ev
              split at ev
              · rename_i z
                cases z
              · rename_i js' r' outs' z
                cases z
                split at ev
                · cases ev
                  exact ⟨fun z => absurd rfl z, fun _ => ⟨(fun c z => nomatch z), fun js2 r2 outs2 ez v I' H' x su' rv ou => by
                    cases ez
                    exact q v I' H' x su' rv ou⟩⟩
                · cases ev
              · cases ev
end
theorem kit_val {K : PySem.W.Frag} {C : Addr} (h : PySem.W.subIn K (.ref C) (.type "ValueError") = some true) : PySem.W.kitOne K (.ref C) (cV K "ValueError") = some true := by
  have e : cV K "ValueError" = .type "ValueError" := by unfold cV; rw [if_pos rfl]
  rw [e]
  unfold PySem.W.kitOne
  rw [if_neg (by intro z; cases beq_iff_eq.mp z)]
  unfold PySem.W.kitCls
  show (if PySem.W.kitMeta "ValueError" = true then PySem.W.subIn K (.ref C) (.type "ValueError") else none) = some true
  rw [if_pos (by decide +kernel)]
  exact h
theorem kit_self {K : PySem.W.Frag} {C : Addr} {y : Str} (e : cV K y = .ref C) : PySem.W.kitOne K (.ref C) (cV K y) = some true := by
  rw [e]
  unfold PySem.W.kitOne
  rw [if_pos (beq_self_eq_true _)]
theorem kit_cls {K : PySem.W.Frag} {C D : Addr} {y : Str} {b : Bool} (e : cV K y = .ref D) (hc : PySem.W.isClsIn K D = true) (ht : PySem.W.typeIn K (.ref D) = some (.type "type")) (h : PySem.W.subIn K (.ref C) (.ref D) = some b)
    (hs : PySem.W.subIn K (.ref C) (.ref C) = some true) : PySem.W.kitOne K (.ref C) (cV K y) = some b := by
  rw [e]
  unfold PySem.W.kitOne
  by_cases q : C = D
  · subst q
    rw [hs] at h
    cases h
    rw [if_pos (beq_self_eq_true _)]
  · rw [if_neg (by intro z; cases beq_iff_eq.mp z; exact q rfl)]
    unfold PySem.W.kitCls
    have e2 : ((PySem.W.clsIn K D).isSome && PySem.W.typeIn K (.ref D) == some (.type "type")) = true := by
      have hc' : (PySem.W.clsIn K D).isSome = true := hc
      rw [hc', ht]
      rfl
    show (if ((PySem.W.clsIn K D).isSome && PySem.W.typeIn K (.ref D) == some (.type "type")) = true then PySem.W.subIn K (.ref C) (.ref D) else none) = some b
    rw [if_pos e2]
    exact h
theorem cx_no {P : Program} {w : World} {outer : List PySem.Env} {H : Hp} {s s' : Shared} {e : Value} (h : L2.CX P w outer H s (fun _ _ _ => False) e s') : False := by
  obtain ⟨_, _, _, _, _, _, _, _, _, _, _, _, z⟩ := h
  exact z
/-- the law's own promise, from what its terms compute -/
theorem law_sp {tbl : List (Nat × Fn)} {K : PySem.W.Frag} {n f : Nat} {H : Hp} {a : Addr} {ns : List Int} (hl : ns.length ≤ 63) (hS : SqL K H a (ns.map V.int)) (ev : evFn tbl n f [.scr ns] = some (.fz, .bl true)) : spEv tbl K n f [.ref a] H (fun v _ => v = .bl true) fun _ _ _ => False := by
  obtain ⟨fn, e1, e2⟩ := evFn_np ev
  have go : ∀ I : Hp, Sub I H → SqL K I a (ns.map V.int) → spEv tbl K n f [.ref a] H (fun v _ => v = .bl true) fun _ _ _ => False := fun I su sq =>
    .inl ⟨I, fn, [.scr ns], .fz, .bl true, su, Reps.cons (by simp only [Rep]; exact ⟨a, rfl, sq, Nat.le_trans hl (by decide)⟩) Reps.nil, e1, e2, ev, (fun z => nomatch z), fun _ v I' H' _ r => by
      have r : Rep K I' (.bl true) v := r
      simp only [Rep] at r
      exact r, fun z => nomatch z⟩
  rcases hS with (h | ⟨o, h⟩) | h
  · refine go (upd (fun _ => none) a (.lst (ns.map V.int))) (fun b u e => ?_) (.inl (.inl upd_same))
    by_cases q : b = a
    · rw [q, upd_same] at e
      cases e
      rw [q]
      exact .inl h
    · rw [upd_ne q] at e
      cases e
  · refine go (upd (fun _ => none) a (.frz o (.lst (ns.map V.int)))) (fun b u e => ?_) (.inl (.inr ⟨o, upd_same⟩))
    by_cases q : b = a
    · rw [q, upd_same] at e
      cases e
      rw [q]
      exact .inl h
    · rw [upd_ne q] at e
      cases e
  · exact go (fun _ => none) (fun b u e => by cases e) (.inr h)
end R

set_option linter.all false
set_option maxHeartbeats 1000000
/-! What terms compute, in short equations. -/
namespace R
open PySem L2
def IL (ns : List Int) : D := .lst (ns.map .int)
abbrev fi (i : Int) : Option (Kd × D) := some (.fz, .int i)
abbrev fb (c : Bool) : Option (Kd × D) := some (.fz, .bl c)
abbrev fd (d : D) : Option (Kd × D) := some (.fz, d)
abbrev ow (d : D) : Option (Kd × D) := some (.ow, d)
def seqO (r : Option Out) (k : Env → Option Out) : Option Out := match r with
  | some (.nx ρ) => k ρ
  | r => r
theorem seqO_nx (ρ : Env) (k) : seqO (some (.nx ρ)) k = k ρ := rfl
theorem seqO_rt (a d) (k) : seqO (some (.rt a d)) k = some (.rt a d) := rfl
theorem seqO_bk (ρ : Env) (k) : seqO (some (.bk ρ)) k = some (.bk ρ) := rfl
theorem seqO_ct (ρ : Env) (k) : seqO (some (.ct ρ)) k = some (.ct ρ) := rfl
theorem seqO_ite (p : Prop) [Decidable p] (a b) (k) : seqO (if p then a else b) k = if p then seqO a k else seqO b k := by
  split <;> rfl
theorem finD_nx (ρ : Env) : finD (some (.nx ρ)) = some (.fz, .non) := rfl
theorem finD_fz (d : D) : finD (some (.rt .fz d)) = some (.fz, d) := rfl
theorem finD_ow (d : D) : finD (some (.rt .ow d)) = some (.ow, d) := rfl
theorem finD_bo' (c : Str) : finD (some (.rt .bo (.exc c))) = some (.bo, .exc c) := rfl
theorem okc_fz (d : D) : okc (some (.fz, d)) = some (.fz, d) := rfl
theorem okc_ow (d : D) : okc (some (.ow, d)) = some (.ow, d) := rfl
theorem okc_non : okc none = none := rfl
theorem okc_ite (p : Prop) [Decidable p] (a b) : okc (if p then a else b) = if p then okc a else okc b := by
  split <;> rfl
theorem finD_ite (p : Prop) [Decidable p] (a b) : finD (if p then a else b) = if p then finD a else finD b := by
  split <;> rfl
def rtD : Kd × D → Option Out
  | (.fz, d) => some (.rt .fz d)
  | (_, d) => some (.rt .ow d)
theorem rtD_fz (d : D) : rtD (.fz, d) = some (.rt .fz d) := rfl
theorem rtD_ow (d : D) : rtD (.ow, d) = some (.rt .ow d) := rfl
theorem rtD_bo (d : D) : rtD (.bo, d) = some (.rt .ow d) := rfl
theorem esc_fz (d : D) : esc (.fz, d) = some d := rfl
theorem esc_ow (d : D) : esc (.ow, d) = some d := rfl
def lkE : Option (Option (Kd × D)) → Option (Kd × D)
  | some (some (.fz, d)) => some (.fz, d)
  | some (some (_, d)) => some (.bo, d)
  | _ => none
theorem lkE_fz (d : D) : lkE (some (some (.fz, d))) = some (.fz, d) := rfl
theorem lkE_ow (d : D) : lkE (some (some (.ow, d))) = some (.bo, d) := rfl
def owE : Option (Option (Kd × D)) → Option D
  | some (some (.ow, d)) => some d
  | _ => none
theorem owE_ow (d : D) : owE (some (some (.ow, d))) = some d := rfl
def frzE (ρ : Env) (i : Nat) : Option (Option (Kd × D)) → Option Out
  | some (some (_, d)) => some (.nx (ρ.set i (some (.fz, d))))
  | _ => some (.nx ρ)
theorem frzE_some (ρ : Env) (i k d) : frzE ρ i (some (some (k, d))) = some (.nx (ρ.set i (some (.fz, d)))) := rfl
theorem frzE_none (ρ : Env) (i) : frzE ρ i (some none) = some (.nx ρ) := rfl
theorem onT_kd (k d) : onT (some (k, d)) = truD d := rfl
theorem onT_ite (p : Prop) [Decidable p] (a b) : onT (if p then a else b) = if p then onT a else onT b := by
  split <;> rfl
section
variable (cl : Nat → List D → Option (Kd × D)) (ρ : Env)
theorem q_var (i) : evE cl (.var i) ρ = lkE ρ[i]? := by
  simp only [evE]
  generalize ρ[i]? = o
  rcases o with _ | _ | ⟨k, d⟩
  · rfl
  · rfl
  · cases k <;> rfl
theorem q_int (i) : evE cl (.int i) ρ = some (.fz, .int i) := by simp only [evE]
theorem q_bl (i) : evE cl (.bl i) ρ = some (.fz, .bl i) := by simp only [evE]
theorem q_non : evE cl .non ρ = some (.fz, .non) := by simp only [evE]
theorem q_str (i) : evE cl (.str i) ρ = some (.fz, .str i) := by simp only [evE]
theorem q_glb (x d) : evE cl (.glb x d) ρ = some (.fz, d) := by simp only [evE]
theorem q_bin (op a b) : evE cl (.bin op a b) ρ = (evE cl a ρ).bind fun x => (evE cl b ρ).bind fun y => binD op x.2 y.2 := by
  simp only [evE]
  cases evE cl a ρ with
  | none => rfl
  | some x => cases evE cl b ρ <;> rfl
theorem q_cmp (op a b) : evE cl (.cmp op a b) ρ = (evE cl a ρ).bind fun x => (evE cl b ρ).bind fun y => (cmpD op x.2 y.2).bind fun c => some (.fz, .bl c) := by
  simp only [evE]
  cases evE cl a ρ with
  | none => rfl
  | some x => cases evE cl b ρ with
    | none => rfl
    | some y =>
      show (match cmpD op x.2 y.2 with | none => none | some c => _) = (cmpD op x.2 y.2).bind _
      cases cmpD op x.2 y.2 <;> rfl
theorem q_chain (op op' a b c) : evE cl (.chain op op' a b c) ρ = (evE cl a ρ).bind fun x => (evE cl b ρ).bind fun y => (cmpD op x.2 y.2).bind fun t => if t = true then (evE cl c ρ).bind fun z => (cmpD op' y.2 z.2).bind fun u => some (.fz, .bl u) else some (.fz, .bl false) := by
  simp only [evE]
  cases evE cl a ρ with
  | none => rfl
  | some x => cases evE cl b ρ with
    | none => rfl
    | some y =>
      show (match cmpD op x.2 y.2 with | none => none | some false => _ | some true => _) = (cmpD op x.2 y.2).bind _
      cases cmpD op x.2 y.2 with
      | none => rfl
      | some t =>
        cases t with
        | false => rfl
        | true =>
          cases evE cl c ρ with
          | none => rfl
          | some z =>
            show (match cmpD op' y.2 z.2 with | none => none | some c => _) = (cmpD op' y.2 z.2).bind _
            cases cmpD op' y.2 z.2 <;> rfl
theorem q_and (a b) : evE cl (.and a b) ρ = (onT (evE cl a ρ)).bind fun t => if t = true then evE cl b ρ else evE cl a ρ := by
  simp only [evE]
  cases onT (evE cl a ρ) with
  | none => rfl
  | some t => cases t <;> rfl
theorem q_or (a b) : evE cl (.or a b) ρ = (onT (evE cl a ρ)).bind fun t => if t = true then evE cl a ρ else evE cl b ρ := by
  simp only [evE]
  cases onT (evE cl a ρ) with
  | none => rfl
  | some t => cases t <;> rfl
theorem q_not (a) : evE cl (.not a) ρ = (onT (evE cl a ρ)).bind fun t => some (.fz, .bl (!t)) := by
  simp only [evE]
  cases onT (evE cl a ρ) <;> rfl
def negD : D → Option (Kd × D)
  | .int i => some (.fz, .int (-i))
  | _ => none
theorem q_neg (a) : evE cl (.neg a) ρ = (evE cl a ρ).bind fun x => negD x.2 := by
  simp only [evE]
  cases evE cl a ρ with
  | none => rfl
  | some x => obtain ⟨k, d⟩ := x; cases d <;> rfl
theorem q_ifx (c a b) : evE cl (.ifx c a b) ρ = (onT (evE cl c ρ)).bind fun t => if t = true then evE cl a ρ else evE cl b ρ := by
  simp only [evE]
  cases onT (evE cl c ρ) with
  | none => rfl
  | some t => cases t <;> rfl
theorem q_tup (es) : evE cl (.tup es) ρ = (evF cl es ρ).bind fun ds => some (.fz, .tup ds) := by
  simp only [evE]
  cases evF cl es ρ <;> rfl
theorem q_lst (es) : evE cl (.lst es) ρ = (evF cl es ρ).bind fun ds => some (.ow, .lst ds) := by
  simp only [evE]
  cases evF cl es ρ <;> rfl
theorem q_ix (a b) : evE cl (.ix a b) ρ = (evE cl a ρ).bind fun x => (evE cl b ρ).bind fun y => (ixD x.2 y.2).bind fun d => some (.fz, d) := by
  simp only [evE]
  cases evE cl a ρ with
  | none => rfl
  | some x => cases evE cl b ρ with
    | none => rfl
    | some y =>
      show (match ixD x.2 y.2 with | none => none | some d => _) = (ixD x.2 y.2).bind _
      cases ixD x.2 y.2 <;> rfl
theorem q_slc (a lo hi) : evE cl (.slc a lo hi) ρ = (evE cl a ρ).bind fun x => (evO cl lo ρ).bind fun l => (evO cl hi ρ).bind fun h => slcD x.2 l h := by
  simp only [evE]
  cases evE cl a ρ with
  | none => rfl
  | some x => cases evO cl lo ρ with
    | none => rfl
    | some y => cases evO cl hi ρ <;> rfl
theorem q_call (f es) : evE cl (.call f es) ρ = (evF cl es ρ).bind fun ds => okc (cl f ds) := by
  simp only [evE]
  cases evF cl es ρ <;> rfl
theorem q_callF (f es) : evE cl (.callF f es) ρ = (evG cl es ρ).bind fun ds => frc (cl f ds) := by
  simp only [evE]
  cases evG cl es ρ <;> rfl
theorem q_G0 : evG cl [] ρ = some [] := by simp only [evG]
theorem q_G (e es) : evG cl (e :: es) ρ = (evE cl e ρ).bind fun r => if lone2 r = true then (evG cl es ρ).bind fun ds => some (r.2 :: ds) else none := by
  simp only [evG]
  cases evE cl e ρ with
  | none => rfl
  | some r =>
    show (if lone2 r = true then (match evG cl es ρ with | none => none | some ds => some (r.2 :: ds)) else none) = if lone2 r = true then (evG cl es ρ).bind (fun ds => some (r.2 :: ds)) else none
    cases evG cl es ρ <;> rfl
theorem q_bcall (f es) : evE cl (.bcall f es) ρ = (evB cl es ρ).bind fun ds => flc ds (cl f ds) := by
  simp only [evE]
  cases evB cl es ρ <;> rfl
theorem flc_fz {as : List D} {d : D} (h : flat d = true) : flc as (some (.fz, d)) = some (.fz, d) := by
  simp only [flc, h, Bool.true_or, if_true]
theorem flc_nol {as : List D} {d : D} (h : d.nol = true) (h2 : as.all nio = true) : flc as (some (.fz, d)) = some (.fz, d) := by
  simp only [flc, h, h2, Bool.and_true, Bool.or_true, if_true]
theorem flc_bl (as : List D) (b : Bool) : flc as (some (.fz, .bl b)) = some (.fz, .bl b) := rfl
theorem flc_int (as : List D) (b : Int) : flc as (some (.fz, .int b)) = some (.fz, .int b) := rfl
theorem flc_non (as : List D) : flc as (some (.fz, .non)) = some (.fz, .non) := rfl
theorem q_bi (f es) : evE cl (.bi f es) ρ = (evB cl es ρ).bind fun ds => biD f ds := by
  simp only [evE]
  cases evB cl es ρ <;> rfl
theorem q_mt (m o es) : evE cl (.mt m o es) ρ = (evE cl o ρ).bind fun x => (evB cl es ρ).bind fun ds => mtD m x.2 ds := by
  simp only [evE]
  cases evE cl o ρ with
  | none => rfl
  | some x => cases evB cl es ρ <;> rfl
def lcF (elt : IE) (g : Tg) (ifs : List IE) (x : D) : Option (Option D) := (setTg g x (wipeR ρ (tgS g))).bind fun ρ' => (evI cl ifs ρ').bind fun t => if t = true then (evE cl elt ρ').bind fun r => (esc r).bind fun d => some (some d) else some none
theorem q_lc (elt g k src ifs) : evE cl (.lc elt g k src ifs) ρ = (srcV k (evF cl src ρ) (evB cl src ρ)).bind fun ds => (srcD k ds).bind fun xs => (lcRun (lcF cl ρ elt g ifs) xs).bind fun ys => some (.ow, .lst ys) := by
  simp only [evE]
  have key : ∀ F : D → Option (Option D), (∀ x, F x = lcF cl ρ elt g ifs x) → ∀ xs, (match lcRun F xs with | none => none | some ys => some (Kd.ow, D.lst ys)) = (lcRun (lcF cl ρ elt g ifs) xs).bind fun ys => some (Kd.ow, D.lst ys) := by
    intro F hF xs
    rw [show F = lcF cl ρ elt g ifs from funext hF]
    cases lcRun (lcF cl ρ elt g ifs) xs <;> rfl
  cases srcV k (evF cl src ρ) (evB cl src ρ) with
  | none => rfl
  | some ds =>
    show (match srcD k ds with | none => none | some xs => _) = (srcD k ds).bind _
    cases srcD k ds with
    | none => rfl
    | some xs =>
      refine key _ (fun x => ?_) xs
      unfold lcF
      cases setTg g x (wipeR ρ (tgS g)) with
      | none => rfl
      | some ρ' =>
        show (match evI cl ifs ρ' with | none => none | some false => some none | some true => _) = (evI cl ifs ρ').bind _
        cases evI cl ifs ρ' with
        | none => rfl
        | some t =>
          cases t with
          | false => rfl
          | true =>
            show (match evE cl elt ρ' with | none => none | some r => _) = (evE cl elt ρ').bind _
            cases evE cl elt ρ' with
            | none => rfl
            | some r =>
              show (match esc r with | none => none | some d => _) = (esc r).bind _
              cases esc r <;> rfl
theorem q_dnew (t) : evE cl (.dnew t) ρ = some (.ow, if t then .dt [] [] else .dk [] []) := by simp only [evE]
theorem q_F0 : evF cl [] ρ = some [] := by simp only [evF]
theorem q_F (e es) : evF cl (e :: es) ρ = (evE cl e ρ).bind fun r => (esc r).bind fun d => (evF cl es ρ).bind fun ds => some (d :: ds) := by
  simp only [evF]
  cases evE cl e ρ with
  | none => rfl
  | some r =>
    show (match esc r with | none => none | some d => _) = (esc r).bind _
    cases esc r with
    | none => rfl
    | some d => cases evF cl es ρ <;> rfl
theorem q_B0 : evB cl [] ρ = some [] := by simp only [evB]
theorem q_B (e es) : evB cl (e :: es) ρ = (evE cl e ρ).bind fun r => (evB cl es ρ).bind fun ds => some (r.2 :: ds) := by
  simp only [evB]
  cases evE cl e ρ with
  | none => rfl
  | some r => cases evB cl es ρ <;> rfl
theorem q_I0 : evI cl [] ρ = some true := by simp only [evI]
theorem q_I (e es) : evI cl (e :: es) ρ = (onT (evE cl e ρ)).bind fun t => if t = true then evI cl es ρ else some false := by
  simp only [evI]
  cases onT (evE cl e ρ) with
  | none => rfl
  | some t => cases t <;> rfl
theorem q_O0 : evO cl none ρ = some none := by simp only [evO]
def intO : D → Option (Option Int)
  | .int i => some (some i)
  | _ => none
theorem q_O (e) : evO cl (some e) ρ = (evE cl e ρ).bind fun x => intO x.2 := by
  simp only [evO]
  cases evE cl e ρ with
  | none => rfl
  | some x => obtain ⟨k, d⟩ := x; cases d <;> rfl
/-! statements -/
theorem s_set (g e) : evS cl (.set g e) ρ = (evE cl e ρ).bind fun r => (setR g r ρ).bind fun ρ' => some (.nx ρ') := by
  simp only [evS]
  cases evE cl e ρ with
  | none => rfl
  | some r =>
    show (match setR g r ρ with | none => none | some d => _) = (setR g r ρ).bind _
    cases setR g r ρ <;> rfl
theorem ownAt_eq (i) : ownAt ρ i = owE ρ[i]? := by
  unfold ownAt owE
  generalize ρ[i]? = o
  rcases o with _ | _ | ⟨k, d⟩
  · rfl
  · rfl
  · cases k <;> rfl
theorem s_setix (i k v) : evS cl (.setix i k v) ρ = (evE cl v ρ).bind fun r => (esc r).bind fun d => (owE ρ[i]?).bind fun o => (evE cl k ρ).bind fun q => (setD o q.2 d).bind fun o' => some (.nx (ρ.set i (some (.ow, o')))) := by
  simp only [evS]
  rw [ownAt_eq]
  cases evE cl v ρ with
  | none => rfl
  | some r =>
    show (match esc r with | none => none | some d => _) = (esc r).bind _
    cases esc r with
    | none => rfl
    | some d =>
      cases owE ρ[i]? with
      | none => rfl
      | some o =>
        cases evE cl k ρ with
        | none => rfl
        | some q =>
          show (match setD o q.2 d with | none => none | some d => _) = (setD o q.2 d).bind _
          cases setD o q.2 d <;> rfl
theorem s_ms (m i es) : evS cl (.ms m i es) ρ = (owE ρ[i]?).bind fun o => (evF cl es ρ).bind fun ds => (msD m o ds).bind fun o' => some (.nx (ρ.set i (some (.ow, o')))) := by
  simp only [evS]
  rw [ownAt_eq]
  cases owE ρ[i]? with
  | none => rfl
  | some o =>
    cases evF cl es ρ with
    | none => rfl
    | some ds =>
      show (match msD m o ds with | none => none | some d => _) = (msD m o ds).bind _
      cases msD m o ds <;> rfl
theorem s_msv (g i) : evS cl (.msv g i) ρ = (owE ρ[i]?).bind fun o => (popD o).bind fun p => (setTg g p.1 (ρ.set i (some (.ow, p.2)))).bind fun ρ' => some (.nx ρ') := by
  rw [evS, ownAt_eq]
  cases owE ρ[i]? with
  | none => rfl
  | some o =>
    simp only [Option.bind_some]
    cases popD o with
    | none => rfl
    | some p =>
      obtain ⟨y, o'⟩ := p
      simp only [Option.bind_some]
      cases setTg g y (ρ.set i (some (.ow, o'))) <;> rfl
theorem s_frz (i) : evS cl (.frz i) ρ = frzE ρ i ρ[i]? := by
  simp only [evS]
  unfold frzE
  generalize ρ[i]? = o
  rcases o with _ | _ | ⟨k, d⟩
  · rfl
  · rfl
  · cases k <;> rfl
theorem s_ite (c a b) : evS cl (.ite c a b) ρ = (onT (evE cl c ρ)).bind fun t => if t = true then evSs cl a ρ else evSs cl b ρ := by
  simp only [evS]
  cases onT (evE cl c ρ) with
  | none => rfl
  | some t => cases t <;> rfl
def forF (g : Tg) (body : List IS) (x : D) (ρ1 : Env) : Option Out := (setTg g x ρ1).bind fun ρ2 => evSs cl body ρ2
theorem s_for (g k src body) : evS cl (.for_ g k src body) ρ = (evF cl src ρ).bind fun ds => (srcD k ds).bind fun xs => forRun (forF cl g body) xs ρ := by
  simp only [evS]
  have key : ∀ F : D → Env → Option Out, (∀ x ρ1, F x ρ1 = forF cl g body x ρ1) → ∀ xs, forRun F xs ρ = forRun (forF cl g body) xs ρ := by
    intro F hF xs
    rw [show F = forF cl g body from funext fun x => funext fun ρ1 => hF x ρ1]
  cases evF cl src ρ with
  | none => rfl
  | some ds =>
    show (match srcD k ds with | none => none | some d => _) = (srcD k ds).bind _
    cases srcD k ds with
    | none => rfl
    | some xs =>
      refine key _ (fun x ρ1 => ?_) xs
      unfold forF
      cases setTg g x ρ1 <;> rfl
def whlC (c : IE) (ρ1 : Env) : Option Bool := onT (evE cl c ρ1)
def whlF (body : List IS) (ρ1 : Env) : Option Out := evSs cl body ρ1
theorem s_whl (c body) : evS cl (.whl c body) ρ = whlRun (whlC cl c) (whlF cl body) WHL ρ := by
  simp only [evS]
  rfl
theorem s_ret (e) : evS cl (.ret e) ρ = (evE cl e ρ).bind rtD := by
  simp only [evS]
  cases evE cl e ρ with
  | none => rfl
  | some r => obtain ⟨k, d⟩ := r; cases k <;> rfl
theorem s_retn : evS cl .retn ρ = some (.rt .fz .non) := by simp only [evS]
theorem s_brk : evS cl .brk ρ = some (.bk ρ) := by simp only [evS]
theorem s_cnt : evS cl .cnt ρ = some (.ct ρ) := by simp only [evS]
theorem s_pass : evS cl .pass ρ = some (.nx ρ) := by simp only [evS]
theorem s_raise (c) : evS cl (.raise c) ρ = some (.rt .bo (.exc c)) := by simp only [evS]
def xcO (ρ : Env) : Kd × D → Option Out
  | (.bo, .exc c) => some (.rt .bo (.exc c))
  | (.bo, _) => none
  | _ => some (.nx ρ)
theorem xcO_fz (d : D) : xcO ρ (.fz, d) = some (.nx ρ) := rfl
theorem xcO_ow (d : D) : xcO ρ (.ow, d) = some (.nx ρ) := rfl
theorem xcO_bo (c : Str) : xcO ρ (.bo, .exc c) = some (.rt .bo (.exc c)) := rfl
theorem s_xcall (f es) : evS cl (.xcall f es) ρ = (evF cl es ρ).bind fun ds => (cl f ds).bind (xcO ρ) := by
  simp only [evS]
  cases evF cl es ρ with
  | none => rfl
  | some ds =>
    show (match cl f ds with | none => none | some (.bo, .exc c) => some (.rt .bo (.exc c)) | some (.bo, _) => none | some _ => some (.nx ρ)) = (cl f ds).bind (xcO ρ)
    generalize cl f ds = r
    rcases r with _ | ⟨k, d⟩
    · rfl
    · cases k <;> first | rfl | (cases d <;> rfl)
def tryO (ρ : Env) (rz : List Str) (t : Str) (v en : Nat) : Option Out → Option Out
  | some (.nx ρ') => some (.nx ρ')
  | some (.rt .bo (.exc c)) => if excC c ∈ rz ∧ excSub (excC c) t = some true ∧ v < ρ.length ∧ v ≠ en then some (.nx ((List.replicate ρ.length none).set v (some (.fz, .exc c)))) else none
  | _ => none
theorem s_tryx (body rz t v en) : evS cl (.tryx body rz t v en) ρ = tryO ρ rz t v en (evSs cl body ρ) := by
  simp only [evS]
  rcases evSs cl body ρ with _ | o
  · rfl
  · cases o with
    | rt k d => cases k <;> first | rfl | (cases d <;> rfl)
    | _ => rfl
theorem tryO_nx (rz t v en) (ρ' : Env) : tryO ρ rz t v en (some (.nx ρ')) = some (.nx ρ') := rfl
theorem tryO_bo (rz t v en c) : tryO ρ rz t v en (some (.rt .bo (.exc c))) = if excC c ∈ rz ∧ excSub (excC c) t = some true ∧ v < ρ.length ∧ v ≠ en then some (.nx ((List.replicate ρ.length none).set v (some (.fz, .exc c)))) else none := rfl
def rvO (c : Str) : Kd × D → Option Out
  | (.fz, .int n) => if 0 ≤ n then some (.rt .bo (.exc (excN c n.toNat))) else none
  | _ => none
theorem s_raisev (c e) : evS cl (.raisev c e) ρ = (evE cl e ρ).bind (rvO c) := by
  simp only [evS]
  rcases evE cl e ρ with _ | ⟨k, d⟩
  · rfl
  · cases k <;> first | rfl | (cases d <;> rfl)
theorem rvO_nat (c : Str) (n : Nat) : rvO c (.fz, .int (n : Int)) = some (.rt .bo (.exc (excN c n))) := by
  show (if (0 : Int) ≤ (n : Int) then some (Out.rt .bo (.exc (excN c (n : Int).toNat))) else none) = _
  rw [if_pos (Int.natCast_nonneg n)]
  rfl
def atO (ρ : Env) (c : Str) (v en : Nat) : Option Out → Option Out
  | some (.nx ρ') => some (.nx ρ')
  | some (.rt .bo (.exc x)) => match excP x with
    | some n => if excC x = c ∧ v < ρ.length ∧ v ≠ en then some (.nx ((List.replicate ρ.length none).set v (some (.fz, .int n)))) else none
    | none => none
  | _ => none
theorem s_tryat (body c v en) : evS cl (.tryat body c v en) ρ = atO ρ c v en (evSs cl body ρ) := by
  simp only [evS]
  rcases evSs cl body ρ with _ | o
  · rfl
  · cases o with
    | rt k d => cases k <;> first | rfl | (cases d <;> rfl)
    | _ => rfl
theorem atO_nx (c v en) (ρ' : Env) : atO ρ c v en (some (.nx ρ')) = some (.nx ρ') := rfl
theorem atO_bo (c : Str) (v en n : Nat) : atO ρ c v en (some (.rt .bo (.exc (excN c n)))) = if v < ρ.length ∧ v ≠ en then some (.nx ((List.replicate ρ.length none).set v (some (.fz, .int n)))) else none := by
  simp only [atO, excP_N, excC_N, true_and]
theorem s_expr (e) : evS cl (.expr e) ρ = (evE cl e ρ).bind fun _ => some (.nx ρ) := by
  simp only [evS]
  cases evE cl e ρ <;> rfl
/-! lent arguments, instances -/
def xoB (r : Option XO) (k : D → Env → Option XO) : Option XO := match r with
  | none => none
  | some (.ex c) => some (.ex c)
  | some (.ok d ρ') => k d ρ'
theorem xoB_ok (d ρ') (k) : xoB (some (.ok d ρ')) k = k d ρ' := rfl
theorem xoB_ex (c) (k) : xoB (some (.ex c)) k = some (.ex c) := rfl
theorem xoB_ite (p : Prop) [Decidable p] (a b) (k) : xoB (if p then a else b) k = if p then xoB a k else xoB b k := by split <;> rfl
def xaB (r : Option XA) (k : List (D ⊕ Nat) → Env → Option XO) : Option XO := match r with
  | none => none
  | some (.ex c) => some (.ex c)
  | some (.ok as ρ') => k as ρ'
theorem xaB_ok (d ρ') (k) : xaB (some (.ok d ρ')) k = k d ρ' := rfl
theorem xaB_ex (c) (k) : xaB (some (.ex c)) k = some (.ex c) := rfl
def xlB (r : Option XA) (a : D ⊕ Nat) : Option XA := match r with
  | none => none
  | some (.ex c) => some (.ex c)
  | some (.ok as ρ') => some (.ok (a :: as) ρ')
theorem xlB_ok (a d ρ') : xlB (some (.ok d ρ')) a = some (.ok (a :: d) ρ') := rfl
theorem xlB_ex (a c) : xlB (some (.ex c)) a = some (.ex c) := rfl
def xoL (r : Option XO) (k : D → Env → Option XA) : Option XA := match r with
  | none => none
  | some (.ex c) => some (.ex c)
  | some (.ok d ρ') => k d ρ'
theorem xoL_ok (d ρ') (k) : xoL (some (.ok d ρ')) k = k d ρ' := rfl
theorem xoL_ex (c) (k) : xoL (some (.ex c)) k = some (.ex c) := rfl
def xoS (r : Option XO) (k : D → Env → Option Out) : Option Out := match r with
  | none => none
  | some (.ex c) => some (.rt .bo (.exc c))
  | some (.ok d ρ') => k d ρ'
theorem xoS_ok (d ρ') (k) : xoS (some (.ok d ρ')) k = k d ρ' := rfl
theorem xoS_ex (c) (k) : xoS (some (.ex c)) k = some (.rt .bo (.exc c)) := rfl
def xtS (r : Option XT) (a b : Env → Option Out) : Option Out := match r with
  | none => none
  | some (.ex c) => some (.rt .bo (.exc c))
  | some (.ok true ρ') => a ρ'
  | some (.ok false ρ') => b ρ'
theorem xtS_t (ρ' a b) : xtS (some (.ok true ρ')) a b = a ρ' := rfl
theorem xtS_f (ρ' a b) : xtS (some (.ok false ρ')) a b = b ρ' := rfl
theorem xtS_ok (t ρ' a b) : xtS (some (.ok t ρ')) a b = if t = true then a ρ' else b ρ' := by cases t <;> rfl
theorem xtS_ex (c a b) : xtS (some (.ex c)) a b = some (.rt .bo (.exc c)) := rfl
def xtT (r : Option XT) (a b : Env → Option XT) : Option XT := match r with
  | none => none
  | some (.ex c) => some (.ex c)
  | some (.ok true ρ') => a ρ'
  | some (.ok false ρ') => b ρ'
theorem xtT_t (ρ' a b) : xtT (some (.ok true ρ')) a b = a ρ' := rfl
theorem xtT_f (ρ' a b) : xtT (some (.ok false ρ')) a b = b ρ' := rfl
theorem xtT_ok (t ρ' a b) : xtT (some (.ok t ρ')) a b = if t = true then a ρ' else b ρ' := by cases t <;> rfl
theorem xtT_ex (c a b) : xtT (some (.ex c)) a b = some (.ex c) := rfl
theorem truX_ex (c) : truX (some (.ex c)) = some (.ex c) := rfl
theorem truX_bl (b ρ') : truX (some (.ok (.bl b) ρ')) = some (.ok b ρ') := rfl
theorem onTX_some (t) : onTX ρ (some t) = some (.ok t ρ) := rfl
theorem escO_fz (d) : escO (some (.fz, d)) ρ = some (.ok d ρ) := rfl
theorem escO_ow (d) : escO (some (.ow, d)) ρ = some (.ok d ρ) := rfl
theorem y_callm (f js es) : evX cl (.callm f js es) ρ = xaB (evXA cl js 0 es ρ) (fun as ρ' => callX cl f as ρ') := by
  simp only [evX]
  rfl
theorem y_mcallF (cs m o es) : evX cl (.mcall cs m [] o es) ρ = xoB (evX cl o ρ) (fun d ρ1 => (dispM cs m d).bind fun f => xaB (evXA cl [] 1 es ρ1) (fun as ρ' => callX cl f (.inl d :: as) ρ')) := by
  simp only [evX, List.contains_nil, if_neg Bool.false_ne_true]
  rcases evX cl o ρ with _ | ⟨d, ρ1⟩ | c
  · rfl
  · show (match dispM cs m d with | none => none | some f => _) = (dispM cs m d).bind _
    cases dispM cs m d with
    | none => rfl
    | some f => rfl
  · rfl
theorem y_mcallL (cs m js j es d) (h : js.contains 0 = true) (e : owE ρ[j]? = some d) : evX cl (.mcall cs m js (.var j) es) ρ = (dispM cs m d).bind fun f => xaB (evXA cl js 1 es ρ) (fun as ρ' => callX cl f (.inr j :: as) ρ') := by
  have e2 : lentV ρ (.var j) = some (j, d) := by
    have : ownAt ρ j = some d := e
    simp only [lentV, this]
  simp only [evX, h, if_true, e2]
  cases dispM cs m d <;> rfl
theorem y_and (a b) : evX cl (.and a b) ρ = xoB (evX cl a ρ) fun d ρ' => (truD d).bind fun t => if t = true then evX cl b ρ' else some (.ok d ρ') := by
  simp only [evX]
  rcases evX cl a ρ with _ | ⟨d, ρ1⟩ | c
  · rfl
  · show (match truD d with | none => none | some true => _ | some false => _) = (truD d).bind _
    rcases truD d with _ | _ | _ <;> rfl
  · rfl
theorem y_not (a) : evX cl (.not a) ρ = xoB (evX cl a ρ) fun d ρ' => (truD d).bind fun t => some (.ok (.bl (!t)) ρ') := by
  simp only [evX]
  rcases evX cl a ρ with _ | ⟨d, ρ1⟩ | c
  · rfl
  · show (match truD d with | none => none | some t => _) = (truD d).bind _
    rcases truD d with _ | _ | _ <;> rfl
  · rfl
theorem y_bin (op a b) : evX cl (.bin op a b) ρ = xoB (evX cl a ρ) fun d ρ1 => xoB (evX cl b ρ1) fun e ρ2 => escO (binD op d e) ρ2 := by
  simp only [evX]
  rfl
theorem y_cmp (op a b) : evX cl (.cmp op a b) ρ = xoB (evX cl a ρ) fun d ρ1 => xoB (evX cl b ρ1) fun e ρ2 => (cmpD op d e).bind fun t => some (.ok (.bl t) ρ2) := by
  simp only [evX]
  rcases evX cl a ρ with _ | ⟨d, ρ1⟩ | c
  · rfl
  · show (match evX cl b ρ1 with | none => none | some (.ex c) => some (.ex c) | some (.ok e ρ'') => _) = xoB (evX cl b ρ1) _
    rcases evX cl b ρ1 with _ | ⟨e, ρ2⟩ | c
    · rfl
    · show (match cmpD op d e with | none => none | some t => _) = (cmpD op d e).bind _
      cases cmpD op d e <;> rfl
    · rfl
  · rfl
theorem y_var (i) : evX cl (.var i) ρ = escO (evE cl (.var i) ρ) ρ := by simp only [evX]
theorem y_int (i) : evX cl (.int i) ρ = escO (evE cl (.int i) ρ) ρ := by simp only [evX]
theorem y_bl (i) : evX cl (.bl i) ρ = escO (evE cl (.bl i) ρ) ρ := by simp only [evX]
theorem y_non : evX cl .non ρ = escO (evE cl .non ρ) ρ := by simp only [evX]
theorem y_str (i) : evX cl (.str i) ρ = escO (evE cl (.str i) ρ) ρ := by simp only [evX]
theorem y_chain (a b c d e) : evX cl (.chain a b c d e) ρ = escO (evE cl (.chain a b c d e) ρ) ρ := by simp only [evX]
theorem y_tup (es) : evX cl (.tup es) ρ = escO (evE cl (.tup es) ρ) ρ := by simp only [evX]
theorem y_lst (es) : evX cl (.lst es) ρ = escO (evE cl (.lst es) ρ) ρ := by simp only [evX]
theorem y_ix (a b) : evX cl (.ix a b) ρ = escO (evE cl (.ix a b) ρ) ρ := by simp only [evX]
theorem y_slc (a b c) : evX cl (.slc a b c) ρ = escO (evE cl (.slc a b c) ρ) ρ := by simp only [evX]
theorem y_call (a b) : evX cl (.call a b) ρ = escO (evE cl (.call a b) ρ) ρ := by simp only [evX]
theorem y_bi (a b) : evX cl (.bi a b) ρ = escO (evE cl (.bi a b) ρ) ρ := by simp only [evX]
theorem y_mt (a b c) : evX cl (.mt a b c) ρ = escO (evE cl (.mt a b c) ρ) ρ := by simp only [evX]
theorem y_fld (a b c) : evX cl (.fld a b c) ρ = escO (evE cl (.fld a b c) ρ) ρ := by simp only [evX]
theorem y_make (a b c) : evX cl (.make a b c) ρ = escO (evE cl (.make a b c) ρ) ρ := by simp only [evX]
theorem ya_nil (js n) : evXA cl js n [] ρ = some (.ok [] ρ) := by simp only [evXA]
theorem ya_fz (js n e es) (h : js.contains n = false) : evXA cl js n (e :: es) ρ = xoL (evX cl e ρ) fun d ρ' => xlB (evXA cl js (n + 1) es ρ') (.inl d) := by
  simp only [evXA, h, if_neg Bool.false_ne_true]
  rfl
theorem ya_ow (js n j es d) (h : js.contains n = true) (e : owE ρ[j]? = some d) : evXA cl js n (.var j :: es) ρ = xlB (evXA cl js (n + 1) es ρ) (.inr j) := by
  have e2 : lentV ρ (.var j) = some (j, d) := by
    have : ownAt ρ j = some d := e
    simp only [lentV, this]
  simp only [evXA, h, if_true, e2]
  rfl
theorem yt_and (a b) : evXT cl (.and a b) ρ = xtT (evXT cl a ρ) (evXT cl b) (fun ρ' => some (.ok false ρ')) := by
  simp only [evXT]
  rfl
theorem yt_or (a b) : evXT cl (.or a b) ρ = xtT (evXT cl a ρ) (fun ρ' => some (.ok true ρ')) (evXT cl b) := by
  simp only [evXT]
  rfl
theorem yt_not (a) : evXT cl (.not a) ρ = xtT (evXT cl a ρ) (fun ρ' => some (.ok false ρ')) (fun ρ' => some (.ok true ρ')) := by
  simp only [evXT]
  rcases evXT cl a ρ with _ | ⟨t, ρ1⟩ | c
  · rfl
  · cases t <;> rfl
  · rfl
theorem yt_callm (f js es) : evXT cl (.callm f js es) ρ = truX (evX cl (.callm f js es) ρ) := by simp only [evXT]
theorem yt_mcall (cs m js o es) : evXT cl (.mcall cs m js o es) ρ = truX (evX cl (.mcall cs m js o es) ρ) := by simp only [evXT]
theorem yt_cmp (a b c) : evXT cl (.cmp a b c) ρ = onTX ρ (onT (evE cl (.cmp a b c) ρ)) := by simp only [evXT]
theorem yt_chain (a b c d e) : evXT cl (.chain a b c d e) ρ = onTX ρ (onT (evE cl (.chain a b c d e) ρ)) := by simp only [evXT]
theorem yt_call (a b) : evXT cl (.call a b) ρ = onTX ρ (onT (evE cl (.call a b) ρ)) := by simp only [evXT]
theorem yt_var (a) : evXT cl (.var a) ρ = onTX ρ (onT (evE cl (.var a) ρ)) := by simp only [evXT]
theorem yt_bi (a b) : evXT cl (.bi a b) ρ = onTX ρ (onT (evE cl (.bi a b) ρ)) := by simp only [evXT]
theorem s_setx (g e) : evS cl (.setx g e) ρ = xoS (evX cl e ρ) fun d ρ' => (setTg g d ρ').bind fun ρ'' => some (.nx ρ'') := by
  simp only [evS]
  rcases evX cl e ρ with _ | ⟨d, ρ1⟩ | c
  · rfl
  · show (match setTg g d ρ1 with | none => none | some ρ'' => _) = (setTg g d ρ1).bind _
    cases setTg g d ρ1 <;> rfl
  · rfl
theorem s_itex (c a b) : evS cl (.itex c a b) ρ = xtS (evXT cl c ρ) (evSs cl a) (evSs cl b) := by
  simp only [evS]
  rfl
theorem s_retx (e) : evS cl (.retx e) ρ = xoS (evX cl e ρ) fun d _ => some (.rt .fz d) := by
  simp only [evS]
  rfl
def xoT (r : Option XO) (js : List Nat) : Option Out := match r with
  | some (.ok d ρ') => (outsOf ρ' js).bind fun ds => some (.rt .bo (.io js d ds))
  | _ => none
theorem xoT_ok (d ρ' js) : xoT (some (.ok d ρ')) js = (outsOf ρ' js).bind fun ds => some (.rt .bo (.io js d ds)) := rfl
theorem xoT_ite (p : Prop) [Decidable p] (a b) (js) : xoT (if p then a else b) js = if p then xoT a js else xoT b js := by split <;> rfl
theorem s_rett (js e) : evS cl (.rett js e) ρ = xoT (evX cl e ρ) js := by
  simp only [evS]
  rcases evX cl e ρ with _ | ⟨d, ρ1⟩ | c
  · rfl
  · show (match outsOf ρ1 js with | none => none | some ds => _) = (outsOf ρ1 js).bind _
    cases outsOf ρ1 js <;> rfl
  · rfl
theorem s_exprx (e) : evS cl (.exprx e) ρ = xoS (evX cl e ρ) fun _ ρ' => some (.nx ρ') := by
  simp only [evS]
  rfl
theorem s_fset (cs i x e) : evS cl (.fset cs i x e) ρ = (evE cl e ρ).bind fun r => (owE ρ[i]?).bind fun o => (fsetD cs x r.1 r.2 o).bind fun o' => some (.nx (ρ.set i (some (.ow, o')))) := by
  simp only [evS]
  cases evE cl e ρ with
  | none => rfl
  | some r =>
    show (match ownAt ρ i with | none => none | some o => _) = (owE ρ[i]?).bind _
    have : ownAt ρ i = owE ρ[i]? := rfl
    rw [this]
    cases owE ρ[i]? with
    | none => rfl
    | some o =>
      show (match fsetD cs x r.1 r.2 o with | none => none | some o' => _) = (fsetD cs x r.1 r.2 o).bind _
      cases fsetD cs x r.1 r.2 o <;> rfl
theorem s_msf (cs m i x es) : evS cl (.msf cs m i x es) ρ = (owE ρ[i]?).bind fun o => (evF cl es ρ).bind fun ds => (msfD cs m x ds o).bind fun o' => some (.nx (ρ.set i (some (.ow, o')))) := by
  simp only [evS]
  have : ownAt ρ i = owE ρ[i]? := rfl
  rw [this]
  cases owE ρ[i]? with
  | none => rfl
  | some o =>
    show (match evF cl es ρ with | none => none | some ds => _) = (evF cl es ρ).bind _
    cases evF cl es ρ with
    | none => rfl
    | some ds =>
      show (match msfD cs m x ds o with | none => none | some o' => _) = (msfD cs m x ds o).bind _
      cases msfD cs m x ds o <;> rfl
def intD : D → Option Int
  | .int i => some i
  | _ => none
theorem intD_int (i) : intD (.int i) = some i := rfl
theorem s_mspop (i j e) : evS cl (.mspop i j e) ρ = (owE ρ[j]?).bind fun o => (evE cl e ρ).bind fun r => (intD r.2).bind fun n => (popAtD n o).bind fun p => (owE (ρ.set j (some (.ow, p.2)))[i]?).bind fun oi => (msD .append oi [p.1]).bind fun oi' => some (.nx ((ρ.set j (some (.ow, p.2))).set i (some (.ow, oi')))) := by
  simp only [evS, ownAt_eq]
  cases owE ρ[j]? with
  | none => rfl
  | some o =>
    simp only [Option.bind_some]
    cases evE cl e ρ with
    | none => rfl
    | some r =>
      obtain ⟨k, d⟩ := r
      cases d with
      | int n =>
        simp only [Option.bind_some, intD]
        cases popAtD n o with
        | none => rfl
        | some p =>
          simp only [Option.bind_some]
          cases owE (ρ.set j (some (.ow, p.2)))[i]? with
          | none => rfl
          | some oi =>
            simp only [Option.bind_some]
            cases msD .append oi [p.1] <;> rfl
      | _ => rfl
def lstR : Kd × D → Option (List D)
  | (.fz, .lst xs) => some xs
  | (.ow, .lst xs) => some xs
  | _ => none
theorem s_setl (is e) : evS cl (.setl is e) ρ = (evE cl e ρ).bind fun r => (lstR r).bind fun xs => (setMany is xs ρ).bind fun ρ' => some (.nx ρ') := by
  simp only [evS]
  rcases evE cl e ρ with _ | ⟨k, d⟩
  · rfl
  · cases k <;> cases d <;> first | rfl | (simp only [lstR, Option.bind_some, Option.bind_none]; rename_i xs; cases setMany is xs ρ <;> rfl)
theorem s_msvi (g i e) : evS cl (.msvi g i e) ρ = (owE ρ[i]?).bind fun o => (evE cl e ρ).bind fun r => (intD r.2).bind fun n => (popAtD n o).bind fun p => (setTg g p.1 (ρ.set i (some (.ow, p.2)))).bind fun ρ' => some (.nx ρ') := by
  simp only [evS]
  have : ownAt ρ i = owE ρ[i]? := rfl
  rw [this]
  cases owE ρ[i]? with
  | none => rfl
  | some o =>
    cases evE cl e ρ with
    | none => rfl
    | some r =>
      obtain ⟨k, d⟩ := r
      cases d <;> first | rfl | skip
      rename_i n
      show (match popAtD n o with | none => none | some (y, o') => _) = (popAtD n o).bind _
      cases popAtD n o with
      | none => rfl
      | some p =>
        obtain ⟨y, o'⟩ := p
        show (match setTg g y (ρ.set i (some (.ow, o'))) with | none => none | some ρ' => _) = (setTg g y (ρ.set i (some (.ow, o')))).bind _
        cases setTg g y (ρ.set i (some (.ow, o'))) <;> rfl
theorem ioT_eq (js : List Nat) (ds outs : List D) : ioT (some (some (.ow, .io js (.tup ds) outs))) = some (.tup ds) := rfl
theorem s_lendq (i c b) : evS cl (.lendq i c b) ρ = (ioT ρ[i]?).bind fun t => (onT (evE cl c (ρ.set i (some (.fz, t))))).bind fun x => if x = true then some (.rt .fz (.bl b)) else some (.nx ρ) := by
  simp only [evS]
  cases ioT ρ[i]? with
  | none => rfl
  | some t =>
    show (match onT (evE cl c (ρ.set i (some (.fz, t)))) with | none => none | some true => _ | some false => _) = (onT (evE cl c (ρ.set i (some (.fz, t))))).bind _
    cases onT (evE cl c (ρ.set i (some (.fz, t)))) with
    | none => rfl
    | some x => cases x <;> rfl
theorem s_lends (k i e) : evS cl (.lends k i e) ρ = (ioT ρ[i]?).bind fun t => (evE cl e (ρ.set i (some (.fz, t)))).bind fun r => if lone r = true then (setR (.nm k) r ρ).bind (fun ρ' => some (.nx ρ')) else none := by
  simp only [evS]
  cases ioT ρ[i]? with
  | none => rfl
  | some t =>
    show (match evE cl e (ρ.set i (some (.fz, t))) with | none => none | some r => _) = (evE cl e (ρ.set i (some (.fz, t)))).bind _
    cases evE cl e (ρ.set i (some (.fz, t))) with
    | none => rfl
    | some r =>
      show (if lone r = true then (match setR (.nm k) r ρ with | none => none | some ρ' => some (Out.nx ρ')) else none) = if lone r = true then (setR (.nm k) r ρ).bind (fun ρ' => some (.nx ρ')) else none
      cases setR (.nm k) r ρ <;> rfl
/-- an item of a tuple of one's own is changed -/
def mskD (m : MS) (j : Nat) (as : List D) : D → Option D
  | .io js (.tup ds) outs => if js.contains j then (ds[j]?).bind fun d => (msD m d as).bind fun d' => some (.io js (.tup (ds.set j d')) outs) else none
  | _ => none
theorem mskD_eq (m j as js ds outs) : mskD m j as (.io js (.tup ds) outs) = if js.contains j then (ds[j]?).bind fun d => (msD m d as).bind fun d' => some (.io js (.tup (ds.set j d')) outs) else none := rfl
theorem s_msk (m i j es) : evS cl (.msk m i j es) ρ = (owE ρ[i]?).bind fun o => (evF cl es ρ).bind fun as => (mskD m j as o).bind fun o' => some (.nx (ρ.set i (some (.ow, o')))) := by
  simp only [evS]
  have e0 : ownAt ρ i = owE ρ[i]? := rfl
  rw [e0]
  cases owE ρ[i]? with
  | none => rfl
  | some o =>
    have z : ∀ (x : Option (List D)), (∀ as, mskD m j as o = none) → (none : Option Out) = x.bind fun as => (mskD m j as o).bind fun o' => some (.nx (ρ.set i (some (.ow, o')))) := fun x h => by
      cases x with
      | none => rfl
      | some as => rw [Option.bind_some, h as]; rfl
    cases o <;> first | exact z _ (fun _ => rfl) | skip
    rename_i js r outs
    cases r <;> first | exact z _ (fun _ => rfl) | skip
    rename_i ds
    show (if js.contains j = true then _ else none) = (evF cl es ρ).bind fun as => (mskD m j as (.io js (.tup ds) outs)).bind _
    by_cases hj : js.contains j = true
    · rw [if_pos hj]
      cases hd : ds[j]? with
      | none => exact z _ fun as => by rw [mskD_eq, if_pos hj, hd]; rfl
      | some d =>
        cases evF cl es ρ with
        | none => rfl
        | some as =>
          rw [Option.bind_some]
          rw [mskD_eq, if_pos hj, hd, Option.bind_some]
          show (match msD m d as with | none => none | some d' => some (Out.nx (ρ.set i (some (.ow, .io js (.tup (ds.set j d')) outs))))) = ((msD m d as).bind _).bind _
          cases msD m d as <;> rfl
    · rw [if_neg hj]
      exact z _ fun as => by rw [mskD_eq, if_neg hj]
theorem s_retw (js es) : evS cl (.retw js es) ρ = (evW cl js 0 es ρ).bind fun ds => if nodupB (wvars js 0 es) = true ∧ js.any (fun j => decide (j < ds.length)) = true ∧ ds.length ≤ LINE then some (.rt .ow (.io js (.tup ds) [])) else none := by
  simp only [evS]
  cases evW cl js 0 es ρ <;> rfl
theorem q_fld (cs o x) : evE cl (.fld cs o x) ρ = (evE cl o ρ).bind fun r => fldD cs r.1 x r.2 := by
  simp only [evE]
  cases evE cl o ρ <;> rfl
theorem q_make (c f es) : evE cl (.make c f es) ρ = (evF cl es ρ).bind fun ds => mkR (cl f (.ob c [] [] [] :: ds)) := by
  simp only [evE]
  cases evF cl es ρ <;> rfl
theorem ss_nil : evSs cl [] ρ = some (.nx ρ) := by simp only [evSs]
theorem ss_cons (s ss) : evSs cl (s :: ss) ρ = seqO (evS cl s ρ) (evSs cl ss) := by
  simp only [evSs]
  unfold seqO
  split <;> simp_all
end
theorem bind_ite {α β : Type} (p : Prop) [Decidable p] (a b : Option α) (k : α → Option β) : (if p then a else b).bind k = if p then a.bind k else b.bind k := by
  split <;> rfl
/-! loops -/
/-- no turn leaves the loop -/
theorem forRun_nx {α σ : Type} (g : α → D) {F : D → Env → Option Out} (A : σ → Env → Prop) (step : σ → α → σ) :
    ∀ (xs : List α) (s : σ) (ρ : Env), (∀ (s : σ) (a : α) (ρ : Env), a ∈ xs → A s ρ → ∃ ρ', (F (g a) ρ = some (.nx ρ') ∨ F (g a) ρ = some (.ct ρ')) ∧ A (step s a) ρ') → A s ρ → ∃ ρ', forRun F (xs.map g) ρ = some (.nx ρ') ∧ A (xs.foldl step s) ρ'
  | [], s, ρ, _, h => ⟨ρ, rfl, h⟩
  | x :: xs, s, ρ, H, h => by
    obtain ⟨ρ', e, h'⟩ := H s x ρ (List.mem_cons_self ..) h
    obtain ⟨ρ2, e2, h2⟩ := forRun_nx g A step xs (step s x) ρ' (fun s a ρ m => H s a ρ (List.mem_cons_of_mem _ m)) h'
    refine ⟨ρ2, ?_, h2⟩
    rw [List.map_cons, forRun]
    rcases e with e | e <;> rw [e] <;> exact e2
/-- a turn goes on, or leaves -/
inductive Go (σ : Type) | go (s : σ) | out (k : Kd) (d : D) | stop (s : σ)
def goRun {α σ : Type} (step : σ → α → Go σ) : List α → σ → Go σ
  | [], s => .go s
  | x :: xs, s => match step s x with
    | .go s' => goRun step xs s'
    | .stop s' => .go s'
    | .out k d => .out k d
def GoOk {σ : Type} (A : σ → Env → Prop) (r : Go σ) (o : Option Out) : Prop := match r with
  | .go s => ∃ ρ, (o = some (.nx ρ) ∨ o = some (.ct ρ)) ∧ A s ρ
  | .out k d => o = some (.rt k d)
  | .stop s => ∃ ρ, o = some (.bk ρ) ∧ A s ρ
def GoEnd {σ : Type} (A : σ → Env → Prop) (r : Go σ) (o : Option Out) : Prop := match r with
  | .go s => ∃ ρ, o = some (.nx ρ) ∧ A s ρ
  | .out k d => o = some (.rt k d)
  | .stop s => ∃ ρ, o = some (.nx ρ) ∧ A s ρ
theorem forRun_go {α σ : Type} (g : α → D) {F : D → Env → Option Out} (A : σ → Env → Prop) (step : σ → α → Go σ) :
    ∀ (xs : List α) (s : σ) (ρ : Env), (∀ (s : σ) (a : α) (ρ : Env), a ∈ xs → A s ρ → GoOk A (step s a) (F (g a) ρ)) → A s ρ → GoEnd A (goRun step xs s) (forRun F (xs.map g) ρ)
  | [], s, ρ, _, h => ⟨ρ, rfl, h⟩
  | x :: xs, s, ρ, H, h => by
    have q := H s x ρ (List.mem_cons_self ..) h
    rw [List.map_cons, forRun, goRun]
    cases e : step s x with
    | go s' =>
      rw [e] at q
      obtain ⟨ρ', e2, h'⟩ := q
      have ih := forRun_go g A step xs s' ρ' (fun s a ρ m => H s a ρ (List.mem_cons_of_mem _ m)) h'
      rcases e2 with e2 | e2 <;> rw [e2] <;> exact ih
    | stop s' =>
      rw [e] at q
      obtain ⟨ρ', e2, h'⟩ := q
      rw [e2]
      exact ⟨ρ', rfl, h'⟩
    | out k d =>
      rw [e] at q
      have q : F (g x) ρ = some (.rt k d) := q
      rw [q]
      rfl
/-- a comprehension over a list, all its items taken -/
theorem lcRun_map {α : Type} (g : α → D) {F : D → Option (Option D)} (v : α → D) : ∀ xs : List α, (∀ a ∈ xs, F (g a) = some (some (v a))) → lcRun F (xs.map g) = some (xs.map v)
  | [], _ => rfl
  | x :: xs, h => by
    rw [List.map_cons, lcRun, h x (List.mem_cons_self ..)]
    simp only
    rw [lcRun_map g v xs fun a m => h a (List.mem_cons_of_mem _ m)]
    rfl
theorem lcRun_filter {α : Type} (g : α → D) {F : D → Option (Option D)} (v : α → D) (p : α → Bool) : ∀ xs : List α, (∀ a ∈ xs, F (g a) = some (if p a = true then some (v a) else none)) → lcRun F (xs.map g) = some ((xs.filter p).map v)
  | [], _ => rfl
  | x :: xs, h => by
    rw [List.map_cons, lcRun, h x (List.mem_cons_self ..)]
    simp only
    rw [lcRun_filter g v p xs fun a m => h a (List.mem_cons_of_mem _ m)]
    cases e : p x
    · rw [List.filter_cons_of_neg (by rw [e]; exact Bool.false_ne_true)]
      rfl
    · rw [List.filter_cons_of_pos e]
      rfl
/-- by places -/
theorem forRun_J {F : D → Env → Option Out} : ∀ (xs : List D) (J : Nat → Env → Prop) (ρ : Env), J 0 ρ → (∀ (i : Nat) (x : D) (ρ : Env), xs[i]? = some x → J i ρ → ∃ ρ', (F x ρ = some (.nx ρ') ∨ F x ρ = some (.ct ρ')) ∧ J (i + 1) ρ') → ∃ ρ', forRun F xs ρ = some (.nx ρ') ∧ J xs.length ρ'
  | [], J, ρ, h, _ => ⟨ρ, rfl, h⟩
  | x :: xs, J, ρ, h, H => by
    obtain ⟨ρ1, e, h1⟩ := H 0 x ρ rfl h
    obtain ⟨ρ2, e2, h2⟩ := forRun_J xs (fun i => J (i + 1)) ρ1 h1 fun i y ρ hy hj => H (i + 1) y ρ hy hj
    refine ⟨ρ2, ?_, h2⟩
    rw [forRun]
    rcases e with e | e <;> rw [e] <;> exact e2
theorem forRun_JE {F : D → Env → Option Out} (E : Kd → D → Prop) (B : Env → Prop) : ∀ (xs : List D) (J : Nat → Env → Prop) (ρ : Env), J 0 ρ → (∀ (i : Nat) (x : D) (ρ : Env), xs[i]? = some x → J i ρ → (∃ ρ', (F x ρ = some (.nx ρ') ∨ F x ρ = some (.ct ρ')) ∧ J (i + 1) ρ') ∨ (∃ k d, F x ρ = some (.rt k d) ∧ E k d) ∨ (∃ ρ', F x ρ = some (.bk ρ') ∧ B ρ')) →
    (∃ ρ', forRun F xs ρ = some (.nx ρ') ∧ J xs.length ρ') ∨ (∃ k d, forRun F xs ρ = some (.rt k d) ∧ E k d) ∨ (∃ ρ', forRun F xs ρ = some (.nx ρ') ∧ B ρ')
  | [], J, ρ, h, _ => .inl ⟨ρ, rfl, h⟩
  | x :: xs, J, ρ, h, H => by
    rw [forRun]
    rcases H 0 x ρ rfl h with ⟨ρ1, e, h1⟩ | ⟨k, d, e, h1⟩ | ⟨ρ1, e, h1⟩
    · have ih := forRun_JE E B xs (fun i => J (i + 1)) ρ1 h1 fun i y ρ hy hj => H (i + 1) y ρ hy hj
      rcases e with e | e <;> rw [e] <;> exact ih
    · rw [e]
      exact .inr (.inl ⟨k, d, rfl, h1⟩)
    · rw [e]
      exact .inr (.inr ⟨ρ1, rfl, h1⟩)
/-! data -/
theorem ixN_in {n : Nat} {i : Int} (h0 : 0 ≤ i) (h1 : i < n) : ixN n i = some i.toNat := by
  unfold ixN
  rw [if_pos h0, if_pos h1]
theorem atI_in {α : Type} {xs : List α} {i : Int} (h0 : 0 ≤ i) (h1 : i < xs.length) : atI xs i = xs[i.toNat]? := by
  unfold atI
  rw [ixN_in h0 h1]
  rfl
theorem atI_getD {α : Type} {xs : List α} {i : Int} (d : α) (h0 : 0 ≤ i) (h1 : i < xs.length) : atI xs i = some (xs.getD i.toNat d) := by
  rw [atI_in h0 h1]
  have h : i.toNat < xs.length := by omega
  rw [List.getD_eq_getElem?_getD, List.getElem?_eq_getElem h]
  rfl
theorem intsD_map : ∀ ns : List Int, intsD (ns.map .int) = some ns
  | [] => rfl
  | n :: ns => by
    rw [List.map_cons, intsD, intsD_map ns]
    rfl
theorem deps_le {k : Nat} : ∀ {ds : List D}, (∀ d ∈ ds, d.dep ≤ k) → D.deps ds ≤ k
  | [], _ => by simp only [D.deps]; exact Nat.zero_le _
  | d :: ds, h => by
    simp only [D.deps]
    exact Nat.max_le.mpr ⟨h d (List.mem_cons_self ..), deps_le fun e m => h e (List.mem_cons_of_mem _ m)⟩
theorem dep_il (ns : List Int) : D.deps (ns.map .int) ≤ 0 := deps_le fun d m => by
  obtain ⟨n, _, rfl⟩ := List.mem_map.mp m
  simp only [D.dep]
  exact Nat.le_refl 0
mutual
def D.nod : D → Bool
  | .dk _ _ => false
  | .dt _ _ => false
  | .exc _ => false
  | .ob _ _ _ _ => false
  | .io _ _ _ => false
  | .tup xs => D.nods xs
  | .lst xs => D.nods xs
  | _ => true
def D.nods : List D → Bool
  | [] => true
  | x :: xs => D.nod x && D.nods xs
end
theorem eqvAll_refl_int : ∀ ns : List Int, PyData.eqvAll (ns.map PyData.int) (ns.map PyData.int) = true
  | [] => by simp [PyData.eqvAll]
  | n :: ns => by
    rw [List.map_cons, PyData.eqvAll, eqvAll_refl_int ns]
    simp [PyData.eqv]
mutual
theorem eqv_refl : ∀ d : D, d.nod = true → eqv d d = true
  | .non, _ => by simp [eqv, D.py, PyData.eqv]
  | .bl _, _ => by simp [eqv, D.py, PyData.eqv]
  | .int _, _ => by simp [eqv, D.py, PyData.eqv]
  | .str _, _ => by simp [eqv, D.py, PyData.eqv]
  | .tup xs, h => by
    simp only [D.nod] at h
    have := eqvs_refl xs h
    simpa [eqv, D.py, PyData.eqv] using this
  | .lst xs, h => by
    simp only [D.nod] at h
    have := eqvs_refl xs h
    simpa [eqv, D.py, PyData.eqv] using this
  | .dk _ _, h => by simp [D.nod] at h
  | .dt _ _, h => by simp [D.nod] at h
  | .exc _, h => by simp [D.nod] at h
  | .ob _ _ _ _, h => by simp [D.nod] at h
  | .io _ _ _, h => by simp [D.nod] at h
  | .scr ns, _ => by
    simp only [eqv, D.py, PyData.eqv]
    exact eqvAll_refl_int ns
theorem eqvs_refl : ∀ ds : List D, D.nods ds = true → PyData.eqvAll (D.pys ds) (D.pys ds) = true
  | [], _ => by simp [D.pys, PyData.eqvAll]
  | d :: ds, h => by
    simp only [D.nods, Bool.and_eq_true] at h
    have h1 := eqv_refl d h.1
    have h2 := eqvs_refl ds h.2
    simp only [D.pys, PyData.eqvAll, h2, Bool.and_true]
    exact h1
end
theorem nods_of : ∀ {ds : List D}, (∀ d ∈ ds, d.nod = true) → D.nods ds = true
  | [], _ => by simp only [D.nods]
  | d :: ds, h => by
    simp only [D.nods, h d (List.mem_cons_self ..), nods_of fun e m => h e (List.mem_cons_of_mem _ m), Bool.and_self]
theorem nods_il (ns : List Int) : D.nods (ns.map .int) = true := nods_of fun d m => by
  obtain ⟨n, _, rfl⟩ := List.mem_map.mp m
  simp only [D.nod]
def pD (p : Int × Int) : D := .tup [.int p.1, .int p.2]
theorem dep_pD (p : Int × Int) : (pD p).dep = 1 := by simp [pD, D.dep, D.deps]
theorem nod_pD (p : Int × Int) : (pD p).nod = true := by simp [pD, D.nod, D.nods]
theorem dep_pl (ps : List (Int × Int)) : D.deps (ps.map pD) ≤ 1 := deps_le fun d m => by
  obtain ⟨n, _, rfl⟩ := List.mem_map.mp m
  rw [dep_pD]
  exact Nat.le_refl _
theorem nods_pl (ps : List (Int × Int)) : D.nods (ps.map pD) = true := nods_of fun d m => by
  obtain ⟨n, _, rfl⟩ := List.mem_map.mp m
  exact nod_pD n
theorem mem_rangeL {a b x : Int} : x ∈ rangeL a b ↔ a ≤ x ∧ x < b := by
  unfold rangeL
  rw [List.mem_map]
  constructor
  · rintro ⟨i, hi, rfl⟩
    rw [List.mem_range] at hi
    omega
  · rintro ⟨h1, h2⟩
    exact ⟨(x - a).toNat, by rw [List.mem_range]; omega, by omega⟩
theorem len_rangeL (a b : Int) : (rangeL a b).length = (b - a).toNat := by
  unfold rangeL
  rw [List.length_map, List.length_range]
theorem get_rangeL {a b : Int} {i : Nat} (h : i < (b - a).toNat) : (rangeL a b)[i]? = some (a + (i : Nat)) := by
  unfold rangeL
  rw [List.getElem?_map, List.getElem?_range h]
  rfl
theorem setR_fz (i : Nat) (d : D) (ρ : Env) : setR (.nm i) (.fz, d) ρ = if i < ρ.length then some (ρ.set i (some (.fz, d))) else none := by simp only [setR]
theorem setR_ow (i : Nat) (d : D) (ρ : Env) : setR (.nm i) (.ow, d) ρ = if i < ρ.length then some (ρ.set i (some (.ow, d))) else none := by simp only [setR]
theorem setR_tp (is : List Nat) (ds : List D) (ρ : Env) : setR (.tp is) (.fz, .tup ds) ρ = setMany is ds ρ := by simp only [setR]
theorem b_add (i j : Int) : binD .add (.int i) (.int j) = some (.fz, .int (i + j)) := by simp only [binD]
theorem b_sub (i j : Int) : binD .sub (.int i) (.int j) = some (.fz, .int (i - j)) := by simp only [binD]
theorem sm64_of {j : Int} (h0 : -18446744073709551616 < j) (h1 : j < 18446744073709551616) : R.small64 j = true := by
  unfold R.small64
  rw [decide_eq_true (by omega), decide_eq_true (by omega)]
  rfl
theorem b_mul1 {i j : Int} (h0 : -18446744073709551616 < j) (h1 : j < 18446744073709551616) : binD .mul (.int i) (.int j) = some (.fz, .int (i * j)) := by
  simp only [binD, sm64_of h0 h1, Bool.or_true, if_true]
theorem b_mul2 {i j : Int} (h0 : -18446744073709551616 < i) (h1 : i < 18446744073709551616) : binD .mul (.int i) (.int j) = some (.fz, .int (i * j)) := by
  simp only [binD, sm64_of h0 h1, Bool.true_or, if_true]
theorem b_mod {i j : Int} (h : 0 < j) : binD .mod (.int i) (.int j) = some (.fz, .int (i % j)) := by
  simp only [binD]
  rw [if_pos (by omega), Int.fmod_eq_emod_of_nonneg _ (by omega)]
theorem b_fdivB {i j : Int} (h : 0 < j) (h2 : j < 1152921504606846976) : binD .fdiv (.int i) (.int j) = some (.fz, .int (i / j)) := by
  simp only [binD]
  rw [if_pos (by omega), Int.fdiv_eq_ediv_of_nonneg _ (by omega)]
theorem b_fdiv {i j : Int} (h : 0 < j) (h2 : j < 1073741824) : binD .fdiv (.int i) (.int j) = some (.fz, .int (i / j)) := by
  simp only [binD]
  rw [if_pos (by omega), Int.fdiv_eq_ediv_of_nonneg _ (by omega)]
theorem le_lineR {n : Nat} (h : n ≤ 1000000) : n ≤ LINE := Nat.le_trans h (by decide)
theorem lt_lineR {n : Nat} (h : n ≤ 1000000) : n < LINE := Nat.lt_of_le_of_lt h (by decide)
theorem b_cat {xs ys : List D} (h : xs.length + ys.length ≤ 1000000) : binD .add (.lst xs) (.lst ys) = some (.ow, .lst (xs ++ ys)) := by
  simp only [binD, if_pos (le_lineR h)]
theorem b_catT {xs ys : List D} (h : xs.length + ys.length ≤ 1000000) : binD .add (.tup xs) (.tup ys) = some (.fz, .tup (xs ++ ys)) := by
  simp only [binD, if_pos (le_lineR h)]
theorem m_app {xs : List D} {d : D} (h : xs.length ≤ 1000000) : msD .append (.lst xs) [d] = some (.lst (xs ++ [d])) := by
  simp only [msD, if_pos (lt_lineR h)]
theorem m_rev {xs : List D} : msD .reverse (.lst xs) [] = some (.lst xs.reverse) := by simp only [msD]
theorem c_eqI (i j : Int) : cmpD .eq (.int i) (.int j) = some (decide (i = j)) := by
  simp only [cmpD, D.dep, Nat.zero_le, and_self, if_true, eqv, D.py, PyData.eqv]
  by_cases h : i = j
  · subst h
    rw [beq_self_eq_true, decide_eq_true rfl]
  · rw [beq_eq_false_iff_ne.mpr h, decide_eq_false h]
theorem c_neI (i j : Int) : cmpD .ne (.int i) (.int j) = some (decide (i ≠ j)) := by
  simp only [cmpD, D.dep, Nat.zero_le, and_self, if_true, eqv, D.py, PyData.eqv]
  by_cases h : i = j
  · subst h
    rw [beq_self_eq_true, decide_eq_false (by simp)]
    rfl
  · rw [beq_eq_false_iff_ne.mpr h, decide_eq_true h]
    rfl
theorem c_eqB (i j : Bool) : cmpD .eq (.bl i) (.bl j) = some (i == j) := by
  simp only [cmpD, D.dep, Nat.zero_le, and_self, if_true, eqv, D.py, PyData.eqv]
theorem c_refl {d : D} (h : d.nod = true) (h2 : d.dep ≤ 60) : cmpD .eq d d = some true := by
  simp only [cmpD, h2, and_self, if_true, eqv_refl d h]
theorem c_lt (i j : Int) : cmpD .lt (.int i) (.int j) = some (decide (i < j)) := by simp only [cmpD]
theorem c_le (i j : Int) : cmpD .le (.int i) (.int j) = some (decide (i ≤ j)) := by simp only [cmpD]
theorem c_gt (i j : Int) : cmpD .gt (.int i) (.int j) = some (decide (j < i)) := by simp only [cmpD]
theorem c_ge (i j : Int) : cmpD .ge (.int i) (.int j) = some (decide (j ≤ i)) := by simp only [cmpD]
def mx (i j : Int) : Int := if j > i then j else i
def mn (i j : Int) : Int := if j < i then j else i
theorem f_max (i j : Int) : biD .max [.int i, .int j] = some (.fz, .int (mx i j)) := by simp only [biD]; rfl
theorem f_min (i j : Int) : biD .min [.int i, .int j] = some (.fz, .int (mn i j)) := by simp only [biD]; rfl
theorem f_lenL (xs : List D) : biD .len [.lst xs] = some (.fz, .int xs.length) := by simp only [biD]
theorem f_lenT (xs : List D) : biD .len [.tup xs] = some (.fz, .int xs.length) := by simp only [biD]
theorem f_lenS (xs : List Int) : biD .len [.scr xs] = some (.fz, .int xs.length) := by simp only [biD]
theorem f_lenX (x : Str) : biD .len [.str x] = some (.fz, .int x.length) := by simp only [biD]
theorem f_tupL (xs : List D) : biD .tuple [.lst xs] = some (.fz, .tup xs) := by simp only [biD]
theorem f_tupT (xs : List D) : biD .tuple [.tup xs] = some (.fz, .tup xs) := by simp only [biD]
theorem f_lstL (xs : List D) : biD .list [.lst xs] = some (.ow, .lst xs) := by simp only [biD]
theorem f_lstT (xs : List D) : biD .list [.tup xs] = some (.ow, .lst xs) := by simp only [biD]
theorem f_lstS (xs : List Int) : biD .list [.scr xs] = some (.ow, .lst (xs.map .int)) := by simp only [biD]
theorem f_intB (c : Bool) : biD .int [.bl c] = some (.fz, .int (if c = true then 1 else 0)) := by simp only [biD]
theorem f_intI (c : Int) : biD .int [.int c] = some (.fz, .int c) := by simp only [biD]
theorem f_isB (c : Bool) : biD .isBool [.bl c] = some (.fz, .bl true) := by simp only [biD, isD, Option.map_some]
theorem f_sortset {ns : List Int} (h : ns.length ≤ 4000) (h2 : (dedup ns).length < 64) : biD .sortedSet [.lst (ns.map .int)] = some (.ow, .lst ((sortI (dedup ns)).map .int)) := by
  simp only [biD, intsD_map, if_pos (show ns.length ≤ 4000 ∧ (dedup ns).length < 64 from ⟨h, h2⟩)]
theorem f_lenset {ns : List Int} (h : ns.length ≤ 4000) : biD .lenset [.lst (ns.map .int)] = some (.fz, .int (dedup ns).length) := by
  simp only [biD, intsD_map, if_pos h]
theorem sm62_of {j : Int} (h0 : -1000000 ≤ j) (h1 : j ≤ 1000000) : small62 j = true := by
  unfold small62
  rw [decide_eq_true (by omega), decide_eq_true (by omega)]
  rfl
theorem k_rng1 {n : Int} (h0 : -100000 ≤ n) (h1 : n ≤ 100000) : srcD .rng [.int n] = some ((rangeL 0 n).map .int) := by
  simp only [srcD, sm62_of (j := n) (by omega) (by omega)]
  rw [if_pos ⟨trivial, le_lineR (by omega)⟩]
theorem k_rng2 {a n : Int} (ha0 : -100000 ≤ a) (ha1 : a ≤ 100000) (h0 : -100000 ≤ n) (h1 : n ≤ 100000) : srcD .rng [.int a, .int n] = some ((rangeL a n).map .int) := by
  simp only [srcD, sm62_of (j := n) (by omega) (by omega), sm62_of (j := a) (by omega) (by omega)]
  rw [if_pos ⟨trivial, trivial, le_lineR (by omega)⟩]
theorem k_seqL (xs : List D) : srcD .seq [.lst xs] = some xs := by simp only [srcD, items]
theorem k_seqT (xs : List D) : srcD .seq [.tup xs] = some xs := by simp only [srcD, items]
theorem k_seqS (xs : List Int) : srcD .seq [.scr xs] = some (xs.map .int) := by simp only [srcD, items]
theorem x_lst {xs : List D} {i : Int} : ixD (.lst xs) (.int i) = atI xs i := by simp only [ixD]
theorem x_tup {xs : List D} {i : Int} : ixD (.tup xs) (.int i) = atI xs i := by simp only [ixD]
theorem at_0 {α : Type} (x : α) (xs : List α) : atI (x :: xs) 0 = some x := by
  rw [atI_in (by omega) (by simp only [List.length_cons]; omega)]
  rfl
theorem at_1 {α : Type} (x y : α) (xs : List α) : atI (x :: y :: xs) 1 = some y := by
  rw [atI_in (by omega) (by simp only [List.length_cons]; omega)]
  rfl
theorem at_2 {α : Type} (x y z : α) (xs : List α) : atI (x :: y :: z :: xs) 2 = some z := by
  rw [atI_in (by omega) (by simp only [List.length_cons]; omega)]
  rfl
theorem at_3 {α : Type} (x y z u : α) (xs : List α) : atI (x :: y :: z :: u :: xs) 3 = some u := by
  rw [atI_in (by omega) (by simp only [List.length_cons]; omega)]
  rfl
theorem get_map_int {xs : List Int} {i : Nat} {x : D} (h : (xs.map D.int)[i]? = some x) : ∃ n, xs[i]? = some n ∧ x = .int n := by
  rw [List.getElem?_map] at h
  cases e : xs[i]? with
  | none => rw [e] at h; cases h
  | some n => rw [e] at h; exact ⟨n, rfl, (Option.some.inj h).symm⟩
theorem get_map {α : Type} {f : α → D} {xs : List α} {i : Nat} {x : D} (h : (xs.map f)[i]? = some x) : ∃ n, xs[i]? = some n ∧ x = f n := by
  rw [List.getElem?_map] at h
  cases e : xs[i]? with
  | none => rw [e] at h; cases h
  | some n => rw [e] at h; exact ⟨n, rfl, (Option.some.inj h).symm⟩
theorem get_range {a b x : Int} {i : Nat} (h : (rangeL a b)[i]? = some x) : x = a + i ∧ a ≤ x ∧ x < b := by
  have hi : i < (rangeL a b).length := (List.getElem?_eq_some_iff.mp h).1
  rw [len_rangeL] at hi
  rw [get_rangeL hi] at h
  have := Option.some.inj h
  omega
theorem run_eq {cl : Nat → List D → Option (Kd × D)} {fn : Fn} {ds : List D} (h : ds.length = fn.np) (hio : fn.io = [] := by rfl) : R.run cl fn ds = finD (evSs cl fn.body (start0 fn ds)) := by
  unfold R.run
  rw [if_pos h, if_pos hio]
theorem run_io {cl : Nat → List D → Option (Kd × D)} {fn : Fn} {ds : List D} (h : ds.length = fn.np) (hio : fn.io ≠ []) : R.run cl fn ds = finIO fn.io (evSs cl fn.body (startIO fn ds)) := by
  unfold R.run
  rw [if_pos h, if_neg hio]
theorem runio_to {cl : Nat → List D → Option (Kd × D)} {fn : Fn} {ds : List D} {r : Option (Kd × D)} (h : ds.length = fn.np) (hio : fn.io ≠ []) (e : finIO fn.io (evSs cl fn.body (startIO fn ds)) = r) : R.run cl fn ds = r := (run_io h hio).trans e
theorem run_to {cl : Nat → List D → Option (Kd × D)} {fn : Fn} {ds : List D} {r : Option (Kd × D)} (h : ds.length = fn.np) (e : finD (evSs cl fn.body (start0 fn ds)) = r) (hio : fn.io = [] := by rfl) : R.run cl fn ds = r := (run_eq h hio).trans e
theorem ev_to {tbl : List (Nat × Fn)} {n f : Nat} {fn : Fn} {ds : List D} {r : Option (Kd × D)} (h : tbl.lookup f = some fn) (e : R.run (evFn tbl n) fn ds = r) : evFn tbl (n + 1) f ds = r := by
  simp only [evFn, h]
  exact e
theorem whl_J {c : Env → Option Bool} {f : Env → Option Out} (J : Nat → Env → Prop) (E : Env → Prop) (h : ∀ i ρ, J i ρ → (c ρ = some false ∧ E ρ) ∨ (i ≠ 0 ∧ c ρ = some true ∧ ∃ ρ', (f ρ = some (.nx ρ') ∨ f ρ = some (.ct ρ')) ∧ J (i - 1) ρ')) :
    ∀ (n i : Nat) (ρ : Env), i < n → J i ρ → ∃ ρ', whlRun c f n ρ = some (.nx ρ') ∧ E ρ'
  | 0, i, ρ, hi, _ => absurd hi (Nat.not_lt_zero i)
  | n + 1, i, ρ, hi, hj => by
    rw [whlRun]
    rcases h i ρ hj with ⟨e, he⟩ | ⟨h0, e, ρ', e2, hj'⟩
    · rw [e]
      exact ⟨ρ, rfl, he⟩
    · rw [e]
      have ih := whl_J J E h n (i - 1) ρ' (by omega) hj'
      rcases e2 with e2 | e2 <;> simp only [e2] <;> exact ih
theorem f_isI (i : Int) : biD .isInt [.int i] = some (.fz, .bl true) := by simp only [biD, isD, Option.map_some]
theorem f_isIB (i : Bool) : biD .isInt [.bl i] = some (.fz, .bl true) := by simp only [biD, isD, Option.map_some]
theorem f_isBI (i : Int) : biD .isBool [.int i] = some (.fz, .bl false) := by simp only [biD, isD, Option.map_some]
theorem f_isL (i : List D) : biD .isList [.lst i] = some (.fz, .bl true) := by simp only [biD, isD, Option.map_some]
theorem f_isT (i : List D) : biD .isTuple [.tup i] = some (.fz, .bl true) := by simp only [biD, isD, Option.map_some]
theorem f_isS (i : Str) : biD .isStr [.str i] = some (.fz, .bl true) := by simp only [biD, isD, Option.map_some]
theorem c_is (d : D) : cmpD .is d .non = some (isNon d) := by simp only [cmpD]
theorem c_isnt (d : D) : cmpD .isnt d .non = some (!isNon d) := by simp only [cmpD]
theorem isNon_non : isNon .non = true := rfl
theorem isNon_tup (xs : List D) : isNon (.tup xs) = false := rfl
theorem isNon_int (i : Int) : isNon (.int i) = false := rfl
theorem isNon_bl (i : Bool) : isNon (.bl i) = false := rfl
theorem isNon_lst (xs : List D) : isNon (.lst xs) = false := rfl
theorem cut_nat {α : Type} (xs : List α) (a b : Nat) : cut xs (some (a : Int)) (some (b : Int)) = (xs.drop (min a xs.length)).take (min b xs.length - min a xs.length) := by
  unfold cut
  rw [HT.sIx_nat, HT.sIx_nat]
theorem cut_from {α : Type} (xs : List α) (a : Nat) : cut xs (some (a : Int)) none = xs.drop (min a xs.length) := by
  unfold cut
  rw [HT.sIx_nat, HT.sIx_none]
  exact List.take_of_length_le (by rw [List.length_drop]; omega)
theorem cut_to {α : Type} (xs : List α) (b : Nat) : cut xs none (some (b : Int)) = xs.take (min b xs.length) := by
  unfold cut
  rw [HT.sIx_nat, HT.sIx_none]
  simp
def loopO (r : Option Out) (k : Env → Option Out) : Option Out := match r with
  | some (.nx ρ) => k ρ
  | some (.ct ρ) => k ρ
  | some (.bk ρ) => some (.nx ρ)
  | some (.rt a d) => some (.rt a d)
  | none => none
theorem loopO_nx (ρ : Env) (k) : loopO (some (.nx ρ)) k = k ρ := rfl
theorem loopO_ct (ρ : Env) (k) : loopO (some (.ct ρ)) k = k ρ := rfl
theorem loopO_bk (ρ : Env) (k) : loopO (some (.bk ρ)) k = some (.nx ρ) := rfl
theorem loopO_rt (a d) (k) : loopO (some (.rt a d)) k = some (.rt a d) := rfl
theorem forRun_nil (f : D → Env → Option Out) (ρ : Env) : forRun f [] ρ = some (.nx ρ) := by simp only [forRun]
theorem forRun_cons (f : D → Env → Option Out) (x : D) (xs : List D) (ρ : Env) : forRun f (x :: xs) ρ = loopO (f x ρ) (forRun f xs) := by
  rw [forRun]
  unfold loopO
  rcases f x ρ with _ | o
  · rfl
  · cases o <;> rfl
theorem flat_il (ns : List Int) : (ns.map D.int).all flat = true := by
  rw [List.all_eq_true]
  intro d m
  obtain ⟨n, _, rfl⟩ := List.mem_map.mp m
  rfl
theorem any_il (ns : List Int) (i : Int) : ((ns.map D.int).any fun z => eqv z (.int i)) = decide (i ∈ ns) := by
  induction ns with
  | nil => rfl
  | cons n ns ih =>
    rw [List.map_cons, List.any_cons, ih]
    have e : eqv (.int n) (.int i) = decide (n = i) := by
      simp only [eqv, D.py, PyData.eqv]
      by_cases h : n = i
      · subst h; rw [beq_self_eq_true, decide_eq_true rfl]
      · rw [beq_eq_false_iff_ne.mpr h, decide_eq_false h]
    rw [e]
    by_cases h : n = i
    · subst h
      simp
    · have h2 : ¬ i = n := fun z => h z.symm
      simp [h, h2]
theorem c_inT (i : Int) (ns : List Int) : cmpD .isin (.int i) (.tup (ns.map .int)) = some (decide (i ∈ ns)) := by
  simp only [cmpD, flat_il, any_il, flat, Bool.and_self, if_true]
theorem c_ninT (i : Int) (ns : List Int) : cmpD .notin (.int i) (.tup (ns.map .int)) = some (!decide (i ∈ ns)) := by
  simp only [cmpD, flat_il, any_il, flat, Bool.and_self, if_true]
theorem c_inL (i : Int) (ns : List Int) : cmpD .isin (.int i) (.lst (ns.map .int)) = some (decide (i ∈ ns)) := by
  have := dep_il ns
  have h : (D.int i).dep ≤ 60 ∧ D.deps (ns.map .int) ≤ 60 := ⟨by simp [D.dep], by omega⟩
  simp only [cmpD, any_il, h, and_self, if_true]
theorem c_ninL (i : Int) (ns : List Int) : cmpD .notin (.int i) (.lst (ns.map .int)) = some (!decide (i ∈ ns)) := by
  have := dep_il ns
  have h : (D.int i).dep ≤ 60 ∧ D.deps (ns.map .int) ≤ 60 := ⟨by simp [D.dep], by omega⟩
  simp only [cmpD, any_il, h, and_self, if_true]
section
variable {cl : Nat → List D → Option (Kd × D)} {ρ : Env}
def lstO : D → Option (List D)
  | .lst xs => some xs
  | _ => none
theorem lstO_lst (xs : List D) : lstO (.lst xs) = some xs := rfl
def forqF (cl : Nat → List D → Option (Kd × D)) (g : Tg) (c e : IE) (x : D) (ρ1 : Env) : Option Out := (setTg g x ρ1).bind fun ρ2 => (onT (evE cl c ρ2)).bind fun t => if t = true then (evE cl e ρ2).bind rtD else some (.nx ρ2)
theorem s_forq (g i c e) : evS cl (.forq g i c e) ρ = (owE ρ[i]?).bind fun o => (lstO o).bind fun xs => if (tgS g).contains i = true then none else forRun (forqF cl g c e) xs ρ := by
  simp only [evS]
  rw [ownAt_eq]
  cases owE ρ[i]? with
  | none => rfl
  | some o =>
    cases o with
    | lst xs =>
      show (if (tgS g).contains i = true then none else _) = (if (tgS g).contains i = true then none else _)
      split
      · rfl
      · congr 1
        funext x ρ1
        unfold forqF
        cases setTg g x ρ1 with
        | none => rfl
        | some ρ2 =>
          simp only [Option.bind_some]
          cases onT (evE cl c ρ2) with
          | none => rfl
          | some b =>
            cases b with
            | false => rfl
            | true =>
              simp only [Option.bind_some, if_true]
              cases evE cl e ρ2 with
              | none => rfl
              | some r => obtain ⟨k, d⟩ := r; cases k <;> rfl
    | _ => rfl
theorem f_maxd (d : Int) (ns : List Int) : biD (.maxd d) [.lst (ns.map .int)] = some (.fz, .int (maxDI d ns)) := by
  simp only [biD, intsD_map]
theorem b_mulT {xs : List D} {k : Int} (h0 : xs.length ≠ 0) (h1 : xs.length ≤ 1000) (k0 : -1000 ≤ k) (k1 : k ≤ 1000) : binD .mul (.tup xs) (.int k) = some (.fz, .tup (List.replicate k.toNat xs).flatten) := by
  simp only [binD]
  rw [if_pos ⟨⟨h0, h1⟩, k0, k1⟩]
end
theorem f_sum (ns : List Int) : biD .sum [.lst (ns.map .int)] = some (.fz, .int ns.sum) := by
  simp only [biD, intsD_map, Option.map_some]
section
variable {cl : Nat → List D → Option (Kd × D)} {ρ : Env}
theorem q_disp (t ks vs) : evE cl (.disp t ks vs) ρ = (evF cl ks ρ).bind fun ds => (evF cl vs ρ).bind fun ws => dispD t ds ws := by
  simp only [evE]
  cases evF cl ks ρ with
  | none => rfl
  | some ds => cases evF cl vs ρ <;> rfl
end
end R

open Lean.Parser.Tactic in
def evNames : Array Lean.Name := #[`q_var, `q_int, `q_bl, `q_non, `q_str, `q_glb, `q_bin, `q_cmp, `q_chain, `q_and, `q_or, `q_not, `q_neg, `q_ifx, `q_tup, `q_lst, `q_ix, `q_slc, `q_call, `q_bi, `q_mt, `q_lc, `q_dnew, `q_F0, `q_F, `q_B0, `q_B, `q_I0, `q_I, `q_O0, `q_O, `s_set, `s_setix, `s_ms, `s_frz, `s_ite, `s_for, `s_whl, `s_ret, `s_retn, `s_brk, `s_cnt, `s_pass, `s_expr, `ss_nil, `ss_cons, `seqO_nx, `seqO_rt, `seqO_bk, `seqO_ct, `finD_nx, `finD_fz, `finD_ow, `q_bcall, `flc_bl, `flc_int, `flc_non, `okc_fz, `okc_ow, `okc_non, `finD_bo', `rtD_fz, `rtD_ow, `rtD_bo, `esc_fz, `esc_ow, `lkE_fz, `lkE_ow, `owE_ow, `frzE_some, `frzE_none, `onT_kd, `Option.bind_some, `List.getElem?_cons_zero, `List.getElem?_cons_succ, `List.set_cons_zero, `List.set_cons_succ, `truD, `setR_fz, `setR_ow, `setR_tp, `setTg, `setMany, `tgS, `wipeR, `srcV, `List.length_cons, `List.length_nil, `Nat.reduceAdd, `Nat.reduceLT, `reduceCtorEq, `intO, `Bool.false_eq_true, `decide_eq_true_eq, `Bool.not_eq_true', `decide_eq_false_iff_not, `b_add, `b_sub, `b_mul1, `b_mul2, `b_mod, `b_fdiv, `m_rev, `c_eqI, `c_neI, `c_eqB, `c_lt, `c_le, `c_gt, `c_ge, `f_max, `f_min, `f_lenL, `f_lenT, `f_lenS, `f_lenX, `f_tupL, `f_tupT, `f_lstL, `f_lstT, `f_lstS, `f_intB, `f_intI, `f_isB, `k_seqL, `k_seqT, `k_seqS, `at_0, `at_1, `at_2, `at_3, `x_lst, `x_tup, `Int.reduceLT, `Int.reduceNeg, `Int.reduceLE, `List.length_map, `Bool.or_self, `Bool.not_true, `Bool.not_false, `f_isI, `f_isIB, `f_isBI, `f_isL, `f_isT, `f_isS, `c_is, `c_isnt, `isNon_non, `isNon_tup, `isNon_int, `isNon_bl, `isNon_lst, `ne_eq, `not_true_eq_false, `not_false_eq_true, `beq_self_eq_true, `if_true, `if_false, `loopO_nx, `loopO_ct, `loopO_bk, `loopO_rt, `c_inT, `c_ninT, `c_inL, `c_ninL, `s_forq, `lstO_lst]
local macro_rules
  | `(tactic| simp only [$ls,*] $[$l:location]?) => do
    let es := ls.getElems
    match es[0]? with
    | none => Lean.Macro.throwUnsupported
    | some e =>
      if e.raw.getKind == ``Lean.Parser.Tactic.simpLemma && e.raw[2].getId == `EV then
        let a ← evNames.mapM fun n => `(Lean.Parser.Tactic.simpLemma| $(Lean.mkIdent n):term)
        let b ← `(Lean.Parser.Tactic.simpLemma| ↓ $(Lean.mkIdent `reduceIte):term)
        let rest : Array (Lean.TSyntax ``Lean.Parser.Tactic.simpLemma) := (es.extract 1 es.size).map fun x => ⟨x.raw⟩
        let all := (a.push b) ++ rest
        `(tactic| simp -implicitDefEqProofs only [$all,*] $[$l]?)
      else Lean.Macro.throwUnsupported

set_option linter.all false
namespace RL
open PySem R L2
def b6 : List IS :=
  [.ite (.cmp .lt (.var 1) (.bi .len [.var 0])) [.ret (.ix (.var 0) (.var 1))] [],
  .ret (.int 0)]
def fn6 : Fn := ⟨2, 2, b6, []⟩
def b7 : List IS :=
  [.ret (.bin .mod (.bin .add (.bin .mul (.bin .mod (.var 0) (.int 1000003)) (.bin .add (.int 48271) (.bin .mul (.bin .mul (.int 15838) (.var 1)) (.var 1)))) (.bin .mul (.int 69621) (.var 1))) (.int 2147483647))]
def fn7 : Fn := ⟨2, 2, b7, []⟩
def b8 : List IS :=
  [.set (.nm 2) (.ix (.str "abcdefghijklmnopqrstuvwxyz") (.bin .mod (.bin .add (.var 0) (.bin .mul (.var 1) (.ix (.lst [.int 1, .int 3, .int 5, .int 7]) (.bin .mod (.bin .fdiv (.var 0) (.int 26)) (.int 4))))) (.int 26))),
  .set (.nm 3) (.ix (.lst [.str "", .str "a", .str "ba", .str "zzzzzzz"]) (.bin .mod (.bin .fdiv (.var 0) (.int 104)) (.int 4))),
  .set (.nm 4) (.bin .mod (.bin .fdiv (.var 0) (.int 416)) (.bin .add (.bi .len [.var 3]) (.int 1))),
  .ret (.bin .add (.bin .add (.slc (.var 3) none (some (.var 4))) (.var 2)) (.slc (.var 3) (some (.var 4)) none))]
def fn8 : Fn := ⟨2, 5, b8, []⟩
def b9 : List IS :=
  [.ret (.bin .mod (.bin .fdiv (.var 0) (.int 6)) (.ix (.lst [.int 7, .int 7, .int 40, .bin .pow (.int 10) (.int 9)]) (.bin .add (.bin .fdiv (.bin .mod (.var 0) (.int 6)) (.int 2)) (.bin .fdiv (.bin .mod (.var 0) (.int 6)) (.int 5)))))]
def fn9 : Fn := ⟨1, 1, b9, []⟩
def b10 : List IS :=
  [.set (.nm 3) (.call 7 [.var 0, .var 1]),
  .frz 3,
  .set (.nm 4) (.ix (.lst [.str "a", .str "b", .str "a", .slc (.call 8 [.bin .mul (.int 7) (.var 2), .var 3]) none (some (.int 1))]) (.bin .mod (.var 3) (.int 4))),
  .ret (.tup [.call 8 [.var 2, .var 1], .var 4, .call 9 [.bin .fdiv (.var 3) (.int 4)], .call 9 [.call 7 [.var 0, .bin .add (.var 1) (.int 20)]]])]
def fn10 : Fn := ⟨3, 5, b10, []⟩
def b11 : List IS :=
  [.set (.nm 3) (.call 7 [.var 0, .var 1]),
  .frz 3,
  .set (.nm 4) (.ix (.lst [.str "ab", .str "a", .str "bca", .str "", .str "abcdefghijklmnopqrstuvwxyz", .str "zb"]) (.bin .mod (.var 3) (.int 6))),
  .ret (.tup [.call 8 [.var 2, .var 1], .var 4, .call 9 [.bin .fdiv (.var 3) (.int 6)]])]
def fn11 : Fn := ⟨3, 5, b11, []⟩
def b12 : List IS :=
  [.set (.nm 4) (.call 7 [.var 0, .bin .add (.var 1) (.int 40)]),
  .frz 4,
  .set (.nm 5) (.lc (.var 8) (.nm 8) .rng [.var 3] [.cmp .eq (.bin .mod (.bin .fdiv (.var 4) (.ix (.lst [.int 1, .int 3, .int 9, .int 27, .int 81, .int 243, .int 729, .int 2187]) (.var 8))) (.int 3)) (.int 0)]),
  .frz 5,
  .set (.nm 6) (.bin .mod (.var 0) (.bin .add (.bi .len [.var 5]) (.int 1))),
  .set (.nm 4) (.call 7 [.var 0, .var 1]),
  .frz 4,
  .set (.nm 7) (.call 9 [.call 7 [.var 0, .bin .add (.var 1) (.int 20)]]),
  .frz 7,
  .ret (.tup [.call 8 [.var 2, .var 1], .call 9 [.var 4], .var 7, .bi .tuple [.bin .add (.slc (.var 5) (some (.var 6)) none) (.slc (.var 5) none (some (.var 6)))]])]
def fn12 : Fn := ⟨4, 9, b12, []⟩
def b13 : List IS :=
  [.set (.nm 4) (.lst []),
  .for_ (.nm 5) .rng [.bin .mul (.var 1) (.var 2)] [.set (.nm 7) (.call 7 [.var 0, .var 5]),
    .frz 7,
    .set (.nm 8) (.tup [.bin .fdiv (.var 5) (.var 2), .bin .mod (.var 5) (.var 2)]),
    .ite (.cmp .eq (.bin .mod (.bin .fdiv (.var 7) (.int 64)) (.var 3)) (.int 0)) [.ms .append 4 [.var 8]] []],
  .set (.nm 6) (.bin .mod (.var 0) (.bin .add (.bi .len [.var 4]) (.int 1))),
  .ret (.bin .add (.slc (.var 4) (some (.var 6)) none) (.slc (.var 4) none (some (.var 6))))]
def fn13 : Fn := ⟨4, 9, b13, []⟩
def b14 : List IS :=
  [.set (.nm 2) (.lc (.call 6 [.var 0, .bin .add (.var 1) (.var 9)]) (.nm 9) .rng [.int 8] []),
  .frz 2,
  .set (.nm 3) (.bin .add (.bin .mod (.ix (.var 2) (.int 1)) (.int 7)) (.bin .mul (.int 2) (.bi .int [.and (.cmp .eq (.bin .mod (.bin .fdiv (.ix (.var 2) (.int 1)) (.int 7)) (.int 8)) (.int 5)) (.cmp .eq (.bin .mod (.ix (.var 2) (.int 1)) (.int 7)) (.int 6))]))),
  .set (.nm 4) (.bi .tuple [.lc (.call 10 [.ix (.var 2) (.int 2), .var 9, .ix (.var 2) (.int 0)]) (.nm 9) .rng [.var 3] []]),
  .set (.nm 5) (.bi .tuple [.lc (.call 11 [.ix (.var 2) (.int 3), .var 9, .ix (.var 2) (.int 4)]) (.nm 9) .rng [.bin .mod (.bin .fdiv (.ix (.var 2) (.int 1)) (.int 56)) (.int 7)] []]),
  .set (.nm 6) (.lst []),
  .for_ (.tp [9, 10]) .enum [.slc (.var 0) (some (.bin .add (.var 1) (.int 8))) (some (.bin .add (.var 1) (.int 17)))] [.ms .append 6 [.call 12 [.var 10, .var 9, .ix (.var 2) (.int 5), .var 3]]],
  .set (.nm 7) (.lst []),
  .for_ (.tp [11, 12]) .seq [.call 13 [.ix (.var 2) (.int 6), .bi .len [.var 5], .var 3, .int 3]] [.ms .append 7 [.tup [.var 11, .var 12, .bin .mod (.call 7 [.ix (.var 2) (.int 6), .bin .add (.var 12) (.bin .mul (.int 9) (.var 11))]) (.bin .pow (.int 10) (.int 9))]]],
  .set (.nm 8) (.bi .tuple [.call 13 [.ix (.var 2) (.int 7), .var 3, .bi .len [.var 5], .int 2]]),
  .ret (.tup [.var 4, .var 5, .bi .tuple [.var 6], .bi .tuple [.var 7], .var 8])]
def fn14 : Fn := ⟨2, 13, b14, []⟩
def b52 : List IS :=
  [.set (.nm 2) (.lst []),
  .for_ (.nm 3) .rng [.bi .len [.ix (.var 0) (.int 0)]] [.set (.nm 4) (.call 7 [.var 1, .var 3]),
    .frz 4,
    .set (.nm 5) (.lc (.var 6) (.nm 6) .rng [.bi .len [.ix (.var 0) (.int 1)]] [.cmp .isin (.ix (.ix (.ix (.var 0) (.int 0)) (.var 3)) (.int 1)) (.ix (.ix (.ix (.var 0) (.int 1)) (.var 6)) (.int 1))]),
    .frz 5,
    .ite (.or (.cmp .eq (.bin .mod (.var 4) (.int 9)) (.int 4)) (.cmp .eq (.ix (.var 0) (.int 1)) (.tup []))) [.ms .append 2 [.non]] [.ite (.or (.cmp .eq (.bin .mod (.var 4) (.int 9)) (.int 5)) (.cmp .eq (.var 5) (.lst []))) [.ms .append 2 [.bin .mod (.bin .fdiv (.var 4) (.int 9)) (.bi .len [.ix (.var 0) (.int 1)])]] [.ms .append 2 [.ix (.var 5) (.bin .mod (.bin .fdiv (.var 4) (.int 9)) (.bi .len [.var 5]))]]]],
  .ret (.var 2)]
def fn52 : Fn := ⟨2, 7, b52, []⟩
def b54 : List IS :=
  [.set (.nm 3) (.lst []),
  .for_ (.tp [4, 5]) .enum [.ix (.var 0) (.int 2)] [.for_ (.nm 6) .seq [.ix (.var 5) (.int 3)] [.ite (.cmp .eq (.ix (.var 1) (.var 6)) (.var 2)) [.ms .append 3 [.tup [.var 4, .var 6]]] []]],
  .ret (.var 3)]
def fn54 : Fn := ⟨3, 7, b54, []⟩
def b55 : List IS :=
  [.set (.nm 1) (.call 14 [.var 0, .int 1]),
  .frz 1,
  .set (.nm 2) (.call 52 [.var 1, .call 6 [.var 0, .int 0]]),
  .frz 2,
  .set (.nm 3) (.lst []),
  .frz 3,
  .for_ (.nm 4) .rng [.bi .len [.ix (.var 1) (.int 1)]] [.set (.nm 7) (.call 54 [.var 1, .var 2, .var 4]),
    .ite (.not (.bi .isList [.var 7])) [.ret (.bl false)] [],
    .set (.nm 8) (.lst []),
    .frz 8,
    .for_ (.nm 9) .rng [.bi .len [.ix (.var 1) (.int 2)]] [.set (.nm 8) (.bin .add (.var 8) (.lc (.tup [.var 9, .var 10]) (.nm 10) .seq [.ix (.ix (.ix (.var 1) (.int 2)) (.var 9)) (.int 3)] [.cmp .eq (.ix (.var 2) (.var 10)) (.var 4)])),
      .frz 8],
    .ite (.or (.cmp .ne (.var 7) (.var 8)) (.cmp .ne (.lc (.var 11) (.nm 11) .seq [.var 7] [.not (.bi .isTuple [.var 11])]) (.lst []))) [.ret (.bl false)] [],
    .set (.nm 3) (.bin .add (.var 3) (.var 7)),
    .frz 3,
    .ms .append 7 [.non],
    .ite (.cmp .ne (.call 54 [.var 1, .var 2, .var 4]) (.var 8)) [.ret (.bl false)] []],
  .set (.nm 5) (.int 0),
  .for_ (.nm 6) .seq [.ix (.var 1) (.int 2)] [.set (.nm 5) (.bin .add (.var 5) (.bi .len [.lc (.var 10) (.nm 10) .seq [.ix (.var 6) (.int 3)] [.cmp .isnt (.ix (.var 2) (.var 10)) (.non)]]))],
  .ret (.and (.cmp .eq (.bi .len [.var 3]) (.var 5)) (.cmp .eq (.bi .lenset [.var 3]) (.var 5)))]
def fn55 : Fn := ⟨1, 12, b55, []⟩
end RL

set_option linter.all false
set_option maxHeartbeats 4000000
namespace RL
open PySem R L2
theorem r_cell (cl) (ns : List Int) (k : Nat) : R.run cl fn6 [.scr ns, .int k] = fi (ns.getD k 0) := by
  refine run_to rfl ?_
  show finD (evSs cl b6 [fd (.scr ns), fi k]) = _
  simp only [EV, b6]
  by_cases h : (k : Int) < ns.length
  · have h' : k < ns.length := by omega
    simp only [EV, if_pos h, ixD, atI_nat (List.getElem?_eq_getElem h'), Option.map_some]
    rw [List.getD_eq_getElem?_getD, List.getElem?_eq_getElem h']
    rfl
  · simp only [EV, if_neg h]
    rw [List.getD_eq_getElem?_getD, List.getElem?_eq_none (by omega)]
    rfl
def at0 (gs : List Int) (i : Int) : Int := gs.getD i.toNat 0
theorem ix_il {gs : List Int} {i : Int} (h0 : 0 ≤ i) (h1 : i < gs.length) : atI (gs.map D.int) i = some (.int (at0 gs i)) := by
  simp only [atI_map, atI_getD 0 h0 h1]
  rfl
theorem at0_mem {gs : List Int} {i : Int} (h0 : 0 ≤ i) (h1 : i < gs.length) : at0 gs i ∈ gs := by
  unfold at0
  have h : i.toNat < gs.length := by omega
  rw [List.getD_eq_getElem?_getD, List.getElem?_eq_getElem h]
  exact List.getElem_mem h
theorem cut_map {α β : Type} (f : α → β) (xs : List α) (lo hi : Option Int) : cut (xs.map f) lo hi = (cut xs lo hi).map f := by
  unfold cut
  rw [List.length_map, List.map_take, List.map_drop]
theorem mem_cut {α : Type} {xs : List α} {lo hi : Option Int} {x : α} (h : x ∈ cut xs lo hi) : x ∈ xs := by
  unfold cut at h
  exact List.mem_of_mem_drop (List.mem_of_mem_take h)
theorem len_cut {α : Type} (xs : List α) (lo hi : Option Int) : (cut xs lo hi).length ≤ xs.length := by
  unfold cut
  rw [List.length_take, List.length_drop]
  omega
theorem b_addS {x y : Str} (h : x.length + y.length ≤ 1000000) : binD .add (.str x) (.str y) = some (.fz, .str (x ++ y)) := by
  simp only [binD]
  rw [if_pos (le_lineR h)]
theorem x_str {x : Str} {i : Int} (h0 : 0 ≤ i) (h1 : i < x.cps.toList.length) : ∃ c, ixD (.str x) (.int i) = some (.str ⟨#[c]⟩) := by
  have h : i.toNat < x.cps.toList.length := by omega
  refine ⟨x.cps.toList[i.toNat], ?_⟩
  simp only [ixD]
  rw [atI_in h0 h1, List.getElem?_eq_getElem h]
  rfl
theorem get_enum {cs : List Int} {i : Nat} {x : D} (h : ((cs.map D.int).zipIdx.map fun p => D.tup [.int (p.2 : Nat), p.1])[i]? = some x) : ∃ c, cs[i]? = some c ∧ x = .tup [.int i, .int c] := by
  obtain ⟨p, hp, rfl⟩ := get_map h
  rw [List.getElem?_zipIdx, List.getElem?_map] at hp
  cases e : cs[i]? with
  | none => rw [e] at hp; cases hp
  | some c =>
    rw [e] at hp
    cases hp
    refine ⟨c, rfl, ?_⟩
    simp
def mins (n : Int) : Int := at0 [0, n / 5 % 7, n / 5 % 31, n / 5 % 400, n * n % 1000000000] (n % 5)
structure Part where
  nm : Str
  vc : Str
  off : Int
  on : Int
def partD (p : Part) : D := .tup [.str p.nm, .str p.vc, .int p.off, .int p.on]
structure Scn where
  nm : Str
  mins : Int
  aft : Int
  ns : List Int
def scnD (s : Scn) : D := .tup [.str s.nm, .int s.mins, .int s.aft, .tup (s.ns.map .int)]
def SOk (many : Int) (s : Scn) : Prop := (∀ x ∈ s.ns, 0 ≤ x ∧ x < many) ∧ 0 ≤ s.mins ∧ 0 ≤ s.aft
end RL

set_option linter.all false
set_option maxHeartbeats 4000000
namespace RL
open PySem R L2
def bookG (rx : D × D × D) (ps : List Part) (ss : List Scn) : D := .tup [.tup (ps.map partD), rx.1, .tup (ss.map scnD), rx.2.1, rx.2.2]
variable {rx : D × D × D}
def S0 : Scn := ⟨"", 0, 0, []⟩
def sc (ss : List Scn) (i : Nat) : Scn := ss.getD i S0
theorem sc_at {ss : List Scn} {i : Nat} (h : i < ss.length) : ss[i]? = some (sc ss i) := by
  unfold sc
  rw [List.getD_eq_getElem?_getD, List.getElem?_eq_getElem h]
  rfl
theorem at_scn {ss : List Scn} {i : Nat} (h : i < ss.length) : atI (ss.map scnD) (i : Int) = some (scnD (sc ss i)) := by
  rw [atI_map, atI_nat (sc_at h)]
  rfl
def tbN (ss : List Scn) (s : Nat) : Nat → Int
  | 0 => (sc ss s).aft
  | n + 1 => tbN ss s n + (sc ss (s + n + 1)).mins + (sc ss (s + n + 1)).aft
end RL

set_option linter.all false
set_option maxHeartbeats 4000000
namespace RL
open PySem R L2
variable {rx : D × D × D}
def P0 : Part := ⟨"", "", 0, 0⟩
def pt (ps : List Part) (i : Int) : Part := ps.getD i.toNat P0
theorem at_part {ps : List Part} {i : Int} (h0 : 0 ≤ i) (h : i < ps.length) : atI (ps.map partD) i = some (partD (pt ps i)) := by
  rw [atI_map, atI_getD P0 h0 h]
  rfl
def scI (ss : List Scn) (i : Int) : Scn := sc ss i.toNat
def tb (ss : List Scn) (s t : Int) : Int := tbN ss s.toNat (t.toNat - s.toNat - 1)
def need (ps : List Part) (i j : Int) : Int := (pt ps i).off + (pt ps j).on
def shorter (ps : List Part) (ss : List Scn) (s t i j : Int) : Prop := i ∈ (scI ss s).ns ∧ j ∈ (scI ss t).ns ∧ tb ss s t < need ps i j
instance (ps ss s t i j) : Decidable (shorter ps ss s t i j) := by unfold shorter; infer_instance
end RL

set_option linter.all false
set_option maxHeartbeats 4000000
namespace RL
open PySem R L2
variable {rx : D × D × D}
theorem rangeL_lt (a b : Int) : (rangeL a b).Pairwise (· < ·) := by
  unfold rangeL
  rw [List.pairwise_map]
  exact List.pairwise_lt_range.imp fun h => by omega
end RL


set_option linter.all false
set_option maxHeartbeats 4000000
namespace RL
open PySem R L2
def mixB (c k : Int) : Int := (c % 1000003 * (48271 + 15838 * k * k) + 69621 * k) % 2147483647
theorem mixB_lo (c k : Int) : 0 ≤ mixB c k := by unfold mixB; omega
theorem mixB_hi (c k : Int) : mixB c k < 2147483647 := by unfold mixB; omega
theorem r_mixB (cl) (c k : Int) (h0 : -100000 ≤ k) (h1 : k ≤ 100000) : R.run cl fn7 [.int c, .int k] = fi (mixB c k) := by
  refine run_to rfl ?_
  show finD (evSs cl b7 [fi c, fi k]) = _
  have e : binD .mul (.int (15838 * k)) (.int k) = fi (15838 * k * k) := b_mul1 (by omega) (by omega)
  have e2 : binD .mul (.int (c % 1000003)) (.int (48271 + 15838 * k * k)) = fi (c % 1000003 * (48271 + 15838 * k * k)) := b_mul2 (by omega) (by omega)
  simp only [EV, b7, e, e2]
  rfl
theorem len_one (c : Nat) : (⟨#[c]⟩ : Str).length = 1 := rfl
theorem cut_str_len {x : Str} {lo hi : Option Int} : (⟨(cut x.cps.toList lo hi).toArray⟩ : Str).length ≤ x.length := by
  show (cut x.cps.toList lo hi).toArray.size ≤ x.cps.size
  rw [List.size_toArray]
  exact len_cut _ _ _
theorem add_len (x y : Str) : (x ++ y).length = x.length + y.length := by
  show (x.cps ++ y.cps).size = _
  rw [Array.size_append]
  rfl
theorem sl_str' (x : Str) (lo hi : Option Int) : slcD (.str x) lo hi = some (.fz, .str ⟨(cut x.cps.toList lo hi).toArray⟩) := by simp only [slcD]
theorem r_name (cl) (c k : Int) (h0 : -100000000000 ≤ k) (h1 : k ≤ 100000000000) : ∃ x : Str, R.run cl fn8 [.int c, .int k] = fd (.str x) ∧ 1 ≤ x.length ∧ x.length ≤ 20 ∧ x.length ≠ 6 := by
  have q : atI [D.int 1, .int 3, .int 5, .int 7] (c / 26 % 4) = some (.int (at0 [1, 3, 5, 7] (c / 26 % 4))) := ix_il (gs := [1, 3, 5, 7]) (by omega) (by simp only [List.length_cons, List.length_nil]; omega)
  obtain ⟨l, hl⟩ := x_str (x := "abcdefghijklmnopqrstuvwxyz") (i := (c + k * at0 [1, 3, 5, 7] (c / 26 % 4)) % 26) (by omega) (by show _ < (26 : Int); omega)
  have tl : ∃ t : Str, atI [D.str "", .str "a", .str "ba", .str "zzzzzzz"] (c / 104 % 4) = some (.str t) ∧ t.length ≤ 7 ∧ t.length ≠ 5 := by
    have : c / 104 % 4 = 0 ∨ c / 104 % 4 = 1 ∨ c / 104 % 4 = 2 ∨ c / 104 % 4 = 3 := by omega
    rcases this with e | e | e | e <;> rw [e]
    · exact ⟨_, at_0 _ _, by decide⟩
    · exact ⟨_, at_1 _ _ _, by decide⟩
    · exact ⟨_, at_2 _ _ _ _, by decide⟩
    · exact ⟨_, at_3 _ _ _ _ _, by decide⟩
  obtain ⟨t, ht, hz⟩ := tl
  have hm : (0 : Int) < (t.length : Int) + 1 := by omega
  have ex : (⟨(cut t.cps.toList none (some (c / 416 % ((t.length : Int) + 1)))).toArray⟩ : Str).length + (⟨(cut t.cps.toList (some (c / 416 % ((t.length : Int) + 1))) none).toArray⟩ : Str).length = t.length := by
    obtain ⟨m, em⟩ : ∃ m : Nat, c / 416 % ((t.length : Int) + 1) = m := ⟨(c / 416 % ((t.length : Int) + 1)).toNat, by have := Int.emod_nonneg (c / 416) (show (t.length : Int) + 1 ≠ 0 by omega); omega⟩
    have lt := Int.emod_lt_of_pos (c / 416) hm
    have tl : t.cps.toList.length = t.length := rfl
    rw [em] at lt ⊢
    show (cut t.cps.toList none (some (m : Int))).toArray.size + (cut t.cps.toList (some (m : Int)) none).toArray.size = t.length
    rw [List.size_toArray, List.size_toArray, R.cut_to, cut_from, List.length_take, List.length_drop]
    omega
  have mk : binD .mul (.int k) (.int (at0 [1, 3, 5, 7] (c / 26 % 4))) = fi (k * at0 [1, 3, 5, 7] (c / 26 % 4)) := b_mul2 (by omega) (by omega)
  have l1 := cut_str_len (x := t) (lo := none) (hi := some (c / 416 % ((t.length : Int) + 1)))
  have l2 := cut_str_len (x := t) (lo := some (c / 416 % ((t.length : Int) + 1))) (hi := none)
  have a1 := b_addS (x := ⟨(cut t.cps.toList none (some (c / 416 % ((t.length : Int) + 1)))).toArray⟩) (y := ⟨#[l]⟩) (by rw [len_one]; omega)
  have a2 := b_addS (x := ⟨(cut t.cps.toList none (some (c / 416 % ((t.length : Int) + 1)))).toArray⟩ ++ ⟨#[l]⟩) (y := ⟨(cut t.cps.toList (some (c / 416 % ((t.length : Int) + 1))) none).toArray⟩) (by rw [add_len, len_one]; omega)
  refine ⟨⟨(cut t.cps.toList none (some (c / 416 % ((t.length : Int) + 1)))).toArray⟩ ++ ⟨#[l]⟩ ++ ⟨(cut t.cps.toList (some (c / 416 % ((t.length : Int) + 1))) none).toArray⟩, run_to rfl ?_, ?_, ?_, ?_⟩
  · show finD (evSs cl b8 [fi c, fi k, none, none, none]) = _
    simp only [EV, b8, q, mk, hl, ht, b_mod hm, sl_str', a1, a2]
  · rw [add_len, add_len, len_one]
    omega
  · rw [add_len, add_len, len_one]
    omega
  · rw [add_len, add_len, len_one]
    omega
def minB (n : Int) : Int := n / 6 % at0 [7, 7, 40, 1000000000] (n % 6 / 2 + n % 6 / 5)
theorem minB_w (n : Int) : 0 < at0 [7, 7, 40, 1000000000] (n % 6 / 2 + n % 6 / 5) := by
  have h : ∀ x ∈ [7, 7, 40, 1000000000], (0 : Int) < x := by decide
  exact h _ (at0_mem (by omega) (by simp only [List.length_cons, List.length_nil]; omega))
theorem minB_pos (n : Int) : 0 ≤ minB n := Int.emod_nonneg _ (by have := minB_w n; omega)
theorem r_minB (cl) (n : Int) : R.run cl fn9 [.int n] = fi (minB n) := by
  refine run_to rfl ?_
  show finD (evSs cl b9 [fi n]) = _
  have p : binD .pow (.int 10) (.int 9) = fi 1000000000 := rfl
  have q : atI [D.int 7, .int 7, .int 40, .int 1000000000] (n % 6 / 2 + n % 6 / 5) = some (.int (at0 [7, 7, 40, 1000000000] (n % 6 / 2 + n % 6 / 5))) :=
    ix_il (gs := [7, 7, 40, 1000000000]) (by omega) (by simp only [List.length_cons, List.length_nil]; omega)
  simp only [EV, b9, p, q, b_mod (minB_w n)]
  rfl
def POk (p : Part) : Prop := p.vc.length = 1 ∧ 0 ≤ p.off ∧ 0 ≤ p.on
theorem r_part (cl) (c k base : Int) (k0 : 0 ≤ k) (k1 : k ≤ 1000) (c7 : ∀ c k, -100000 ≤ k → k ≤ 100000 → cl 7 [.int c, .int k] = fi (mixB c k)) (c8 : ∀ c k, -100000000000 ≤ k → k ≤ 100000000000 → ∃ x : Str, cl 8 [.int c, .int k] = fd (.str x) ∧ 1 ≤ x.length ∧ x.length ≤ 20 ∧ x.length ≠ 6) (c9 : ∀ n, cl 9 [.int n] = fi (minB n)) :
    ∃ p : Part, R.run cl fn10 [.int c, .int k, .int base] = fd (partD p) ∧ POk p := by
  have m0 := mixB_lo c k
  have m1 := mixB_hi c k
  obtain ⟨x, hx, x1, x2⟩ := c8 (7 * base) (mixB c k) (by omega) (by omega)
  obtain ⟨y, hy, y1, y2⟩ := c8 base k (by omega) (by omega)
  have vl : (⟨(cut x.cps.toList none (some 1)).toArray⟩ : Str).length = 1 := by
    show (cut x.cps.toList none (some ((1 : Nat) : Int))).toArray.size = 1
    rw [cut_to, List.size_toArray, List.length_take]
    have : x.cps.toList.length = x.length := rfl
    omega
  have vt : ∃ v : Str, atI [D.str "a", .str "b", .str "a", .str ⟨(cut x.cps.toList none (some 1)).toArray⟩] (mixB c k % 4) = some (.str v) ∧ v.length = 1 := by
    have : mixB c k % 4 = 0 ∨ mixB c k % 4 = 1 ∨ mixB c k % 4 = 2 ∨ mixB c k % 4 = 3 := by omega
    rcases this with e | e | e | e <;> rw [e]
    · exact ⟨_, at_0 _ _, by decide⟩
    · exact ⟨_, at_1 _ _ _, by decide⟩
    · exact ⟨_, at_2 _ _ _ _, by decide⟩
    · exact ⟨_, at_3 _ _ _ _ _, vl⟩
  obtain ⟨v, hv, vz⟩ := vt
  refine ⟨⟨y, v, minB (mixB c k / 4), minB (mixB c (k + 20))⟩, run_to rfl ?_, vz, minB_pos _, minB_pos _⟩
  show finD (evSs cl b10 [fi c, fi k, fi base, none, none]) = _
  simp only [EV, b10, c7 c k (by omega) (by omega), c7 c (k + 20) (by omega) (by omega), hx, hy, sl_str', hv, c9]
  rfl
structure Ply where
  nm : Str
  vs : Str
  tm : Int
def plyD (p : Ply) : D := .tup [.str p.nm, .str p.vs, .int p.tm]
theorem r_player (cl) (c k base : Int) (k0 : 0 ≤ k) (k1 : k ≤ 1000) (c7 : ∀ c k, -100000 ≤ k → k ≤ 100000 → cl 7 [.int c, .int k] = fi (mixB c k)) (c8 : ∀ c k, -100000000000 ≤ k → k ≤ 100000000000 → ∃ x : Str, cl 8 [.int c, .int k] = fd (.str x) ∧ 1 ≤ x.length ∧ x.length ≤ 20 ∧ x.length ≠ 6) (c9 : ∀ n, cl 9 [.int n] = fi (minB n)) :
    ∃ p : Ply, R.run cl fn11 [.int c, .int k, .int base] = fd (plyD p) ∧ 0 ≤ p.tm := by
  obtain ⟨y, hy, y1, y2⟩ := c8 base k (by omega) (by omega)
  have vt : ∃ v : Str, atI [D.str "ab", .str "a", .str "bca", .str "", .str "abcdefghijklmnopqrstuvwxyz", .str "zb"] (mixB c k % 6) = some (.str v) := by
    have h : (mixB c k % 6).toNat < ([("ab" : Str), "a", "bca", "", "abcdefghijklmnopqrstuvwxyz", "zb"]).length := by
      simp only [List.length_cons, List.length_nil]
      omega
    refine ⟨[("ab" : Str), "a", "bca", "", "abcdefghijklmnopqrstuvwxyz", "zb"][(mixB c k % 6).toNat], ?_⟩
    have e : [D.str "ab", .str "a", .str "bca", .str "", .str "abcdefghijklmnopqrstuvwxyz", .str "zb"] = [("ab" : Str), "a", "bca", "", "abcdefghijklmnopqrstuvwxyz", "zb"].map D.str := rfl
    rw [e, atI_map, atI_in (by omega) (by omega), List.getElem?_eq_getElem h]
    rfl
  obtain ⟨v, hv⟩ := vt
  refine ⟨⟨y, v, minB (mixB c k / 6)⟩, run_to rfl ?_, minB_pos _⟩
  show finD (evSs cl b11 [fi c, fi k, fi base, none, none]) = _
  simp only [EV, b11, c7 c k (by omega) (by omega), hy, hv, c9]
  rfl
abbrev pow3 : List Int := [1, 3, 9, 27, 81, 243, 729, 2187]
theorem pow3_pos {k : Int} (h0 : 0 ≤ k) (h1 : k < 8) : 0 < at0 pow3 k ∧ at0 pow3 k < 1073741824 := by
  have h : ∀ x ∈ pow3, (0 : Int) < x ∧ x < 1073741824 := by decide
  exact h _ (at0_mem h0 (by show k < 8; omega))
theorem minB_hi (n : Int) : minB n < 1000000000 := by
  have h : ∀ x ∈ [7, 7, 40, 1000000000], (x : Int) ≤ 1000000000 := by decide
  have h2 := h _ (at0_mem (gs := [7, 7, 40, 1000000000]) (i := n % 6 / 2 + n % 6 / 5) (by omega) (by simp only [List.length_cons, List.length_nil]; omega))
  have := Int.emod_lt_of_pos (n / 6) (minB_w n)
  unfold minB
  omega
def Hi (s : Scn) : Prop := s.mins < 1000000000 ∧ s.aft < 1000000000
def SOk2 (many : Int) (s : Scn) : Prop := SOk many s ∧ s.ns.length ≤ 8 ∧ s.ns.Nodup ∧ s.nm.length ≠ 6 ∧ Hi s
theorem r_scene (cl) (c k base many : Int) (k0 : 0 ≤ k) (k1 : k ≤ 1000) (h0 : 0 ≤ many) (h1 : many ≤ 8) (c7 : ∀ c k, -100000 ≤ k → k ≤ 100000 → cl 7 [.int c, .int k] = fi (mixB c k)) (c8 : ∀ c k, -100000000000 ≤ k → k ≤ 100000000000 → ∃ x : Str, cl 8 [.int c, .int k] = fd (.str x) ∧ 1 ≤ x.length ∧ x.length ≤ 20 ∧ x.length ≠ 6) (c9 : ∀ n, cl 9 [.int n] = fi (minB n)) :
    ∃ s : Scn, R.run cl fn12 [.int c, .int k, .int base, .int many] = fd (scnD s) ∧ SOk2 many s := by
  obtain ⟨y, hy, y1, y2⟩ := c8 base k (by omega) (by omega)
  have M := lcRun_filter D.int (F := lcF cl [fi c, fi k, fi base, fi many, fi (mixB c (k + 40)), none, none, none, none] (.var 8) (.nm 8) [.cmp .eq (.bin .mod (.bin .fdiv (.var 4) (.ix (.lst [.int 1, .int 3, .int 9, .int 27, .int 81, .int 243, .int 729, .int 2187]) (.var 8))) (.int 3)) (.int 0)]) D.int (fun j => decide (mixB c (k + 40) / at0 pow3 j % 3 = 0)) (rangeL 0 many) (by
    intro j hj
    rw [mem_rangeL] at hj
    have hp := pow3_pos hj.1 (by omega)
    have q : atI [D.int 1, .int 3, .int 9, .int 27, .int 81, .int 243, .int 729, .int 2187] j = some (.int (at0 pow3 j)) := ix_il (gs := pow3) hj.1 (by show j < 8; omega)
    simp only [EV, lcF, q, b_fdiv hp.1 hp.2]
    split <;> rfl)
  have sub : ∀ x ∈ (rangeL 0 many).filter (fun j => decide (mixB c (k + 40) / at0 pow3 j % 3 = 0)), 0 ≤ x ∧ x < many := fun x hx => mem_rangeL.mp (List.mem_filter.mp hx).1
  have sz : ((rangeL 0 many).filter (fun j => decide (mixB c (k + 40) / at0 pow3 j % 3 = 0))).length ≤ 8 := by
    have := List.length_filter_le (fun j => decide (mixB c (k + 40) / at0 pow3 j % 3 = 0)) (rangeL 0 many)
    rw [len_rangeL] at this
    omega
  have nd : ((rangeL 0 many).filter (fun j => decide (mixB c (k + 40) / at0 pow3 j % 3 = 0))).Nodup := List.Pairwise.imp (fun h => Int.ne_of_lt h) (List.Pairwise.filter _ (rangeL_lt 0 many))
  generalize (rangeL 0 many).filter (fun j => decide (mixB c (k + 40) / at0 pow3 j % 3 = 0)) = ns at M sub sz nd
  have hm : (0 : Int) < (ns.length : Int) + 1 := by omega
  have cc : binD .add (.lst ((cut ns (some (c % ((ns.length : Int) + 1))) none).map .int)) (.lst ((cut ns none (some (c % ((ns.length : Int) + 1)))).map .int)) = some (.ow, .lst ((cut ns (some (c % ((ns.length : Int) + 1))) none ++ cut ns none (some (c % ((ns.length : Int) + 1)))).map .int)) := by
    have l1 := len_cut ns (some (c % ((ns.length : Int) + 1))) none
    have l2 := len_cut ns none (some (c % ((ns.length : Int) + 1)))
    rw [b_cat (by rw [List.length_map, List.length_map]; omega), List.map_append]
  refine ⟨⟨y, minB (mixB c k), minB (mixB c (k + 20)), cut ns (some (c % ((ns.length : Int) + 1))) none ++ cut ns none (some (c % ((ns.length : Int) + 1)))⟩, run_to rfl ?_, ⟨fun x hx => ?_, minB_pos _, minB_pos _⟩, ?_, ?_, y2.2, minB_hi _, minB_hi _⟩
  · show finD (evSs cl b12 [fi c, fi k, fi base, fi many, none, none, none, none, none]) = _
    simp only [EV, b12, c7 c k (by omega) (by omega), c7 c (k + 20) (by omega) (by omega), c7 c (k + 40) (by omega) (by omega), hy, c9, k_rng1 (show -100000 ≤ many by omega) (by omega), M, b_mod hm, slcD, cut_map, cc]
    rfl
  · rw [List.mem_append] at hx
    rcases hx with hx | hx
    · exact sub x (mem_cut hx)
    · exact sub x (mem_cut hx)
  · obtain ⟨m, em⟩ : ∃ m : Nat, c % ((ns.length : Int) + 1) = m := ⟨(c % ((ns.length : Int) + 1)).toNat, by have := Int.emod_nonneg c (show (ns.length : Int) + 1 ≠ 0 by omega); omega⟩
    show (cut ns (some (c % ((ns.length : Int) + 1))) none ++ cut ns none (some (c % ((ns.length : Int) + 1)))).length ≤ 8
    rw [em, cut_from, cut_to, List.length_append, List.length_drop, List.length_take]
    omega
  · obtain ⟨m, em⟩ : ∃ m : Nat, c % ((ns.length : Int) + 1) = m := ⟨(c % ((ns.length : Int) + 1)).toNat, by have := Int.emod_nonneg c (show (ns.length : Int) + 1 ≠ 0 by omega); omega⟩
    show (cut ns (some (c % ((ns.length : Int) + 1))) none ++ cut ns none (some (c % ((ns.length : Int) + 1)))).Nodup
    rw [em, cut_from, cut_to]
    have p : (ns.drop (min m ns.length) ++ ns.take (min m ns.length)).Perm ns := List.perm_append_comm.trans (by rw [List.take_append_drop])
    exact p.nodup_iff.mpr nd
theorem r_draw (cl) (c one other share : Int) (o0 : 0 ≤ one) (o1 : one ≤ 20) (p0 : 0 ≤ other) (p1 : other ≤ 20) (s0 : 0 < share) (c7 : ∀ c k, -100000 ≤ k → k ≤ 100000 → cl 7 [.int c, .int k] = fi (mixB c k)) :
    ∃ qs : List (Int × Int), R.run cl fn13 [.int c, .int one, .int other, .int share] = some (.ow, .lst (qs.map pD)) ∧ qs.length ≤ 1000 ∧ ∀ q ∈ qs, (0 ≤ q.1 ∧ q.1 < one) ∧ (0 ≤ q.2 ∧ q.2 < other) := by
  have n0 : 0 ≤ one * other := Int.mul_nonneg o0 p0
  have n1 : one * other ≤ 400 := by
    have := Int.mul_le_mul o1 p1 p0 (by decide : (0 : Int) ≤ 20)
    omega
  have L := forRun_J (F := forF cl (.nm 5) [.set (.nm 7) (.call 7 [.var 0, .var 5]),
    .frz 7,
    .set (.nm 8) (.tup [.bin .fdiv (.var 5) (.var 2), .bin .mod (.var 5) (.var 2)]),
    .ite (.cmp .eq (.bin .mod (.bin .fdiv (.var 7) (.int 64)) (.var 3)) (.int 0)) [.ms .append 4 [.var 8]] []]) ((rangeL 0 (one * other)).map .int)
    (fun n ρ => ∃ (qs : List (Int × Int)) (j5 j7 j8 : Option (Kd × D)), ρ = [fi c, fi one, fi other, fi share, ow (.lst (qs.map pD)), j5, none, j7, j8] ∧ qs.length ≤ n ∧ ∀ q ∈ qs, (0 ≤ q.1 ∧ q.1 < one) ∧ (0 ≤ q.2 ∧ q.2 < other))
    [fi c, fi one, fi other, fi share, ow (.lst []), none, none, none, none] ⟨[], _, _, _, rfl, Nat.zero_le _, (fun q m => nomatch m)⟩ (by
    rintro n x ρ hx ⟨qs, j5, j7, j8, rfl, hl, hq⟩
    obtain ⟨k, hk, rfl⟩ := get_map_int hx
    obtain ⟨ek, k0, k1⟩ := get_range hk
    have po : 0 < other := by
      rcases Int.lt_or_le 0 other with h | h
      · exact h
      · have : other = 0 := by omega
        rw [this, Int.mul_zero] at k1
        omega
    have q1 : k / other < one := by
      apply Int.ediv_lt_of_lt_mul po
      exact k1
    have q2 : 0 ≤ k / other := Int.ediv_nonneg k0 p0
    have q3 := Int.emod_nonneg k (show other ≠ 0 by omega)
    have q4 := Int.emod_lt_of_pos k po
    have hz : (qs.map pD).length ≤ 1000000 := by rw [List.length_map]; omega
    by_cases h : mixB c k / 64 % share = 0
    · simp only [EV, forF, c7 c k (by omega) (by omega), b_fdiv po (show other < 1073741824 by omega), b_mod po, b_mod s0, if_pos h, m_app hz]
      refine ⟨_, .inl rfl, qs ++ [(k / other, k % other)], _, _, _, by rw [List.map_append]; rfl, ?_, fun q m => ?_⟩
      · rw [List.length_append]
        simp only [List.length_cons, List.length_nil]
        omega
      · rw [List.mem_append, List.mem_singleton] at m
        rcases m with m | rfl
        · exact hq q m
        · exact ⟨⟨q2, q1⟩, q3, q4⟩
    · simp only [EV, forF, c7 c k (by omega) (by omega), b_fdiv po (show other < 1073741824 by omega), b_mod po, b_mod s0, if_neg h]
      exact ⟨_, .inl rfl, qs, _, _, _, rfl, by omega, hq⟩)
  obtain ⟨ρ, e, qs, j5, j7, j8, rfl, hl, hq⟩ := L
  rw [List.length_map, len_rangeL] at hl
  have hm : (0 : Int) < (qs.length : Int) + 1 := by omega
  have om : binD .mul (.int one) (.int other) = fi (one * other) := b_mul1 (by omega) (by omega)
  have cc : binD .add (.lst ((cut qs (some (c % ((qs.length : Int) + 1))) none).map pD)) (.lst ((cut qs none (some (c % ((qs.length : Int) + 1)))).map pD)) = some (.ow, .lst ((cut qs (some (c % ((qs.length : Int) + 1))) none ++ cut qs none (some (c % ((qs.length : Int) + 1)))).map pD)) := by
    have l1 := len_cut qs (some (c % ((qs.length : Int) + 1))) none
    have l2 := len_cut qs none (some (c % ((qs.length : Int) + 1)))
    rw [b_cat (by rw [List.length_map, List.length_map]; omega), List.map_append]
  refine ⟨cut qs (some (c % ((qs.length : Int) + 1))) none ++ cut qs none (some (c % ((qs.length : Int) + 1))), run_to rfl ?_, ?_, fun q m => ?_⟩
  · show finD (evSs cl b13 [fi c, fi one, fi other, fi share, none, none, none, none, none]) = _
    simp only [EV, b13, om, k_rng1 (show -100000 ≤ one * other by omega) (by omega), e, b_mod hm, slcD, cut_map, cc]
  · have l1 := len_cut qs (some (c % ((qs.length : Int) + 1))) none
    have l2 := len_cut qs none (some (c % ((qs.length : Int) + 1)))
    rw [List.length_append]
    omega
  · rw [List.mem_append] at m
    rcases m with m | m
    · exact hq q (mem_cut m)
    · exact hq q (mem_cut m)
end RL

set_option linter.all false
set_option maxHeartbeats 4000000
namespace RL
open PySem R L2
theorem lcRun_ex {α β : Type} (g : α → D) (f : β → D) (P : β → Prop) {F : D → Option (Option D)} : ∀ xs : List α, (∀ a ∈ xs, ∃ v, F (g a) = some (some (f v)) ∧ P v) → ∃ vs : List β, lcRun F (xs.map g) = some (vs.map f) ∧ vs.length = xs.length ∧ ∀ v ∈ vs, P v
  | [], _ => ⟨[], rfl, rfl, fun v m => nomatch m⟩
  | x :: xs, h => by
    obtain ⟨v, e, p⟩ := h x List.mem_cons_self
    obtain ⟨vs, e2, l2, p2⟩ := lcRun_ex g f P xs fun a m => h a (List.mem_cons_of_mem _ m)
    refine ⟨v :: vs, ?_, by rw [List.length_cons, List.length_cons, l2], fun w m => ?_⟩
    · rw [List.map_cons, lcRun, e]
      simp only [e2]
      rfl
    · rcases List.mem_cons.mp m with rfl | m
      · exact p
      · exact p2 w m
def likeD (p : Int × Int × Int) : D := .tup [.int p.1, .int p.2.1, .int p.2.2]
abbrev restD (pls : List Ply) (lk : List (Int × Int × Int)) (cv : List (Int × Int)) : D × D × D := (.tup (pls.map plyD), .tup (lk.map likeD), .tup (cv.map pD))
structure BOk (ps : List Part) (pls : List Ply) (ss : List Scn) (lk : List (Int × Int × Int)) (cv : List (Int × Int)) : Prop where
  np : ps.length ≤ 8
  pok : ∀ p ∈ ps, POk p
  nl : pls.length ≤ 6
  tm : ∀ p ∈ pls, 0 ≤ p.tm
  nsc : ss.length ≤ 9
  sok : ∀ s ∈ ss, SOk ps.length s
  lks : ∀ q ∈ lk, (0 ≤ q.1 ∧ q.1 < pls.length) ∧ (0 ≤ q.2.1 ∧ q.2.1 < ps.length) ∧ 0 ≤ q.2.2
  sok2 : ∀ s ∈ ss, s.ns.length ≤ 8 ∧ s.ns.Nodup
  cvs : ∀ q ∈ cv, (0 ≤ q.1 ∧ q.1 < ps.length) ∧ (0 ≤ q.2 ∧ q.2 < pls.length)
  lkz : lk.length ≤ 1000
  cvz : cv.length ≤ 1000
  nms : ∀ s ∈ ss, s.nm.length ≠ 6
  hi : ∀ s ∈ ss, Hi s
theorem drawn_rest (cl) (ns : List Int) (at' : Nat) (cs : List Int) (many : Int) (h8 : cs.length = 8) (m0 : 0 ≤ many) (m1 : many ≤ 8) (ha : at' ≤ 10)
    (c7 : ∀ c k, -100000 ≤ k → k ≤ 100000 → cl 7 [.int c, .int k] = fi (mixB c k))
    (c10 : ∀ c k base, 0 ≤ k → k ≤ 1000 → ∃ p : Part, cl 10 [.int c, .int k, .int base] = fd (partD p) ∧ POk p)
    (c11 : ∀ c k base, 0 ≤ k → k ≤ 1000 → ∃ p : Ply, cl 11 [.int c, .int k, .int base] = fd (plyD p) ∧ 0 ≤ p.tm)
    (c12 : ∀ c k base many, 0 ≤ k → k ≤ 1000 → 0 ≤ many → many ≤ 8 → ∃ s : Scn, cl 12 [.int c, .int k, .int base, .int many] = fd (scnD s) ∧ SOk2 many s)
    (c13 : ∀ c one other share, 0 ≤ one → one ≤ 20 → 0 ≤ other → other ≤ 20 → 0 < share → ∃ qs : List (Int × Int), cl 13 [.int c, .int one, .int other, .int share] = some (.ow, .lst (qs.map pD)) ∧ qs.length ≤ 1000 ∧ ∀ q ∈ qs, (0 ≤ q.1 ∧ q.1 < one) ∧ (0 ≤ q.2 ∧ q.2 < other)) :
    ∃ ps pls ss lk cv, finD (evSs cl (b14.drop 3) [fd (.scr ns), fi at', fd (.lst (cs.map .int)), fi many, none, none, none, none, none, none, none, none, none]) = fd (bookG (restD pls lk cv) ps ss) ∧ BOk ps pls ss lk cv ∧ (ps.length : Int) = many := by
  have q : ∀ i : Int, 0 ≤ i → i < 8 → atI (cs.map D.int) i = some (.int (at0 cs i)) := fun i h0 h1 => ix_il h0 (by omega)
  have q0 := q 0 (by omega) (by omega)
  have q1 := q 1 (by omega) (by omega)
  have q2 := q 2 (by omega) (by omega)
  have q3 := q 3 (by omega) (by omega)
  have q4 := q 4 (by omega) (by omega)
  have q5 := q 5 (by omega) (by omega)
  have q6 := q 6 (by omega) (by omega)
  have q7 := q 7 (by omega) (by omega)
  obtain ⟨ps, e4, l4, k4⟩ := lcRun_ex D.int partD POk (F := lcF cl [fd (.scr ns), fi at', fd (.lst (cs.map .int)), fi many, none, none, none, none, none, none, none, none, none] (.call 10 [.ix (.var 2) (.int 2), .var 9, .ix (.var 2) (.int 0)]) (.nm 9) []) (rangeL 0 many) (by
    intro k hk
    rw [mem_rangeL] at hk
    obtain ⟨p, e, o⟩ := c10 (at0 cs 2) k (at0 cs 0) hk.1 (by omega)
    refine ⟨p, ?_, o⟩
    simp only [EV, lcF, q2, q0, e])
  rw [len_rangeL] at l4
  obtain ⟨pls, e5, l5, k5⟩ := lcRun_ex D.int plyD (fun p => 0 ≤ p.tm) (F := lcF cl [fd (.scr ns), fi at', fd (.lst (cs.map .int)), fi many, fd (.tup (ps.map partD)), none, none, none, none, none, none, none, none] (.call 11 [.ix (.var 2) (.int 3), .var 9, .ix (.var 2) (.int 4)]) (.nm 9) []) (rangeL 0 (at0 cs 1 / 56 % 7)) (by
    intro k hk
    rw [mem_rangeL] at hk
    obtain ⟨p, e, o⟩ := c11 (at0 cs 3) k (at0 cs 4) hk.1 (by omega)
    refine ⟨p, ?_, o⟩
    simp only [EV, lcF, q3, q4, e])
  rw [len_rangeL] at l5
  have hcut : (cut ns (some ((at' : Int) + 8)) (some ((at' : Int) + 17))).length ≤ 9 := by
    rw [show (at' : Int) + 8 = ((at' + 8 : Nat) : Int) by omega, show (at' : Int) + 17 = ((at' + 17 : Nat) : Int) by omega, cut_nat, List.length_take]
    omega
  generalize hB : cut ns (some ((at' : Int) + 8)) (some ((at' : Int) + 17)) = B at hcut
  have L := forRun_J (F := forF cl (.tp [9, 10]) [.ms .append 6 [.call 12 [.var 10, .var 9, .ix (.var 2) (.int 5), .var 3]]]) ((B.map D.int).zipIdx.map fun p => D.tup [.int (p.2 : Nat), p.1])
    (fun n ρ => ∃ (ss : List Scn) (j9 j10 : Option (Kd × D)), ρ = [fd (.scr ns), fi at', fd (.lst (cs.map .int)), fi many, fd (.tup (ps.map partD)), fd (.tup (pls.map plyD)), ow (.lst (ss.map scnD)), none, none, j9, j10, none, none] ∧ ss.length = n ∧ ∀ s ∈ ss, SOk2 many s)
    [fd (.scr ns), fi at', fd (.lst (cs.map .int)), fi many, fd (.tup (ps.map partD)), fd (.tup (pls.map plyD)), ow (.lst []), none, none, none, none, none, none] ⟨[], _, _, rfl, rfl, (fun s m => nomatch m)⟩ (by
    rintro i x ρ hx ⟨ss, j9, j10, rfl, hl, hs⟩
    obtain ⟨c, hc, rfl⟩ := get_enum hx
    have hi := (List.getElem?_eq_some_iff.mp hc).1
    obtain ⟨s, e, o⟩ := c12 c i (at0 cs 5) many (by omega) (by omega) m0 m1
    simp only [EV, forF, q5, e, m_app (show (ss.map scnD).length ≤ 1000000 by rw [List.length_map]; omega)]
    refine ⟨_, .inl rfl, ss ++ [s], _, _, by rw [List.map_append]; rfl, ?_, fun t m => ?_⟩
    · rw [List.length_append, hl]
      rfl
    · rw [List.mem_append, List.mem_singleton] at m
      rcases m with m | rfl
      · exact hs t m
      · exact o)
  obtain ⟨ρ, e6, ss, j9, j10, rfl, l6, k6⟩ := L
  rw [List.length_map, List.length_zipIdx, List.length_map] at l6
  obtain ⟨qs, e7, z7, k7⟩ := c13 (at0 cs 6) pls.length many 3 (by omega) (by omega) m0 (by omega) (by omega)
  obtain ⟨cv, e8, z8, k8⟩ := c13 (at0 cs 7) many pls.length 2 m0 (by omega) (by omega) (by omega) (by omega)
  have N := forRun_J (F := forF cl (.tp [11, 12]) [.ms .append 7 [.tup [.var 11, .var 12, .bin .mod (.call 7 [.ix (.var 2) (.int 6), .bin .add (.var 12) (.bin .mul (.int 9) (.var 11))]) (.bin .pow (.int 10) (.int 9))]]]) (qs.map pD)
    (fun n ρ => ∃ (lk : List (Int × Int × Int)) (j11 j12 : Option (Kd × D)), ρ = [fd (.scr ns), fi at', fd (.lst (cs.map .int)), fi many, fd (.tup (ps.map partD)), fd (.tup (pls.map plyD)), ow (.lst (ss.map scnD)), ow (.lst (lk.map likeD)), none, j9, j10, j11, j12] ∧ lk.length = n ∧ ∀ q ∈ lk, (0 ≤ q.1 ∧ q.1 < pls.length) ∧ (0 ≤ q.2.1 ∧ q.2.1 < many) ∧ 0 ≤ q.2.2)
    [fd (.scr ns), fi at', fd (.lst (cs.map .int)), fi many, fd (.tup (ps.map partD)), fd (.tup (pls.map plyD)), ow (.lst (ss.map scnD)), ow (.lst []), none, j9, j10, none, none] ⟨[], _, _, rfl, rfl, (fun s m => nomatch m)⟩ (by
    rintro n x ρ hx ⟨lk, j11, j12, rfl, hl, hk⟩
    obtain ⟨⟨a, b⟩, hp, rfl⟩ := get_map hx
    have hn := (List.getElem?_eq_some_iff.mp hp).1
    obtain ⟨⟨a0, a1⟩, b0, b1⟩ := k7 _ (List.mem_of_getElem? hp)
    simp only at a0 a1 b0 b1
    have pw : binD .pow (.int 10) (.int 9) = fi 1000000000 := rfl
    have m := m_app (xs := lk.map likeD) (d := .tup [.int a, .int b, .int (mixB (at0 cs 6) (b + 9 * a) % 1000000000)]) (by rw [List.length_map]; omega)
    simp only [EV, forF, pD, q6, c7 (at0 cs 6) (b + 9 * a) (by omega) (by omega), pw, m]
    refine ⟨_, .inl rfl, lk ++ [(a, b, mixB (at0 cs 6) (b + 9 * a) % 1000000000)], _, _, by rw [List.map_append]; rfl, ?_, fun t m => ?_⟩
    · rw [List.length_append, hl]
      rfl
    · rw [List.mem_append, List.mem_singleton] at m
      rcases m with m | rfl
      · exact hk t m
      · exact ⟨⟨a0, a1⟩, ⟨b0, b1⟩, by show 0 ≤ mixB (at0 cs 6) (b + 9 * a) % 1000000000; omega⟩)
  obtain ⟨ρ, e9, lk, j11, j12, rfl, l9, k9⟩ := N
  rw [List.length_map] at l9
  have pm : (ps.length : Int) = many := by omega
  refine ⟨ps, pls, ss, lk, cv, ?_, ⟨by omega, k4, by omega, k5, by omega, by rw [pm]; exact fun s m => (k6 s m).1, by rw [pm]; exact k9, fun s m => ⟨(k6 s m).2.1, (k6 s m).2.2.1⟩, by rw [pm]; exact k8, by omega, z8, fun s m => (k6 s m).2.2.2.1, fun s m => (k6 s m).2.2.2.2⟩, pm⟩
  have en : srcD .enum [.lst (B.map .int)] = some ((B.map D.int).zipIdx.map fun p => D.tup [.int (p.2 : Nat), p.1]) := by simp only [srcD]
  simp only [EV, b14, List.drop_succ_cons, List.drop_zero, q0, q1, q2, q3, q4, q5, q6, q7, k_rng1 (show -100000 ≤ many by omega) (by omega), k_rng1 (show -100000 ≤ at0 cs 1 / 56 % 7 by omega) (by omega), e4, e5, slcD, hB, en, e6, e7, e9, e8]
  rfl
theorem r_drawn (cl) (ns : List Int) (at' : Nat) (ha : at' ≤ 10)
    (c6 : ∀ k : Nat, cl 6 [.scr ns, .int k] = fi (ns.getD k 0))
    (c7 : ∀ c k, -100000 ≤ k → k ≤ 100000 → cl 7 [.int c, .int k] = fi (mixB c k))
    (c10 : ∀ c k base, 0 ≤ k → k ≤ 1000 → ∃ p : Part, cl 10 [.int c, .int k, .int base] = fd (partD p) ∧ POk p)
    (c11 : ∀ c k base, 0 ≤ k → k ≤ 1000 → ∃ p : Ply, cl 11 [.int c, .int k, .int base] = fd (plyD p) ∧ 0 ≤ p.tm)
    (c12 : ∀ c k base many, 0 ≤ k → k ≤ 1000 → 0 ≤ many → many ≤ 8 → ∃ s : Scn, cl 12 [.int c, .int k, .int base, .int many] = fd (scnD s) ∧ SOk2 many s)
    (c13 : ∀ c one other share, 0 ≤ one → one ≤ 20 → 0 ≤ other → other ≤ 20 → 0 < share → ∃ qs : List (Int × Int), cl 13 [.int c, .int one, .int other, .int share] = some (.ow, .lst (qs.map pD)) ∧ qs.length ≤ 1000 ∧ ∀ q ∈ qs, (0 ≤ q.1 ∧ q.1 < one) ∧ (0 ≤ q.2 ∧ q.2 < other)) :
    ∃ ps pls ss lk cv, R.run cl fn14 [.scr ns, .int at'] = fd (bookG (restD pls lk cv) ps ss) ∧ BOk ps pls ss lk cv := by
  have M := lcRun_map D.int (F := lcF cl [fd (.scr ns), fi at', none, none, none, none, none, none, none, none, none, none, none] (.call 6 [.var 0, .bin .add (.var 1) (.var 9)]) (.nm 9) []) (fun k => D.int (ns.getD (at' + k.toNat) 0)) (rangeL 0 8) (by
    intro k hk
    rw [mem_rangeL] at hk
    have e := c6 (at' + k.toNat)
    rw [show ((at' + k.toNat : Nat) : Int) = (at' : Int) + k by omega] at e
    simp only [EV, lcF, e])
  have eM : (rangeL 0 8).map (fun k => D.int (ns.getD (at' + k.toNat) 0)) = ((rangeL 0 8).map fun k => ns.getD (at' + k.toNat) 0).map D.int := by rw [List.map_map]; rfl
  have h8 : ((rangeL 0 8).map fun k => ns.getD (at' + k.toNat) 0).length = 8 := by
    rw [List.length_map, len_rangeL]
    rfl
  rw [eM] at M
  generalize ((rangeL 0 8).map fun k => ns.getD (at' + k.toNat) 0) = cs at M h8
  have q1 : atI (cs.map D.int) 1 = some (.int (at0 cs 1)) := ix_il (by omega) (by omega)
  have go : ∀ many, 0 ≤ many → many ≤ 8 → (∀ T, finD (evSs cl (b14.take 3 ++ T) [fd (.scr ns), fi at', none, none, none, none, none, none, none, none, none, none, none]) = finD (evSs cl T [fd (.scr ns), fi at', fd (.lst (cs.map .int)), fi many, none, none, none, none, none, none, none, none, none])) → ∃ ps pls ss lk cv, R.run cl fn14 [.scr ns, .int at'] = fd (bookG (restD pls lk cv) ps ss) ∧ BOk ps pls ss lk cv := by
    intro many m0 m1 e
    obtain ⟨ps, pls, ss, lk, cv, h1, h2, _⟩ := drawn_rest cl ns at' cs many h8 m0 m1 ha c7 c10 c11 c12 c13
    have sp : b14 = b14.take 3 ++ b14.drop 3 := rfl
    refine ⟨ps, pls, ss, lk, cv, run_to rfl ?_, h2⟩
    show finD (evSs cl b14 [fd (.scr ns), fi at', none, none, none, none, none, none, none, none, none, none, none]) = _
    rw [sp, e]
    exact h1
  have r8 := k_rng1 (n := 8) (by omega) (by omega)
  by_cases hA : at0 cs 1 / 7 % 8 = 5
  · by_cases hB : at0 cs 1 % 7 = 6
    · refine go (6 + 2) (by decide) (by decide) fun T => ?_
      simp only [EV, b14, List.take_succ_cons, List.take_zero, List.cons_append, List.nil_append, r8, M, q1, hA, hB, decide_true]
      rfl
    · refine go (at0 cs 1 % 7 + 0) (by omega) (by omega) fun T => ?_
      simp only [EV, b14, List.take_succ_cons, List.take_zero, List.cons_append, List.nil_append, r8, M, q1, hA, hB, decide_true, decide_false]
      rfl
  · refine go (at0 cs 1 % 7 + 0) (by omega) (by omega) fun T => ?_
    simp only [EV, b14, List.take_succ_cons, List.take_zero, List.cons_append, List.nil_append, r8, M, q1, hA, decide_false]
    rfl
end RL

set_option linter.all false
set_option maxHeartbeats 4000000
namespace RL
open PySem R L2
def castD : Option Int → D
  | none => .non
  | some p => .int p
def CastOk (cast : List (Option Int)) (n m : Nat) : Prop := cast.length = n ∧ ∀ p : Int, some p ∈ cast → 0 ≤ p ∧ p < m
def pl (pls : List Ply) (i : Int) : Ply := pls.getD i.toNat ⟨"", "", 0⟩
theorem at_ply {pls : List Ply} {i : Int} (h0 : 0 ≤ i) (h : i < pls.length) : atI (pls.map plyD) i = some (plyD (pl pls i)) := by
  rw [atI_map, atI_getD ⟨"", "", 0⟩ h0 h]
  rfl
def able (p : Part) (y : Ply) : Bool := decide (p.vc.cps.getD 0 0 ∈ y.vs.cps.toList)
theorem c_voice {x y : Str} (h : x.length = 1) : cmpD .isin (.str x) (.str y) = some (decide (x.cps.getD 0 0 ∈ y.cps.toList)) := by
  simp only [cmpD, if_pos h]
theorem dep_plyD (p : Ply) : (plyD p).dep = 1 := by simp [plyD, D.dep, D.deps]
theorem deps_plys (ps : List Ply) : D.deps (ps.map plyD) ≤ 1 := deps_le fun d m => by
  obtain ⟨n, _, rfl⟩ := List.mem_map.mp m
  rw [dep_plyD]
  exact Nat.le_refl _
theorem c_eqT0 {xs : List D} (h : D.deps xs + 1 ≤ 60) : cmpD .eq (.tup xs) (.tup []) = some xs.isEmpty := by
  simp only [cmpD, D.dep, h, D.deps, eqv, D.py]
  rw [if_pos ⟨trivial, by decide⟩]
  cases xs with
  | nil => simp [D.pys, PyData.eqv, PyData.eqvAll]
  | cons x xs => simp [D.pys, PyData.eqv, PyData.eqvAll]
theorem c_eqL0 {xs : List D} (h : D.deps xs + 1 ≤ 60) : cmpD .eq (.lst xs) (.lst []) = some xs.isEmpty := by
  simp only [cmpD, D.dep, h, D.deps, eqv, D.py]
  rw [if_pos ⟨trivial, by decide⟩]
  cases xs with
  | nil => simp [D.pys, PyData.eqv, PyData.eqvAll]
  | cons x xs => simp [D.pys, PyData.eqv, PyData.eqvAll]
theorem pt_ok {ps : List Part} (h : ∀ p ∈ ps, POk p) {k : Int} (k0 : 0 ≤ k) (k1 : k < ps.length) : (pt ps k).vc.length = 1 := by
  have hk : k.toNat < ps.length := by omega
  have : pt ps k = ps[k.toNat] := by
    unfold pt
    rw [List.getD_eq_getElem?_getD, List.getElem?_eq_getElem hk]
    rfl
  rw [this]
  exact (h _ (List.getElem_mem hk)).1
theorem r_given (cl) (ps pls ss lk cv) (O : BOk ps pls ss lk cv) (c : Int) (c7 : ∀ c k, -100000 ≤ k → k ≤ 100000 → cl 7 [.int c, .int k] = fi (mixB c k)) :
    ∃ cast : List (Option Int), R.run cl fn52 [bookG (restD pls lk cv) ps ss, .int c] = some (.ow, .lst (cast.map castD)) ∧ CastOk cast ps.length pls.length := by
  have np := O.np
  have nl := O.nl
  have dT : D.deps (pls.map plyD) + 1 ≤ 60 := by have := deps_plys pls; omega
  have eT := c_eqT0 dT
  rw [List.isEmpty_map] at eT
  have L := forRun_J (F := forF cl (.nm 3) [.set (.nm 4) (.call 7 [.var 1, .var 3]),
    .frz 4,
    .set (.nm 5) (.lc (.var 6) (.nm 6) .rng [.bi .len [.ix (.var 0) (.int 1)]] [.cmp .isin (.ix (.ix (.ix (.var 0) (.int 0)) (.var 3)) (.int 1)) (.ix (.ix (.ix (.var 0) (.int 1)) (.var 6)) (.int 1))]),
    .frz 5,
    .ite (.or (.cmp .eq (.bin .mod (.var 4) (.int 9)) (.int 4)) (.cmp .eq (.ix (.var 0) (.int 1)) (.tup []))) [.ms .append 2 [.non]] [.ite (.or (.cmp .eq (.bin .mod (.var 4) (.int 9)) (.int 5)) (.cmp .eq (.var 5) (.lst []))) [.ms .append 2 [.bin .mod (.bin .fdiv (.var 4) (.int 9)) (.bi .len [.ix (.var 0) (.int 1)])]] [.ms .append 2 [.ix (.var 5) (.bin .mod (.bin .fdiv (.var 4) (.int 9)) (.bi .len [.var 5]))]]]]) ((rangeL 0 ps.length).map .int)
    (fun n ρ => ∃ (cast : List (Option Int)) (j3 j4 j5 j6 : Option (Kd × D)), ρ = [fd (bookG (restD pls lk cv) ps ss), fi c, ow (.lst (cast.map castD)), j3, j4, j5, j6] ∧ cast.length = n ∧ ∀ p : Int, some p ∈ cast → 0 ≤ p ∧ p < pls.length)
    [fd (bookG (restD pls lk cv) ps ss), fi c, ow (.lst []), none, none, none, none] ⟨[], _, _, _, _, rfl, rfl, (fun p m => nomatch m)⟩ (by
    rintro n x ρ hx ⟨cast, j3, j4, j5, j6, rfl, hl, hc⟩
    obtain ⟨k, hk, rfl⟩ := get_map_int hx
    obtain ⟨ek, k0, k1⟩ := get_range hk
    have a1 := at_part k0 k1
    have v1 := pt_ok O.pok k0 k1
    have M := lcRun_filter D.int (F := lcF cl [fd (bookG (restD pls lk cv) ps ss), fi c, ow (.lst (cast.map castD)), fi k, fi (mixB c k), j5, j6] (.var 6) (.nm 6) [.cmp .isin (.ix (.ix (.ix (.var 0) (.int 0)) (.var 3)) (.int 1)) (.ix (.ix (.ix (.var 0) (.int 1)) (.var 6)) (.int 1))]) D.int (fun j => able (pt ps k) (pl pls j)) (rangeL 0 pls.length) (by
      intro j hj
      rw [mem_rangeL] at hj
      have a2 := at_ply hj.1 hj.2
      have vv := c_voice (y := (pl pls j).vs) v1
      unfold bookG able
      simp only [EV, lcF, a1, partD, a2, plyD, vv]
      split <;> rfl)
    have sub : ∀ x ∈ (rangeL 0 pls.length).filter (fun j => able (pt ps k) (pl pls j)), 0 ≤ x ∧ x < pls.length := fun x hx => mem_rangeL.mp (List.mem_filter.mp hx).1
    generalize (rangeL 0 pls.length).filter (fun j => able (pt ps k) (pl pls j)) = ab at M sub
    have eL : cmpD .eq (.lst (ab.map .int)) (.lst []) = some ab.isEmpty := by
      rw [c_eqL0 (by have := dep_il ab; omega), List.isEmpty_map]
    have m0 := mixB_lo c k
    have ap : ∀ d, msD .append (.lst (cast.map castD)) [d] = some (.lst (cast.map castD ++ [d])) := fun d => m_app (by rw [List.length_map]; omega)
    have fin : ∀ (y : Option Int) (d : D) (j3 j4 j5 j6 : Option (Kd × D)), d = castD y → (∀ p, y = some p → 0 ≤ p ∧ p < pls.length) → ∃ ρ', (some (Out.nx [fd (bookG (restD pls lk cv) ps ss), fi c, ow (.lst (cast.map castD ++ [d])), j3, j4, j5, j6]) = some (Out.nx ρ') ∨ some (Out.nx [fd (bookG (restD pls lk cv) ps ss), fi c, ow (.lst (cast.map castD ++ [d])), j3, j4, j5, j6]) = some (Out.ct ρ')) ∧ ∃ (cast : List (Option Int)) (j3 j4 j5 j6 : Option (Kd × D)), ρ' = [fd (bookG (restD pls lk cv) ps ss), fi c, ow (.lst (cast.map castD)), j3, j4, j5, j6] ∧ cast.length = n + 1 ∧ ∀ p : Int, some p ∈ cast → 0 ≤ p ∧ p < pls.length := by
      rintro y d j3 j4 j5 j6 rfl hy
      refine ⟨_, .inl rfl, cast ++ [y], _, _, _, _, by rw [List.map_append]; rfl, ?_, fun p m => ?_⟩
      · rw [List.length_append, hl]
        rfl
      · rw [List.mem_append, List.mem_singleton] at m
        rcases m with m | m
        · exact hc p m
        · exact hy p m.symm
    unfold bookG at M fin ⊢
    by_cases b1 : mixB c k % 9 = 4
    · simp only [EV, forF, c7 c k (by omega) (by omega), k_rng1 (show -100000 ≤ (pls.length : Int) by omega) (by omega), M, b1, decide_true, ap]
      exact fin none _ _ _ _ _ rfl (fun p e => nomatch e)
    · by_cases b2 : pls.isEmpty = true
      · simp only [EV, forF, c7 c k (by omega) (by omega), k_rng1 (show -100000 ≤ (pls.length : Int) by omega) (by omega), M, b1, decide_false, eT, b2, ap]
        exact fin none _ _ _ _ _ rfl (fun p e => nomatch e)
      · have b2 : pls.isEmpty = false := by simpa using b2
        have hp : (0 : Int) < pls.length := by
          cases pls with
          | nil => cases b2
          | cons _ _ => rw [List.length_cons]; omega
        by_cases b3 : mixB c k % 9 = 5
        · simp only [EV, forF, c7 c k (by omega) (by omega), k_rng1 (show -100000 ≤ (pls.length : Int) by omega) (by omega), M, b1, b3, decide_true, decide_false, eT, b2, ap, b_mod hp]
          exact fin (some _) _ _ _ _ _ rfl (fun p e => by cases e; exact ⟨Int.emod_nonneg _ (by omega), Int.emod_lt_of_pos _ hp⟩)
        · by_cases b4 : ab.isEmpty = true
          · simp only [EV, forF, c7 c k (by omega) (by omega), k_rng1 (show -100000 ≤ (pls.length : Int) by omega) (by omega), M, b1, b3, decide_false, eT, b2, eL, b4, ap, b_mod hp]
            exact fin (some _) _ _ _ _ _ rfl (fun p e => by cases e; exact ⟨Int.emod_nonneg _ (by omega), Int.emod_lt_of_pos _ hp⟩)
          · have b4 : ab.isEmpty = false := by simpa using b4
            have ha : (0 : Int) < ab.length := by
              cases ab with
              | nil => cases b4
              | cons _ _ => rw [List.length_cons]; omega
            have r0 := Int.emod_nonneg (mixB c k / 9) (show (ab.length : Int) ≠ 0 by omega)
            have r1 := Int.emod_lt_of_pos (mixB c k / 9) ha
            have q := ix_il (gs := ab) r0 r1
            have mm := at0_mem (gs := ab) r0 r1
            simp only [EV, forF, c7 c k (by omega) (by omega), k_rng1 (show -100000 ≤ (pls.length : Int) by omega) (by omega), M, b1, b3, decide_false, eT, b2, eL, b4, ap, b_mod ha, q]
            exact fin (some _) _ _ _ _ _ rfl (fun p e => by cases e; exact sub _ mm))
  obtain ⟨ρ, e, cast, j3, j4, j5, j6, rfl, hl, hc⟩ := L
  refine ⟨cast, run_to rfl ?_, ?_, hc⟩
  · show finD (evSs cl b52 [fd (bookG (restD pls lk cv) ps ss), fi c, none, none, none, none, none]) = _
    unfold bookG at e ⊢
    simp only [EV, b52, k_rng1 (show -100000 ≤ (ps.length : Int) by omega) (by omega), e]
  · rw [hl, List.length_map, len_rangeL]
    omega
end RL

set_option linter.all false
set_option maxHeartbeats 4000000
namespace RL
open PySem R L2
def castI (cast : List (Option Int)) (i : Int) : Option Int := cast.getD i.toNat none
theorem get_enumG {α : Type} {f : α → D} {cs : List α} {i : Nat} {x : D} (h : ((cs.map f).zipIdx.map fun p => D.tup [.int (p.2 : Nat), p.1])[i]? = some x) : ∃ c, cs[i]? = some c ∧ x = .tup [.int i, f c] := by
  obtain ⟨p, hp, rfl⟩ := get_map h
  rw [List.getElem?_zipIdx, List.getElem?_map] at hp
  cases e : cs[i]? with
  | none => rw [e] at hp; cases hp
  | some c =>
    rw [e] at hp
    cases hp
    refine ⟨c, rfl, ?_⟩
    simp
theorem at_cast {cast : List (Option Int)} {i : Int} (h0 : 0 ≤ i) (h : i < cast.length) : atI (cast.map castD) i = some (castD (castI cast i)) := by
  rw [atI_map, atI_getD none h0 h]
  rfl
end RL

set_option linter.all false
set_option maxHeartbeats 4000000
namespace RL
open PySem R L2
theorem c_castP (a : Option Int) (p : Int) : cmpD .eq (castD a) (.int p) = some (decide (a = some p)) := by
  cases a with
  | none => simp [castD, cmpD, D.dep, eqv, D.py, PyData.eqv]
  | some q =>
    show cmpD .eq (.int q) (.int p) = _
    rw [c_eqI]
    simp
def mine (cast : List (Option Int)) (p : Int) (x : Int) : Bool := decide (castI cast x = some p)
def evSL (ss : List Scn) (cast : List (Option Int)) (p : Int) (n : Nat) : List (Int × Int) := ((sc ss n).ns.filter (mine cast p)).map fun x => ((n : Int), x)
def evN (ss : List Scn) (cast : List (Option Int)) (p : Int) : Nat → List (Int × Int)
  | 0 => []
  | n + 1 => evN ss cast p n ++ evSL ss cast p n
def eveL (ss : List Scn) (cast : List (Option Int)) (p : Int) : List (Int × Int) := evN ss cast p ss.length
structure SsOk (ss : List Scn) (n : Nat) : Prop where
  z : ss.length ≤ 16
  ok : ∀ s ∈ ss, (∀ x ∈ s.ns, 0 ≤ x ∧ x < n) ∧ s.ns.length ≤ 8
theorem SsOk.sc {ss : List Scn} {n : Nat} (h : SsOk ss n) (k : Nat) : (∀ x ∈ (sc ss k).ns, 0 ≤ x ∧ x < n) ∧ (sc ss k).ns.length ≤ 8 := by
  rcases Nat.lt_or_ge k ss.length with hk | hk
  · exact h.ok _ (List.mem_of_getElem? (sc_at hk))
  · have : RL.sc ss k = S0 := by
      unfold RL.sc
      rw [List.getD_eq_getElem?_getD, List.getElem?_eq_none hk]
      rfl
    rw [this]
    exact ⟨fun x m => (nomatch m), Nat.zero_le _⟩
theorem BOk.ss {ps pls ss lk cv} (O : BOk ps pls ss lk cv) : SsOk ss ps.length := ⟨Nat.le_trans O.nsc (by decide), fun s m => ⟨(O.sok s m).1, (O.sok2 s m).1⟩⟩
theorem len_evS {ss : List Scn} {m : Nat} (h : SsOk ss m) (cast p n) : (evSL ss cast p n).length ≤ 8 := by
  unfold evSL
  rw [List.length_map]
  exact Nat.le_trans (List.length_filter_le _ _) (h.sc n).2
theorem len_evN {ss : List Scn} {m : Nat} (h : SsOk ss m) (cast p) : ∀ n, (evN ss cast p n).length ≤ 8 * n
  | 0 => Nat.le_refl _
  | n + 1 => by
    have := len_evN h cast p n
    have := len_evS h cast p n
    rw [evN, List.length_append]
    omega
theorem len_eveL {ss : List Scn} {m : Nat} (h : SsOk ss m) (cast p) : (eveL ss cast p).length ≤ 128 := by
  have := len_evN h cast p ss.length
  have := h.z
  unfold eveL
  omega
theorem mem_evN {ss cast p} : ∀ {n : Nat} {q : Int × Int}, q ∈ evN ss cast p n ↔ ∃ k : Nat, k < n ∧ q.1 = k ∧ q.2 ∈ (sc ss k).ns ∧ castI cast q.2 = some p
  | 0, q => ⟨fun m => (nomatch m), fun ⟨k, h, _⟩ => absurd h (Nat.not_lt_zero k)⟩
  | n + 1, q => by
    rw [evN, List.mem_append, mem_evN]
    constructor
    · rintro (⟨k, h, r⟩ | h)
      · exact ⟨k, by omega, r⟩
      · unfold evSL at h
        obtain ⟨x, hx, rfl⟩ := List.mem_map.mp h
        obtain ⟨h1, h2⟩ := List.mem_filter.mp hx
        exact ⟨n, by omega, rfl, h1, of_decide_eq_true h2⟩
    · rintro ⟨k, h, e, h1, h2⟩
      rcases Nat.lt_or_ge k n with c | c
      · exact .inl ⟨k, c, e, h1, h2⟩
      · have : k = n := by omega
        subst this
        right
        unfold evSL
        exact List.mem_map.mpr ⟨q.2, List.mem_filter.mpr ⟨h1, decide_eq_true h2⟩, by rw [← e]⟩
section
variable (rx : D × D × D)
theorem r_evening (cl) (ps : List Part) (ss : List Scn) (cast : List (Option Int)) (p : Int) (h : SsOk ss cast.length) : R.run cl fn54 [bookG rx ps ss, .lst (cast.map castD), .int p] = some (.ow, .lst ((eveL ss cast p).map pD)) := by
  have L := forRun_J (F := forF cl (.tp [4, 5]) [.for_ (.nm 6) .seq [.ix (.var 5) (.int 3)] [.ite (.cmp .eq (.ix (.var 1) (.var 6)) (.var 2)) [.ms .append 3 [.tup [.var 4, .var 6]]] []]]) ((ss.map scnD).zipIdx.map fun p => D.tup [.int (p.2 : Nat), p.1])
    (fun n ρ => ∃ (j4 j5 j6 : Option (Kd × D)), ρ = [fd (bookG rx ps ss), fd (.lst (cast.map castD)), fi p, ow (.lst ((evN ss cast p n).map pD)), j4, j5, j6])
    [fd (bookG rx ps ss), fd (.lst (cast.map castD)), fi p, ow (.lst []), none, none, none] ⟨_, _, _, rfl⟩ (by
    rintro n x ρ hx ⟨j4, j5, j6, rfl⟩
    obtain ⟨s, hs, rfl⟩ := get_enumG hx
    have hn := (List.getElem?_eq_some_iff.mp hs).1
    have hz := h.z
    have es : sc ss n = s := by
      have := sc_at hn
      rw [hs] at this
      exact (Option.some.inj this).symm
    obtain ⟨q1, q2⟩ := h.sc n
    have l0 := len_evN h cast p n
    rw [evN]
    unfold evSL
    rw [es] at q1 q2 ⊢
    generalize evN ss cast p n = acc at l0
    have M := forRun_J (F := forF cl (.nm 6) [.ite (.cmp .eq (.ix (.var 1) (.var 6)) (.var 2)) [.ms .append 3 [.tup [.var 4, .var 6]]] []]) (s.ns.map .int)
      (fun m ρ => ∃ (j6 : Option (Kd × D)), ρ = [fd (bookG rx ps ss), fd (.lst (cast.map castD)), fi p, ow (.lst ((acc ++ ((s.ns.take m).filter (mine cast p)).map fun x => ((n : Int), x)).map pD)), fi n, fd (scnD s), j6])
      [fd (bookG rx ps ss), fd (.lst (cast.map castD)), fi p, ow (.lst (acc.map pD)), fi n, fd (scnD s), j6] ⟨j6, by simp⟩ (by
      rintro m y ρ hy ⟨j6', rfl⟩
      obtain ⟨x, hx, rfl⟩ := get_map_int hy
      have hm := (List.getElem?_eq_some_iff.mp hx).1
      obtain ⟨x0, x1⟩ := q1 x (List.mem_of_getElem? hx)
      have a1 := at_cast (cast := cast) x0 x1
      have tk : s.ns.take (m + 1) = s.ns.take m ++ [x] := by
        rw [List.take_add_one, hx]
        rfl
      have hl : ((acc ++ ((s.ns.take m).filter (mine cast p)).map fun x => ((n : Int), x)).map pD).length ≤ 1000000 := by
        rw [List.length_map, List.length_append, List.length_map]
        have := List.length_filter_le (mine cast p) (s.ns.take m)
        rw [List.length_take] at this
        omega
      have ap := fun d => m_app (d := d) hl
      have ec := c_castP (castI cast x) p
      have sp : acc ++ ((s.ns.take (m + 1)).filter (mine cast p)).map (fun x => ((n : Int), x)) = (acc ++ ((s.ns.take m).filter (mine cast p)).map (fun x => ((n : Int), x))) ++ ([x].filter (mine cast p)).map (fun x => ((n : Int), x)) := by
        rw [tk, List.filter_append, List.map_append, List.append_assoc]
      rw [sp]
      generalize acc ++ ((s.ns.take m).filter (mine cast p)).map (fun x => ((n : Int), x)) = acc2 at ap
      by_cases hc : castI cast x = some p
      · have f1 : [x].filter (mine cast p) = [x] := by simp [mine, hc]
        rw [decide_eq_true hc] at ec
        rw [f1]
        simp only [EV, forF, a1, ec, ap]
        refine ⟨_, .inl rfl, fi x, ?_⟩
        simp [pD]
      · have f1 : [x].filter (mine cast p) = [] := by simp [mine, hc]
        rw [decide_eq_false hc] at ec
        rw [f1]
        simp only [EV, forF, a1, ec]
        refine ⟨_, .inl rfl, fi x, ?_⟩
        simp)
    obtain ⟨ρ, e, j6', rfl⟩ := M
    rw [List.take_of_length_le (by rw [List.length_map]; exact Nat.le_refl _)] at e
    simp only [EV, forF, scnD] at e ⊢
    simp only [EV, e]
    exact ⟨_, .inl rfl, _, _, _, rfl⟩)
  obtain ⟨ρ, e, j4, j5, j6, rfl⟩ := L
  rw [List.length_map, List.length_zipIdx, List.length_map] at e
  have en : srcD .enum [.tup (ss.map scnD)] = some ((ss.map scnD).zipIdx.map fun p => D.tup [.int (p.2 : Nat), p.1]) := by simp only [srcD]
  refine run_to rfl ?_
  show finD (evSs cl b54 [fd (bookG rx ps ss), fd (.lst (cast.map castD)), fi p, none, none, none, none]) = _
  unfold bookG at e ⊢
  simp only [EV, b54, en, e]
  rfl
def EnOk (ss : List Scn) (n : Nat) (a : Int × Int) : Prop := (0 ≤ a.1 ∧ a.1 < ss.length) ∧ 0 ≤ a.2 ∧ a.2 < n
theorem pw_at {α : Type} {P : α → α → Prop} : ∀ {l : List α} {i j : Nat} {a b : α}, l.Pairwise P → i < j → l[i]? = some a → l[j]? = some b → P a b
  | [], i, j, a, b, _, _, h, _ => by simp at h
  | x :: l, 0, j + 1, a, b, h, _, h1, h2 => by
    rw [List.getElem?_cons_zero] at h1
    rw [List.getElem?_cons_succ] at h2
    cases h1
    exact (List.pairwise_cons.mp h).1 _ (List.mem_of_getElem? h2)
  | x :: l, i + 1, j + 1, a, b, h, hij, h1, h2 => by
    rw [List.getElem?_cons_succ] at h1 h2
    exact pw_at (List.pairwise_cons.mp h).2 (Nat.lt_of_succ_lt_succ hij) h1 h2
structure EvOk (ss : List Scn) (n : Nat) (ev : List (Int × Int)) : Prop where
  ok : ∀ a ∈ ev, EnOk ss n a
  up : ev.Pairwise fun a b => a.1 ≤ b.1
  z : ev.length ≤ 200
theorem EvOk.le {ss : List Scn} {n : Nat} {ev : List (Int × Int)} (E : EvOk ss n ev) {i j : Nat} {a b : Int × Int} (h : i < j) (h1 : ev[i]? = some a) (h2 : ev[j]? = some b) : a.1 ≤ b.1 := pw_at (P := fun a b : Int × Int => a.1 ≤ b.1) E.up h h1 h2
end
end RL

set_option linter.all false
set_option maxHeartbeats 4000000
namespace RL
open PySem R L2
section
variable (rx : D × D × D)
end
theorem c_neRf {d : D} (h : d.nod = true) (h2 : d.dep ≤ 60) : cmpD .ne d d = some false := by
  simp only [cmpD, h2, and_self, if_true, eqv_refl d h]
  rfl
def e0 (ev : List (Int × Int)) (k : Int) : Int × Int := ev.getD k.toNat (0, 0)
end RL

set_option linter.all false
set_option maxHeartbeats 4000000
namespace RL
open PySem R L2
abbrev LAWN : Nat := 55
def tbl : List (Nat × Fn) := [(54, fn54), (6, fn6), (7, fn7), (8, fn8), (9, fn9), (10, fn10), (11, fn11), (12, fn12), (13, fn13), (14, fn14), (52, fn52), (55, fn55)]
theorem evN_nd {ss : List Scn} {cast : List (Option Int)} {p : Int} (nd : ∀ k, (sc ss k).ns.Nodup) : ∀ n, (evN ss cast p n).Nodup
  | 0 => List.nodup_nil
  | n + 1 => by
    rw [evN, List.nodup_append]
    refine ⟨evN_nd nd n, ?_, fun a ha b hb e => ?_⟩
    · unfold evSL
      have := (nd n).sublist (List.filter_sublist (p := mine cast p))
      unfold List.Nodup at this ⊢
      rw [List.pairwise_map]
      exact this.imp fun h e => h (Prod.mk.inj e).2
    · obtain ⟨k, hk, e1, _⟩ := mem_evN.mp ha
      unfold evSL at hb
      obtain ⟨x, _, rfl⟩ := List.mem_map.mp hb
      subst e
      simp only at e1
      omega
def everyN (ss : List Scn) (cast : List (Option Int)) (m : Nat) : List (Int × Int) := (List.range m).flatMap fun p => eveL ss cast (p : Nat)
theorem everyN_succ (ss cast) (m : Nat) : everyN ss cast (m + 1) = everyN ss cast m ++ eveL ss cast (m : Nat) := by
  unfold everyN
  rw [List.range_succ, List.flatMap_append, List.flatMap_cons, List.flatMap_nil, List.append_nil]
theorem mem_every {ss cast} {m : Nat} {q : Int × Int} : q ∈ everyN ss cast m ↔ ∃ p : Nat, p < m ∧ q ∈ eveL ss cast (p : Nat) := by
  unfold everyN
  rw [List.mem_flatMap]
  exact ⟨fun ⟨p, h, z⟩ => ⟨p, List.mem_range.mp h, z⟩, fun ⟨p, h, z⟩ => ⟨p, List.mem_range.mpr h, z⟩⟩
theorem every_nd {ss : List Scn} {cast : List (Option Int)} (nd : ∀ k, (sc ss k).ns.Nodup) : ∀ m, (everyN ss cast m).Nodup
  | 0 => List.nodup_nil
  | m + 1 => by
    rw [everyN_succ, List.nodup_append]
    refine ⟨every_nd nd m, evN_nd nd _, fun a ha b hb e => ?_⟩
    subst e
    obtain ⟨p, hp, h⟩ := mem_every.mp ha
    obtain ⟨_, _, _, _, c1⟩ := mem_evN.mp h
    obtain ⟨_, _, _, _, c2⟩ := mem_evN.mp hb
    have : (p : Int) = (m : Nat) := Option.some.inj (c1.symm.trans c2)
    omega
def castS (ss : List Scn) (cast : List (Option Int)) (n : Nat) : List (Int × Int) := ((sc ss n).ns.filter fun x => !decide (castI cast x = none)).map fun x => ((n : Int), x)
def castN (ss : List Scn) (cast : List (Option Int)) : Nat → List (Int × Int)
  | 0 => []
  | n + 1 => castN ss cast n ++ castS ss cast n
theorem mem_castN {ss cast} : ∀ {n : Nat} {q : Int × Int}, q ∈ castN ss cast n ↔ ∃ k : Nat, k < n ∧ q.1 = k ∧ q.2 ∈ (sc ss k).ns ∧ castI cast q.2 ≠ none
  | 0, q => ⟨fun m => (nomatch m), fun ⟨k, h, _⟩ => absurd h (Nat.not_lt_zero k)⟩
  | n + 1, q => by
    rw [castN, List.mem_append, mem_castN]
    constructor
    · rintro (⟨k, h, r⟩ | h)
      · exact ⟨k, by omega, r⟩
      · unfold castS at h
        obtain ⟨x, hx, rfl⟩ := List.mem_map.mp h
        obtain ⟨h1, h2⟩ := List.mem_filter.mp hx
        exact ⟨n, by omega, rfl, h1, by simpa using h2⟩
    · rintro ⟨k, h, e, h1, h2⟩
      rcases Nat.lt_or_ge k n with c | c
      · exact .inl ⟨k, c, e, h1, h2⟩
      · have : k = n := by omega
        subst this
        right
        unfold castS
        exact List.mem_map.mpr ⟨q.2, List.mem_filter.mpr ⟨h1, by simpa using h2⟩, by rw [← e]⟩
theorem castN_nd {ss : List Scn} {cast : List (Option Int)} (nd : ∀ k, (sc ss k).ns.Nodup) : ∀ n, (castN ss cast n).Nodup
  | 0 => List.nodup_nil
  | n + 1 => by
    rw [castN, List.nodup_append]
    refine ⟨castN_nd nd n, ?_, fun a ha b hb e => ?_⟩
    · unfold castS
      have := (nd n).sublist (List.filter_sublist (p := fun x => !decide (castI cast x = none)))
      unfold List.Nodup at this ⊢
      rw [List.pairwise_map]
      exact this.imp fun h e => h (Prod.mk.inj e).2
    · obtain ⟨k, hk, e1, _⟩ := mem_castN.mp ha
      unfold castS at hb
      obtain ⟨x, _, rfl⟩ := List.mem_map.mp hb
      subst e
      simp only at e1
      omega
theorem every_perm {ss : List Scn} {cast : List (Option Int)} {m : Nat} (nd : ∀ k, (sc ss k).ns.Nodup) (C : ∀ p : Int, some p ∈ cast → 0 ≤ p ∧ p < m) : (everyN ss cast m).Perm (castN ss cast ss.length) :=
  (List.perm_ext_iff_of_nodup (every_nd nd m) (castN_nd nd _)).mpr fun q => by
    rw [mem_every, mem_castN]
    constructor
    · rintro ⟨p, hp, h⟩
      obtain ⟨k, h1, h2, h3, h4⟩ := mem_evN.mp h
      exact ⟨k, h1, h2, h3, by rw [h4]; exact fun z => nomatch z⟩
    · rintro ⟨k, h1, h2, h3, h4⟩
      cases e : castI cast q.2 with
      | none => exact absurd e h4
      | some p =>
        have mp : some p ∈ cast := by
          unfold castI at e
          rw [List.getD_eq_getElem?_getD] at e
          cases e2 : cast[q.2.toNat]? with
          | none => rw [e2] at e; cases e
          | some c =>
            rw [e2] at e
            have e : c = some p := e
            rw [← e]
            exact List.mem_of_getElem? e2
        obtain ⟨p0, p1⟩ := C p mp
        refine ⟨p.toNat, by omega, mem_evN.mpr ⟨k, h1, h2, h3, ?_⟩⟩
        rw [e, Int.toNat_of_nonneg p0]
theorem len_castN {ss : List Scn} {m : Nat} (h : SsOk ss m) (cast) : ∀ n, (castN ss cast n).length ≤ 8 * n
  | 0 => Nat.le_refl _
  | n + 1 => by
    have := len_castN h cast n
    have l := (h.sc n).2
    have := List.length_filter_le (fun x => !decide (castI cast x = none)) (sc ss n).ns
    rw [castN, List.length_append]
    unfold castS
    rw [List.length_map]
    omega
theorem c_isntC (a : Option Int) : isNon (castD a) = decide (a = none) := by
  cases a <;> rfl
theorem f_lenset2 {ps : List (Int × Int)} (h1 : ps.all smallP = true) (h2 : ps.Nodup) (h3 : ps.length ≤ 76) : biD .lenset [.lst (ps.map pD)] = fi (ps.length : Nat) := by
  cases ps with
  | nil => rfl
  | cons p r =>
    have e1 : intsD ((p :: r).map pD) = none := rfl
    have e2 : strsD ((p :: r).map pD) = none := rfl
    have e3 : ∀ l : List (Int × Int), pairsD (l.map pD) = some l := fun l => by
      induction l with
      | nil => rfl
      | cons q l ih =>
        rw [List.map_cons, pD, pairsD, ih]
        rfl
    simp only [biD, e1, e2, e3, h1, h2, h3, and_self, if_true]
abbrev due21 : List IS := [.set (.nm 8) (.bin .add (.var 8) (.lc (.tup [.var 9, .var 10]) (.nm 10) .seq [.ix (.ix (.ix (.var 1) (.int 2)) (.var 9)) (.int 3)] [.cmp .eq (.ix (.var 2) (.var 10)) (.var 4)])),
      .frz 8]
theorem loop21 (cl) (rx : D × D × D) (ps : List Part) (ss : List Scn) (cast : List (Option Int)) (p : Int) (h : SsOk ss cast.length) (s : D) (j3 j5 j6 j7 j9 j10 j11 : Option (Kd × D)) :
    ∃ j9' j10', forRun (forF cl (.nm 9) due21) ((rangeL 0 ss.length).map .int) [fd s, fd (bookG rx ps ss), fd (.lst (cast.map castD)), j3, fi p, j5, j6, j7, fd (.lst []), j9, j10, j11] =
      some (.nx [fd s, fd (bookG rx ps ss), fd (.lst (cast.map castD)), j3, fi p, j5, j6, j7, fd (.lst ((eveL ss cast p).map pD)), j9', j10', j11]) := by
  have L := forRun_J (F := forF cl (.nm 9) due21) ((rangeL 0 ss.length).map .int)
    (fun n ρ => ∃ (j9 j10 : Option (Kd × D)), ρ = [fd s, fd (bookG rx ps ss), fd (.lst (cast.map castD)), j3, fi p, j5, j6, j7, fd (.lst ((evN ss cast p n).map pD)), j9, j10, j11])
    [fd s, fd (bookG rx ps ss), fd (.lst (cast.map castD)), j3, fi p, j5, j6, j7, fd (.lst []), j9, j10, j11] ⟨_, _, rfl⟩ (by
    rintro n x ρ hx ⟨j9, j10, rfl⟩
    obtain ⟨k, hk, rfl⟩ := get_map_int hx
    obtain ⟨ek, k0, k1⟩ := get_range hk
    have ek : k = (n : Int) := by omega
    subst ek
    have hn : n < ss.length := by omega
    have a1 := at_scn hn
    have hz := h.z
    obtain ⟨q1, q2⟩ := h.sc n
    have l0 := len_evN h cast p n
    have l1 := len_evS h cast p n
    have M := lcRun_filter D.int (F := lcF cl [fd s, fd (bookG rx ps ss), fd (.lst (cast.map castD)), j3, fi p, j5, j6, j7, fd (.lst ((evN ss cast p n).map pD)), fi n, j10, j11] (.tup [.var 9, .var 10]) (.nm 10) [.cmp .eq (.ix (.var 2) (.var 10)) (.var 4)]) (fun x => pD ((n : Int), x)) (mine cast p) (sc ss n).ns (by
      intro x hx
      obtain ⟨x0, x1⟩ := q1 x hx
      have a2 := at_cast (cast := cast) x0 x1
      have ec := c_castP (castI cast x) p
      unfold mine
      simp only [EV, lcF, a2, ec]
      split <;> rfl)
    have eM : ((sc ss n).ns.filter (mine cast p)).map (fun x => pD ((n : Int), x)) = (evSL ss cast p n).map pD := by
      unfold evSL
      rw [List.map_map]
      rfl
    rw [eM] at M
    rw [evN, List.map_append]
    have cc := b_cat (xs := (evN ss cast p n).map pD) (ys := (evSL ss cast p n).map pD) (by rw [List.length_map, List.length_map]; omega)
    unfold bookG at M ⊢
    simp only [EV, forF, a1, scnD, M, cc]
    exact ⟨_, .inl rfl, _, _, rfl⟩)
  obtain ⟨ρ, e, j9, j10, rfl⟩ := L
  rw [List.length_map, len_rangeL, show ((ss.length : Int) - 0).toNat = ss.length by omega] at e
  exact ⟨_, _, e⟩
abbrev many21 : List IS := [.set (.nm 5) (.bin .add (.var 5) (.bi .len [.lc (.var 10) (.nm 10) .seq [.ix (.var 6) (.int 3)] [.cmp .isnt (.ix (.var 2) (.var 10)) (.non)]]))]
theorem count21 (cl) (ss : List Scn) (cast : List (Option Int)) (h : SsOk ss cast.length) (s bk : D) (j3 j4 j6 j7 j8 j9 j10 j11 : Option (Kd × D)) :
    ∃ j6' j10', forRun (forF cl (.nm 6) many21) (ss.map scnD) [fd s, fd bk, fd (.lst (cast.map castD)), j3, j4, fi 0, j6, j7, j8, j9, j10, j11] =
      some (.nx [fd s, fd bk, fd (.lst (cast.map castD)), j3, j4, fi ((castN ss cast ss.length).length : Nat), j6', j7, j8, j9, j10', j11]) := by
  have L := forRun_J (F := forF cl (.nm 6) many21) (ss.map scnD)
    (fun n ρ => ∃ (j6 j10 : Option (Kd × D)), ρ = [fd s, fd bk, fd (.lst (cast.map castD)), j3, j4, fi ((castN ss cast n).length : Nat), j6, j7, j8, j9, j10, j11])
    [fd s, fd bk, fd (.lst (cast.map castD)), j3, j4, fi 0, j6, j7, j8, j9, j10, j11] ⟨_, _, rfl⟩ (by
    rintro n x ρ hx ⟨j6, j10, rfl⟩
    obtain ⟨sn, hs, rfl⟩ := get_map hx
    have hn := (List.getElem?_eq_some_iff.mp hs).1
    have es : sc ss n = sn := by
      have := sc_at hn
      rw [hs] at this
      exact (Option.some.inj this).symm
    obtain ⟨q1, q2⟩ := h.sc n
    rw [es] at q1 q2
    have M := lcRun_filter D.int (F := lcF cl [fd s, fd bk, fd (.lst (cast.map castD)), j3, j4, fi ((castN ss cast n).length : Nat), fd (scnD sn), j7, j8, j9, j10, j11] (.var 10) (.nm 10) [.cmp .isnt (.ix (.var 2) (.var 10)) (.non)]) D.int (fun x => !decide (castI cast x = none)) sn.ns (by
      intro x hx
      obtain ⟨x0, x1⟩ := q1 x hx
      have a2 := at_cast (cast := cast) x0 x1
      have ec := c_isntC (castI cast x)
      generalize castD (castI cast x) = cd at a2 ec
      cases hb : decide (castI cast x = none) with
      | true =>
        rw [hb] at ec
        simp only [EV, lcF, a2, ec]
        first | done | rfl
      | false =>
        rw [hb] at ec
        simp only [EV, lcF, a2, ec]
        first | done | rfl)
    have le : (castN ss cast (n + 1)).length = (castN ss cast n).length + (sn.ns.filter fun x => !decide (castI cast x = none)).length := by
      rw [castN, List.length_append]
      unfold castS
      rw [List.length_map, es]
    rw [le, Int.natCast_add]
    generalize sn.ns.filter (fun x => !decide (castI cast x = none)) = fl at M
    generalize ((castN ss cast n).length : Int) = cn at M
    have eS : scnD sn = .tup [.str sn.nm, .int sn.mins, .int sn.aft, .tup (sn.ns.map .int)] := rfl
    have ls : biD .len [.lst (fl.map D.int)] = fi (fl.length : Nat) := by rw [f_lenL, List.length_map]
    refine ⟨[fd s, fd bk, fd (.lst (cast.map castD)), j3, j4, fi (cn + (fl.length : Nat)), fd (scnD sn), j7, j8, j9, j10, j11], .inl ?_, _, _, rfl⟩
    rw [eS] at M ⊢
    generalize D.lst (cast.map castD) = cd at M ⊢
    generalize fl.map D.int = fld at M ls
    simp only [EV, forF, M, ls])
  obtain ⟨ρ, e, j6, j10, rfl⟩ := L
  rw [List.length_map] at e
  exact ⟨_, _, e⟩
theorem law_true (ns : List Int) (hlen : ns.length ≤ 63) : evFn tbl 20 LAWN [.scr ns] = some (.fz, .bl true) := by
  have c6 : ∀ m, ∀ k : Nat, evFn tbl (m + 1) 6 [.scr ns, .int k] = fi (ns.getD k 0) := fun m k => r_cell (evFn tbl m) ns k
  have c7 : ∀ m, ∀ c k, -100000 ≤ k → k ≤ 100000 → evFn tbl (m + 1) 7 [.int c, .int k] = fi (mixB c k) := fun m c k h0 h1 => r_mixB (evFn tbl m) c k h0 h1
  have c8 : ∀ m, ∀ c k, -100000000000 ≤ k → k ≤ 100000000000 → ∃ x : Str, evFn tbl (m + 1) 8 [.int c, .int k] = fd (.str x) ∧ 1 ≤ x.length ∧ x.length ≤ 20 ∧ x.length ≠ 6 := fun m c k h0 h1 => r_name (evFn tbl m) c k h0 h1
  have c9 : ∀ m, ∀ n, evFn tbl (m + 1) 9 [.int n] = fi (minB n) := fun m n => r_minB (evFn tbl m) n
  obtain ⟨ps, pls, ss, lk, cv, d1, O⟩ := r_drawn (evFn tbl 18) ns 1 (by omega) (c6 17) (c7 17)
    (fun c k base k0 k1 => r_part (evFn tbl 17) c k base k0 k1 (c7 16) (c8 16) (c9 16))
    (fun c k base k0 k1 => r_player (evFn tbl 17) c k base k0 k1 (c7 16) (c8 16) (c9 16))
    (fun c k base many k0 k1 h0 h1 => r_scene (evFn tbl 17) c k base many k0 k1 h0 h1 (c7 16) (c8 16) (c9 16))
    (fun c one other share a b c' d e => r_draw (evFn tbl 17) c one other share a b c' d e (c7 16))
  have d1 : evFn tbl 19 14 [.scr ns, .int 1] = fd (bookG (restD pls lk cv) ps ss) := d1
  have np := O.np
  have nl := O.nl
  have nz := O.nsc
  have i0 : evFn tbl 19 6 [.scr ns, .int 0] = fi (ns.getD 0 0) := c6 18 0
  obtain ⟨cast, g1, C⟩ := r_given (evFn tbl 18) ps pls ss lk cv O (ns.getD 0 0) (c7 17)
  have g1 : evFn tbl 19 52 [bookG (restD pls lk cv) ps ss, .int (ns.getD 0 0)] = some (.ow, .lst (cast.map castD)) := g1
  have lc := C.1
  have S : SsOk ss cast.length := by rw [lc]; exact O.ss
  have k54 : ∀ p : Int, evFn tbl 19 54 [bookG (restD pls lk cv) ps ss, .lst (cast.map castD), .int p] = some (.ow, .lst ((eveL ss cast p).map pD)) := fun p => r_evening (restD pls lk cv) (evFn tbl 18) ps ss cast p S
  have nd : ∀ k, (sc ss k).ns.Nodup := fun k => by
    rcases Nat.lt_or_ge k ss.length with hk | hk
    · exact (O.sok2 _ (List.mem_of_getElem? (sc_at hk))).2
    · have : sc ss k = S0 := by
        unfold sc
        rw [List.getD_eq_getElem?_getD, List.getElem?_eq_none hk]
        rfl
      rw [this]
      exact List.nodup_nil
  have L := forRun_J (F := forF (evFn tbl 19) (.nm 4) [.set (.nm 7) (.call 54 [.var 1, .var 2, .var 4]),
    .ite (.not (.bi .isList [.var 7])) [.ret (.bl false)] [],
    .set (.nm 8) (.lst []),
    .frz 8,
    .for_ (.nm 9) .rng [.bi .len [.ix (.var 1) (.int 2)]] due21,
    .ite (.or (.cmp .ne (.var 7) (.var 8)) (.cmp .ne (.lc (.var 11) (.nm 11) .seq [.var 7] [.not (.bi .isTuple [.var 11])]) (.lst []))) [.ret (.bl false)] [],
    .set (.nm 3) (.bin .add (.var 3) (.var 7)),
    .frz 3,
    .ms .append 7 [.non],
    .ite (.cmp .ne (.call 54 [.var 1, .var 2, .var 4]) (.var 8)) [.ret (.bl false)] []]) ((rangeL 0 pls.length).map .int)
    (fun n ρ => (everyN ss cast n).length ≤ 128 * n ∧ ∃ (j4 j7 j8 j9 j10 : Option (Kd × D)), ρ = [fd (.scr ns), fd (bookG (restD pls lk cv) ps ss), fd (.lst (cast.map castD)), fd (.lst ((everyN ss cast n).map pD)), j4, none, none, j7, j8, j9, j10, none])
    [fd (.scr ns), fd (bookG (restD pls lk cv) ps ss), fd (.lst (cast.map castD)), fd (.lst []), none, none, none, none, none, none, none, none] ⟨Nat.le_refl _, _, _, _, _, _, rfl⟩ (by
    rintro n x ρ hx ⟨zn, j4, j7, j8, j9, j10, rfl⟩
    obtain ⟨p, hp, rfl⟩ := get_map_int hx
    obtain ⟨ep, p0, p1⟩ := get_range hp
    have ep : p = (n : Int) := by omega
    subst ep
    have a54 := k54 n
    have eE := len_eveL S cast (n : Nat)
    obtain ⟨j9', j10', eL⟩ := loop21 (evFn tbl 19) (restD pls lk cv) ps ss cast (n : Nat) S (.scr ns) (fd (.lst ((everyN ss cast n).map pD))) none none (ow (.lst ((eveL ss cast (n : Nat)).map pD))) j9 j10 none
    have le : (everyN ss cast (n + 1)).length = (everyN ss cast n).length + (eveL ss cast (n : Nat)).length := by rw [everyN_succ, List.length_append]
    have cat : binD .add (.lst ((everyN ss cast n).map pD)) (.lst ((eveL ss cast (n : Nat)).map pD)) = some (.ow, .lst ((everyN ss cast (n + 1)).map pD)) := by
      rw [b_cat (by rw [List.length_map, List.length_map]; omega), everyN_succ, List.map_append]
    generalize eveL ss cast (n : Nat) = ev at a54 eE eL le cat
    have N := lcRun_filter pD (F := lcF (evFn tbl 19) [fd (.scr ns), fd (bookG (restD pls lk cv) ps ss), fd (.lst (cast.map castD)), fd (.lst ((everyN ss cast n).map pD)), fi n, none, none, ow (.lst (ev.map pD)), fd (.lst (ev.map pD)), j9', j10', none] (.var 11) (.nm 11) [.not (.bi .isTuple [.var 11])]) pD (fun _ => false) ev (by
      intro q hq
      simp only [EV, lcF, pD])
    rw [List.filter_eq_nil_iff.mpr (fun _ _ => by simp)] at N
    have n1 : cmpD .ne (.lst (ev.map pD)) (.lst (ev.map pD)) = some false := c_neRf (by simp only [D.nod, nods_pl]) (by
      have := dep_pl ev
      simp only [D.dep]
      omega)
    have n0 : cmpD .ne (.lst []) (.lst []) = some false := c_neRf rfl (by simp [D.dep, D.deps])
    have ap := m_app (xs := ev.map pD) (d := .non) (by rw [List.length_map]; omega)
    have x2 : ixD (bookG (restD pls lk cv) ps ss) (.int 2) = some (.tup (ss.map scnD)) := by unfold bookG; rw [x_tup, at_2]
    have l2 : biD .len [.tup (ss.map scnD)] = fi (ss.length : Nat) := by rw [f_lenT, List.length_map]
    have kr := k_rng1 (show -100000 ≤ (ss.length : Int) by omega) (by omega)
    refine ⟨[fd (.scr ns), fd (bookG (restD pls lk cv) ps ss), fd (.lst (cast.map castD)), fd (.lst ((everyN ss cast (n + 1)).map pD)), fi n, none, none, ow (.lst (ev.map pD ++ [.non])), fd (.lst (ev.map pD)), j9', j10', none], .inl ?_, by omega, _, _, _, _, _, rfl⟩
    simp only [List.map_nil] at N
    generalize (everyN ss cast (n + 1)).map pD = e1 at cat ⊢
    generalize (everyN ss cast n).map pD = e0 at cat N eL ⊢
    generalize due21 = bd at eL ⊢
    generalize ev.map pD = evd at *
    generalize bookG (restD pls lk cv) ps ss = bk at *
    generalize D.lst (cast.map castD) = cd at *
    generalize (rangeL 0 (ss.length : Int)).map D.int = rg at eL kr
    generalize (ss.length : Int) = sl at kr l2
    generalize evFn tbl 19 = f at *
    simp only [EV, forF, a54, x2, l2, kr, eL, n1, N, n0, cat, ap])
  obtain ⟨ρ, e, _, j4, j7, j8, j9, j10, rfl⟩ := L
  rw [List.length_map, len_rangeL, show ((pls.length : Int) - 0).toNat = pls.length by omega] at e
  obtain ⟨j6', j10', eM⟩ := count21 (evFn tbl 19) ss cast S (.scr ns) (bookG (restD pls lk cv) ps ss) (fd (.lst ((everyN ss cast pls.length).map pD))) j4 none j7 j8 j9 j10 none
  have pm := every_perm (m := pls.length) nd fun p h => C.2 p h
  have lE := pm.length_eq
  have lC := len_castN S cast ss.length
  have ls : biD .lenset [.lst ((everyN ss cast pls.length).map pD)] = fi ((everyN ss cast pls.length).length : Nat) := f_lenset2 (by
    rw [List.all_eq_true]
    intro q hq
    obtain ⟨k, h1, h2, h3, _⟩ := mem_castN.mp (pm.mem_iff.mp hq)
    have := (S.sc k).1 _ h3
    unfold smallP
    simp only [Bool.and_eq_true, decide_eq_true_eq]
    omega) (every_nd nd _) (by omega)
  have ln : biD .len [.lst ((everyN ss cast pls.length).map pD)] = fi ((everyN ss cast pls.length).length : Nat) := by rw [f_lenL, List.length_map]
  rw [lE] at ls ln
  have ee : cmpD .eq (.int ((castN ss cast ss.length).length : Nat)) (.int ((castN ss cast ss.length).length : Nat)) = some true := by rw [c_eqI]; simp
  have x1 : ixD (bookG (restD pls lk cv) ps ss) (.int 1) = some (.tup (pls.map plyD)) := by unfold bookG; rw [x_tup, at_1]
  have l1 : biD .len [.tup (pls.map plyD)] = fi (pls.length : Nat) := by rw [f_lenT, List.length_map]
  have x2 : ixD (bookG (restD pls lk cv) ps ss) (.int 2) = some (.tup (ss.map scnD)) := by unfold bookG; rw [x_tup, at_2]
  have kr := k_rng1 (show -100000 ≤ (pls.length : Int) by omega) (by omega)
  have ks : srcD .seq [.tup (ss.map scnD)] = some (ss.map scnD) := k_seqT _
  refine ev_to rfl (run_to rfl ?_)
  show finD (evSs (evFn tbl 19) b55 [fd (.scr ns), none, none, none, none, none, none, none, none, none, none, none]) = _
  have sp : b55 = [.set (.nm 1) (.call 14 [.var 0, .int 1]), .frz 1, .set (.nm 2) (.call 52 [.var 1, .call 6 [.var 0, .int 0]]), .frz 2, .set (.nm 3) (.lst []), .frz 3,
    .for_ (.nm 4) .rng [.bi .len [.ix (.var 1) (.int 1)]] [.set (.nm 7) (.call 54 [.var 1, .var 2, .var 4]),
    .ite (.not (.bi .isList [.var 7])) [.ret (.bl false)] [],
    .set (.nm 8) (.lst []),
    .frz 8,
    .for_ (.nm 9) .rng [.bi .len [.ix (.var 1) (.int 2)]] due21,
    .ite (.or (.cmp .ne (.var 7) (.var 8)) (.cmp .ne (.lc (.var 11) (.nm 11) .seq [.var 7] [.not (.bi .isTuple [.var 11])]) (.lst []))) [.ret (.bl false)] [],
    .set (.nm 3) (.bin .add (.var 3) (.var 7)),
    .frz 3,
    .ms .append 7 [.non],
    .ite (.cmp .ne (.call 54 [.var 1, .var 2, .var 4]) (.var 8)) [.ret (.bl false)] []],
    .set (.nm 5) (.int 0), .for_ (.nm 6) .seq [.ix (.var 1) (.int 2)] many21, .ret (.and (.cmp .eq (.bi .len [.var 3]) (.var 5)) (.cmp .eq (.bi .lenset [.var 3]) (.var 5)))] := rfl
  rw [sp]
  generalize hB : ([.set (.nm 7) (.call 54 [.var 1, .var 2, .var 4]),
    .ite (.not (.bi .isList [.var 7])) [.ret (.bl false)] [],
    .set (.nm 8) (.lst []),
    .frz 8,
    .for_ (.nm 9) .rng [.bi .len [.ix (.var 1) (.int 2)]] due21,
    .ite (.or (.cmp .ne (.var 7) (.var 8)) (.cmp .ne (.lc (.var 11) (.nm 11) .seq [.var 7] [.not (.bi .isTuple [.var 11])]) (.lst []))) [.ret (.bl false)] [],
    .set (.nm 3) (.bin .add (.var 3) (.var 7)),
    .frz 3,
    .ms .append 7 [.non],
    .ite (.cmp .ne (.call 54 [.var 1, .var 2, .var 4]) (.var 8)) [.ret (.bl false)] []] : List IS) = bd at e ⊢
  generalize many21 = bd2 at eM ⊢
  generalize hE : (everyN ss cast pls.length).map pD = ed at e eM ls ln
  generalize ((castN ss cast ss.length).length : Int) = cn at eM ls ln ee
  generalize bookG (restD pls lk cv) ps ss = bk at *
  generalize D.lst (cast.map castD) = cd at *
  generalize (rangeL 0 (pls.length : Int)).map D.int = rg at e kr
  generalize (pls.length : Int) = pl at kr l1
  generalize ss.map scnD = sd at eM ks x2
  generalize evFn tbl 19 = f at *
  simp only [EV, d1, i0, g1, x1, l1, kr, e, x2, ks, eM, ln, ls, ee]
end RL

namespace RL
open PySem PySem.Spec PyProof.Rows L2 R
def topS (i : Nat) : Stmt := PySem.Challenge.pw_troupe_k21_evenings.main.body.getD i (.Pass ⟨0, 0, 0, 0⟩)
def td54 : TD := ⟨54, "evening_of", topS 1, ["book", "casting", "player", "found", "scene", "row", "part"], ["book", "casting", "player"], fn54, none⟩
def td6 : TD := ⟨6, "_law_cell_at", topS 3, ["_law_script", "_law_k"], ["_law_script", "_law_k"], fn6, none⟩
def td7 : TD := ⟨7, "_law_mix", topS 4, ["_law_cell", "_law_k"], ["_law_cell", "_law_k"], fn7, none⟩
def td8 : TD := ⟨8, "_law_name", topS 5, ["_law_cell", "_law_k", "_law_letter", "_law_tail", "_law_at"], ["_law_cell", "_law_k"], fn8, none⟩
def td9 : TD := ⟨9, "_law_minutes", topS 6, ["_law_number"], ["_law_number"], fn9, none⟩
def td10 : TD := ⟨10, "_law_part", topS 7, ["_law_cell", "_law_k", "_law_base", "_law_number", "_law_voice"], ["_law_cell", "_law_k", "_law_base"], fn10, none⟩
def td11 : TD := ⟨11, "_law_player", topS 8, ["_law_cell", "_law_k", "_law_base", "_law_number", "_law_voices"], ["_law_cell", "_law_k", "_law_base"], fn11, none⟩
def td12 : TD := ⟨12, "_law_scene", topS 9, ["_law_cell", "_law_k", "_law_base", "_law_many", "_law_number", "_law_some", "_law_middle", "_law_pause", "_law_j"], ["_law_cell", "_law_k", "_law_base", "_law_many"], fn12, none⟩
def td13 : TD := ⟨13, "_law_pairs", topS 10, ["_law_cell", "_law_one", "_law_other", "_law_share", "_law_found", "_law_k", "_law_middle", "_law_number", "_law_pair"], ["_law_cell", "_law_one", "_law_other", "_law_share"], fn13, none⟩
def td14 : TD := ⟨14, "_law_drawn", topS 11, ["_law_script", "_law_at", "_law_cells", "_law_many", "_law_parts", "_law_players", "_law_scenes", "_law_likes", "_law_covers", "_law_k", "_law_cell", "_law_player_here", "_law_part_here"], ["_law_script", "_law_at"], fn14, none⟩
def td52 : TD := ⟨52, "_law_given", topS 12, ["_law_book", "_law_cell", "_law_found", "_law_k", "_law_number", "_law_able", "_law_j"], ["_law_book", "_law_cell"], fn52, none⟩
def td55 : TD := ⟨55, "law", topS 13, ["_law_script", "_law_book", "_law_casting", "_law_every", "_law_player_here", "_law_many", "_law_scene_here", "_law_found", "_law_due", "_law_s", "_law_part_here", "_law_row"], ["_law_script"], fn55, none⟩
def tds : List TD := [td54, td6, td7, td8, td9, td10, td11, td12, td13, td14, td52, td55]
def fns : List (Str × Nat) := [("evening_of", 54), ("_law_cell_at", 6), ("_law_mix", 7), ("_law_name", 8), ("_law_minutes", 9), ("_law_part", 10), ("_law_player", 11), ("_law_scene", 12), ("_law_pairs", 13), ("_law_drawn", 14), ("_law_given", 52), ("law", 55)]
def xts : Xt := ⟨[], [], [], [], [], [], [], []⟩
def gls : List (Str × D) := []
theorem tds_look : ∀ t ∈ tds, tbl.lookup t.f = some t.fn := by
  intro t m
  simp only [tds, List.mem_cons, List.not_mem_nil, or_false] at m
  rcases m with rfl | rfl | rfl | rfl | rfl | rfl | rfl | rfl | rfl | rfl | rfl | rfl <;> rfl
theorem fns_td : ∀ p ∈ fns, ∃ t ∈ tds, t.nm = p.1 ∧ t.f = p.2 ∧ t.qual = none := by
  intro p m
  simp only [fns, List.mem_cons, List.not_mem_nil, or_false] at m
  rcases m with rfl | rfl | rfl | rfl | rfl | rfl | rfl | rfl | rfl | rfl | rfl | rfl
  · exact ⟨td54, by unfold tds; simp only [List.mem_cons, true_or, or_true], rfl, rfl, rfl⟩
  · exact ⟨td6, by unfold tds; simp only [List.mem_cons, true_or, or_true], rfl, rfl, rfl⟩
  · exact ⟨td7, by unfold tds; simp only [List.mem_cons, true_or, or_true], rfl, rfl, rfl⟩
  · exact ⟨td8, by unfold tds; simp only [List.mem_cons, true_or, or_true], rfl, rfl, rfl⟩
  · exact ⟨td9, by unfold tds; simp only [List.mem_cons, true_or, or_true], rfl, rfl, rfl⟩
  · exact ⟨td10, by unfold tds; simp only [List.mem_cons, true_or, or_true], rfl, rfl, rfl⟩
  · exact ⟨td11, by unfold tds; simp only [List.mem_cons, true_or, or_true], rfl, rfl, rfl⟩
  · exact ⟨td12, by unfold tds; simp only [List.mem_cons, true_or, or_true], rfl, rfl, rfl⟩
  · exact ⟨td13, by unfold tds; simp only [List.mem_cons, true_or, or_true], rfl, rfl, rfl⟩
  · exact ⟨td14, by unfold tds; simp only [List.mem_cons, true_or, or_true], rfl, rfl, rfl⟩
  · exact ⟨td52, by unfold tds; simp only [List.mem_cons, true_or, or_true], rfl, rfl, rfl⟩
  · exact ⟨td55, by unfold tds; simp only [List.mem_cons, true_or, or_true], rfl, rfl, rfl⟩
theorem good54 : td54.good tbl fns gls xts = true := by decide +kernel
theorem good6 : td6.good tbl fns gls xts = true := by decide +kernel
theorem good7 : td7.good tbl fns gls xts = true := by decide +kernel
theorem good8 : td8.good tbl fns gls xts = true := by decide +kernel
theorem good9 : td9.good tbl fns gls xts = true := by decide +kernel
theorem good10 : td10.good tbl fns gls xts = true := by decide +kernel
theorem good11 : td11.good tbl fns gls xts = true := by decide +kernel
theorem good12 : td12.good tbl fns gls xts = true := by decide +kernel
theorem good13 : td13.good tbl fns gls xts = true := by decide +kernel
theorem good14 : td14.good tbl fns gls xts = true := by decide +kernel
theorem good52 : td52.good tbl fns gls xts = true := by decide +kernel
theorem good55 : td55.good tbl fns gls xts = true := by decide +kernel
theorem tds_good : ∀ t ∈ tds, t.good tbl fns gls xts = true := by
  intro t m
  simp only [tds, List.mem_cons, List.not_mem_nil, or_false] at m
  rcases m with rfl | rfl | rfl | rfl | rfl | rfl | rfl | rfl | rfl | rfl | rfl | rfl
  · exact good54
  · exact good6
  · exact good7
  · exact good8
  · exact good9
  · exact good10
  · exact good11
  · exact good12
  · exact good13
  · exact good14
  · exact good52
  · exact good55
set_option maxRecDepth 100000
set_option maxHeartbeats 40000000
theorem all_at {l : PySem.W.OpenLaw} {w : World} {K : PySem.W.Frag} {h : Heap} {mg : Str → Option Value} {fa : Addr} (X : K.In h) (G : h.Ns mainGlobals mg) (hfa : mg "law" = some (.ref fa))
    {f54 f6 f7 f8 f9 f10 f11 f12 f13 f14 f52 f55 : Addr} {od54 an54 od6 an6 od7 an7 od8 an8 od9 an9 od10 an10 od11 an11 od12 an12 od13 an13 od14 an14 od52 an52 od55 an55 : Option Addr} {sl54 sl6 sl7 sl8 sl9 sl10 sl11 sl12 sl13 sl14 sl52 sl55 : Array (Option Value)} {oc54 kV54 dc54 pm54 cd54 ct54 oc6 kV6 dc6 pm6 cd6 ct6 oc7 kV7 dc7 pm7 cd7 ct7 oc8 kV8 dc8 pm8 cd8 ct8 oc9 kV9 dc9 pm9 cd9 ct9 oc10 kV10 dc10 pm10 cd10 ct10 oc11 kV11 dc11 pm11 cd11 ct11 oc12 kV12 dc12 pm12 cd12 ct12 oc13 kV13 dc13 pm13 cd13 ct13 oc14 kV14 dc14 pm14 cd14 ct14 oc52 kV52 dc52 pm52 cd52 ct52 oc55 kV55 dc55 pm55 cd55 ct55 : Value}
    (a54 : PySem.W.nsIn K mainGlobals "evening_of" = some (some (.ref f54))) (l54 : K.lookup f54 = some ⟨oc54, od54, .func (PySem.W.fnOf "evening_of" "evening_of" (defArgs (topS 1)) (defBody (topS 1)) (defScope (topS 1)) .none kV54 dc54 pm54 an54 cd54 ct54), sl54⟩) (c54 : PySem.W.codeIn K cd54 "evening_of" = true) (k54 : PySem.W.keepIn K (.ref f54) = true)
    (a6 : PySem.W.nsIn K mainGlobals "_law_cell_at" = some (some (.ref f6))) (l6 : K.lookup f6 = some ⟨oc6, od6, .func (PySem.W.fnOf "_law_cell_at" "_law_cell_at" (defArgs (topS 3)) (defBody (topS 3)) (defScope (topS 3)) .none kV6 dc6 pm6 an6 cd6 ct6), sl6⟩) (c6 : PySem.W.codeIn K cd6 "_law_cell_at" = true) (k6 : PySem.W.keepIn K (.ref f6) = true)
    (a7 : PySem.W.nsIn K mainGlobals "_law_mix" = some (some (.ref f7))) (l7 : K.lookup f7 = some ⟨oc7, od7, .func (PySem.W.fnOf "_law_mix" "_law_mix" (defArgs (topS 4)) (defBody (topS 4)) (defScope (topS 4)) .none kV7 dc7 pm7 an7 cd7 ct7), sl7⟩) (c7 : PySem.W.codeIn K cd7 "_law_mix" = true) (k7 : PySem.W.keepIn K (.ref f7) = true)
    (a8 : PySem.W.nsIn K mainGlobals "_law_name" = some (some (.ref f8))) (l8 : K.lookup f8 = some ⟨oc8, od8, .func (PySem.W.fnOf "_law_name" "_law_name" (defArgs (topS 5)) (defBody (topS 5)) (defScope (topS 5)) .none kV8 dc8 pm8 an8 cd8 ct8), sl8⟩) (c8 : PySem.W.codeIn K cd8 "_law_name" = true) (k8 : PySem.W.keepIn K (.ref f8) = true)
    (a9 : PySem.W.nsIn K mainGlobals "_law_minutes" = some (some (.ref f9))) (l9 : K.lookup f9 = some ⟨oc9, od9, .func (PySem.W.fnOf "_law_minutes" "_law_minutes" (defArgs (topS 6)) (defBody (topS 6)) (defScope (topS 6)) .none kV9 dc9 pm9 an9 cd9 ct9), sl9⟩) (c9 : PySem.W.codeIn K cd9 "_law_minutes" = true) (k9 : PySem.W.keepIn K (.ref f9) = true)
    (a10 : PySem.W.nsIn K mainGlobals "_law_part" = some (some (.ref f10))) (l10 : K.lookup f10 = some ⟨oc10, od10, .func (PySem.W.fnOf "_law_part" "_law_part" (defArgs (topS 7)) (defBody (topS 7)) (defScope (topS 7)) .none kV10 dc10 pm10 an10 cd10 ct10), sl10⟩) (c10 : PySem.W.codeIn K cd10 "_law_part" = true) (k10 : PySem.W.keepIn K (.ref f10) = true)
    (a11 : PySem.W.nsIn K mainGlobals "_law_player" = some (some (.ref f11))) (l11 : K.lookup f11 = some ⟨oc11, od11, .func (PySem.W.fnOf "_law_player" "_law_player" (defArgs (topS 8)) (defBody (topS 8)) (defScope (topS 8)) .none kV11 dc11 pm11 an11 cd11 ct11), sl11⟩) (c11 : PySem.W.codeIn K cd11 "_law_player" = true) (k11 : PySem.W.keepIn K (.ref f11) = true)
    (a12 : PySem.W.nsIn K mainGlobals "_law_scene" = some (some (.ref f12))) (l12 : K.lookup f12 = some ⟨oc12, od12, .func (PySem.W.fnOf "_law_scene" "_law_scene" (defArgs (topS 9)) (defBody (topS 9)) (defScope (topS 9)) .none kV12 dc12 pm12 an12 cd12 ct12), sl12⟩) (c12 : PySem.W.codeIn K cd12 "_law_scene" = true) (k12 : PySem.W.keepIn K (.ref f12) = true)
    (a13 : PySem.W.nsIn K mainGlobals "_law_pairs" = some (some (.ref f13))) (l13 : K.lookup f13 = some ⟨oc13, od13, .func (PySem.W.fnOf "_law_pairs" "_law_pairs" (defArgs (topS 10)) (defBody (topS 10)) (defScope (topS 10)) .none kV13 dc13 pm13 an13 cd13 ct13), sl13⟩) (c13 : PySem.W.codeIn K cd13 "_law_pairs" = true) (k13 : PySem.W.keepIn K (.ref f13) = true)
    (a14 : PySem.W.nsIn K mainGlobals "_law_drawn" = some (some (.ref f14))) (l14 : K.lookup f14 = some ⟨oc14, od14, .func (PySem.W.fnOf "_law_drawn" "_law_drawn" (defArgs (topS 11)) (defBody (topS 11)) (defScope (topS 11)) .none kV14 dc14 pm14 an14 cd14 ct14), sl14⟩) (c14 : PySem.W.codeIn K cd14 "_law_drawn" = true) (k14 : PySem.W.keepIn K (.ref f14) = true)
    (a52 : PySem.W.nsIn K mainGlobals "_law_given" = some (some (.ref f52))) (l52 : K.lookup f52 = some ⟨oc52, od52, .func (PySem.W.fnOf "_law_given" "_law_given" (defArgs (topS 12)) (defBody (topS 12)) (defScope (topS 12)) .none kV52 dc52 pm52 an52 cd52 ct52), sl52⟩) (c52 : PySem.W.codeIn K cd52 "_law_given" = true) (k52 : PySem.W.keepIn K (.ref f52) = true)
    (a55 : PySem.W.nsIn K mainGlobals "law" = some (some (.ref f55))) (l55 : K.lookup f55 = some ⟨oc55, od55, .func (PySem.W.fnOf "law" "law" (defArgs (topS 13)) (defBody (topS 13)) (defScope (topS 13)) .none kV55 dc55 pm55 an55 cd55 ct55), sl55⟩) (c55 : PySem.W.codeIn K cd55 "law" = true) (k55 : PySem.W.keepIn K (.ref f55) = true)
    (z0 : PySem.W.nsIn K mainGlobals "len" = some none) (z1 : PySem.W.nsIn K mainGlobals "tuple" = some none) (z2 : PySem.W.nsIn K mainGlobals "list" = some none) (z3 : PySem.W.nsIn K mainGlobals "int" = some none) (z4 : PySem.W.nsIn K mainGlobals "str" = some none) (z5 : PySem.W.nsIn K mainGlobals "all" = some none) (z6 : PySem.W.nsIn K mainGlobals "max" = some none) (z7 : PySem.W.nsIn K mainGlobals "min" = some none) (z8 : PySem.W.nsIn K mainGlobals "sum" = some none) (z9 : PySem.W.nsIn K mainGlobals "isinstance" = some none) (z10 : PySem.W.nsIn K mainGlobals "set" = some none) (z11 : PySem.W.nsIn K mainGlobals "range" = some none) (z12 : PySem.W.nsIn K mainGlobals "enumerate" = some none) (z13 : PySem.W.nsIn K mainGlobals "zip" = some none) (z14 : PySem.W.nsIn K mainGlobals "bool" = some none) (z15 : PySem.W.nsIn K mainGlobals "sorted" = some none) (z16 : PySem.W.nsIn K mainGlobals "reversed" = some none) (z17 : PySem.W.nsIn K mainGlobals "dict" = some none) (z18 : PySem.W.nsIn K mainGlobals "ord" = some none)
    : ∃ fd : FuncData, (∀ (s : Shared) (v : Value), BindsTo s fd ⟨[v], []⟩ [("_law_script", v)]) ∧ ∀ base : Heap, K.In base → base.Ns mainGlobals mg → FnOk l.prog w K mg base (L2.CX l.prog w) (2 * 20) fa fd ["_law_script"] (spEv tbl K 20 55) := by
  have e := hfa.symm.trans (PySem.W.mg_of X G a55)
  cases e
  have F54 := fun_mk (st := topS 1) l54 c54 k54
  have at54 : td54.At K mg f54 _ := ⟨F54, fun _ => PySem.W.mg_of X G a54, F54.binds (ps := ["book", "casting", "player"]) fun _ _ _ _ _ _ us hl => match us, hl with | [_, _, _], _ => rfl⟩
  have F6 := fun_mk (st := topS 3) l6 c6 k6
  have at6 : td6.At K mg f6 _ := ⟨F6, fun _ => PySem.W.mg_of X G a6, F6.binds (ps := ["_law_script", "_law_k"]) fun _ _ _ _ _ _ us hl => match us, hl with | [_, _], _ => rfl⟩
  have F7 := fun_mk (st := topS 4) l7 c7 k7
  have at7 : td7.At K mg f7 _ := ⟨F7, fun _ => PySem.W.mg_of X G a7, F7.binds (ps := ["_law_cell", "_law_k"]) fun _ _ _ _ _ _ us hl => match us, hl with | [_, _], _ => rfl⟩
  have F8 := fun_mk (st := topS 5) l8 c8 k8
  have at8 : td8.At K mg f8 _ := ⟨F8, fun _ => PySem.W.mg_of X G a8, F8.binds (ps := ["_law_cell", "_law_k"]) fun _ _ _ _ _ _ us hl => match us, hl with | [_, _], _ => rfl⟩
  have F9 := fun_mk (st := topS 6) l9 c9 k9
  have at9 : td9.At K mg f9 _ := ⟨F9, fun _ => PySem.W.mg_of X G a9, F9.binds (ps := ["_law_number"]) fun _ _ _ _ _ _ us hl => match us, hl with | [_], _ => rfl⟩
  have F10 := fun_mk (st := topS 7) l10 c10 k10
  have at10 : td10.At K mg f10 _ := ⟨F10, fun _ => PySem.W.mg_of X G a10, F10.binds (ps := ["_law_cell", "_law_k", "_law_base"]) fun _ _ _ _ _ _ us hl => match us, hl with | [_, _, _], _ => rfl⟩
  have F11 := fun_mk (st := topS 8) l11 c11 k11
  have at11 : td11.At K mg f11 _ := ⟨F11, fun _ => PySem.W.mg_of X G a11, F11.binds (ps := ["_law_cell", "_law_k", "_law_base"]) fun _ _ _ _ _ _ us hl => match us, hl with | [_, _, _], _ => rfl⟩
  have F12 := fun_mk (st := topS 9) l12 c12 k12
  have at12 : td12.At K mg f12 _ := ⟨F12, fun _ => PySem.W.mg_of X G a12, F12.binds (ps := ["_law_cell", "_law_k", "_law_base", "_law_many"]) fun _ _ _ _ _ _ us hl => match us, hl with | [_, _, _, _], _ => rfl⟩
  have F13 := fun_mk (st := topS 10) l13 c13 k13
  have at13 : td13.At K mg f13 _ := ⟨F13, fun _ => PySem.W.mg_of X G a13, F13.binds (ps := ["_law_cell", "_law_one", "_law_other", "_law_share"]) fun _ _ _ _ _ _ us hl => match us, hl with | [_, _, _, _], _ => rfl⟩
  have F14 := fun_mk (st := topS 11) l14 c14 k14
  have at14 : td14.At K mg f14 _ := ⟨F14, fun _ => PySem.W.mg_of X G a14, F14.binds (ps := ["_law_script", "_law_at"]) fun _ _ _ _ _ _ us hl => match us, hl with | [_, _], _ => rfl⟩
  have F52 := fun_mk (st := topS 12) l52 c52 k52
  have at52 : td52.At K mg f52 _ := ⟨F52, fun _ => PySem.W.mg_of X G a52, F52.binds (ps := ["_law_book", "_law_cell"]) fun _ _ _ _ _ _ us hl => match us, hl with | [_, _], _ => rfl⟩
  have F55 := fun_mk (st := topS 13) l55 c55 k55
  have at55 : td55.At K mg fa _ := ⟨F55, fun _ => PySem.W.mg_of X G a55, F55.binds (ps := ["_law_script"]) fun _ _ _ _ _ _ us hl => match us, hl with | [_], _ => rfl⟩
  refine ⟨PySem.W.fnOf "law" "law" (defArgs (topS 13)) (defBody (topS 13)) (defScope (topS 13)) .none kV55 dc55 pm55 an55 cd55 ct55, fun s v => .of_eq rfl, fun base _ _ => ?_⟩
  have hxt : XtOk K mg xts := ⟨(fun c m => nomatch m), (fun c m => nomatch m), (fun c m => nomatch m), (fun c m => nomatch m), (fun c m => nomatch m)⟩
  have hcl : ClsAt K mg tds xts := by
    refine ⟨fun p m => ?_, fun p m => ?_, fun p m => ?_⟩
    · cases m
    · cases m
    · cases m
  refine tab_ok (tds := tds) (gls := gls) (xt := xts) hxt hcl tbl fns tds_look fns_td tds_good (fun t m => ?_) (fun x m => ?_) (fun p m => ?_) 20 td55 (by unfold tds; simp only [List.mem_cons, true_or, or_true]) fa _ at55
  · simp only [tds, List.mem_cons, List.not_mem_nil, or_false] at m
    rcases m with rfl | rfl | rfl | rfl | rfl | rfl | rfl | rfl | rfl | rfl | rfl | rfl
    · exact ⟨_, _, at54⟩
    · exact ⟨_, _, at6⟩
    · exact ⟨_, _, at7⟩
    · exact ⟨_, _, at8⟩
    · exact ⟨_, _, at9⟩
    · exact ⟨_, _, at10⟩
    · exact ⟨_, _, at11⟩
    · exact ⟨_, _, at12⟩
    · exact ⟨_, _, at13⟩
    · exact ⟨_, _, at14⟩
    · exact ⟨_, _, at52⟩
    · exact ⟨_, _, at55⟩
  · simp only [biNames, List.mem_cons, List.not_mem_nil, or_false] at m
    rcases m with rfl | rfl | rfl | rfl | rfl | rfl | rfl | rfl | rfl | rfl | rfl | rfl | rfl | rfl | rfl | rfl | rfl | rfl | rfl
    · exact PySem.W.mg_none_of X G z0
    · exact PySem.W.mg_none_of X G z1
    · exact PySem.W.mg_none_of X G z2
    · exact PySem.W.mg_none_of X G z3
    · exact PySem.W.mg_none_of X G z4
    · exact PySem.W.mg_none_of X G z5
    · exact PySem.W.mg_none_of X G z6
    · exact PySem.W.mg_none_of X G z7
    · exact PySem.W.mg_none_of X G z8
    · exact PySem.W.mg_none_of X G z9
    · exact PySem.W.mg_none_of X G z10
    · exact PySem.W.mg_none_of X G z11
    · exact PySem.W.mg_none_of X G z12
    · exact PySem.W.mg_none_of X G z13
    · exact PySem.W.mg_none_of X G z14
    · exact PySem.W.mg_none_of X G z15
    · exact PySem.W.mg_none_of X G z16
    · exact PySem.W.mg_none_of X G z17
    · exact PySem.W.mg_none_of X G z18
  · cases m
end RL
open PySem PySem.W PyProof.Rows
set_option maxRecDepth 100000 in
set_option maxHeartbeats 0 in
theorem PySem.Challenge.cw_troupe_k21_evenings_holds : PySem.Challenge.rw_troupe_k21_evenings.Holds := by
  w_on; o_law; k_head; (case hw => w_witness2)
  k_fill
  refine L2.walk_of (l := PySem.Challenge.rw_troupe_k21_evenings) (n := 63) (k := 2 * 20) (x := "_law_script") (CX := fun w => L2.CX (PySem.Challenge.rw_troupe_k21_evenings).prog w) (sp := fun w => R.spEv RL.tbl _ 20 55) rfl (by decide) rfl ⟨rfl, by decide, by decide⟩ (fun w h Y => PySem.W.kIn_of Y) ?F (fun w H a ns hl _ hS => R.law_sp hl hS (RL.law_true ns hl)) (fun _ _ _ _ _ h => R.cx_no h)
  case F =>
    intro w mg fa h KX G hmg
    refine' RL.all_at KX G hmg ?a54 ?l54 ?c54 ?k54 ?a6 ?l6 ?c6 ?k6 ?a7 ?l7 ?c7 ?k7 ?a8 ?l8 ?c8 ?k8 ?a9 ?l9 ?c9 ?k9 ?a10 ?l10 ?c10 ?k10 ?a11 ?l11 ?c11 ?k11 ?a12 ?l12 ?c12 ?k12 ?a13 ?l13 ?c13 ?k13 ?a14 ?l14 ?c14 ?k14 ?a52 ?l52 ?c52 ?k52 ?a55 ?l55 ?c55 ?k55 ?z0 ?z1 ?z2 ?z3 ?z4 ?z5 ?z6 ?z7 ?z8 ?z9 ?z10 ?z11 ?z12 ?z13 ?z14 ?z15 ?z16 ?z17 ?z18
    (case a54 => k_is)
    (case a6 => k_is)
    (case a7 => k_is)
    (case a8 => k_is)
    (case a9 => k_is)
    (case a10 => k_is)
    (case a11 => k_is)
    (case a12 => k_is)
    (case a13 => k_is)
    (case a14 => k_is)
    (case a52 => k_is)
    (case a55 => k_is)
    (case l54 => k_is)
    (case c54 => k_is)
    (case k54 => k_is)
    (case l6 => k_is)
    (case c6 => k_is)
    (case k6 => k_is)
    (case l7 => k_is)
    (case c7 => k_is)
    (case k7 => k_is)
    (case l8 => k_is)
    (case c8 => k_is)
    (case k8 => k_is)
    (case l9 => k_is)
    (case c9 => k_is)
    (case k9 => k_is)
    (case l10 => k_is)
    (case c10 => k_is)
    (case k10 => k_is)
    (case l11 => k_is)
    (case c11 => k_is)
    (case k11 => k_is)
    (case l12 => k_is)
    (case c12 => k_is)
    (case k12 => k_is)
    (case l13 => k_is)
    (case c13 => k_is)
    (case k13 => k_is)
    (case l14 => k_is)
    (case c14 => k_is)
    (case k14 => k_is)
    (case l52 => k_is)
    (case c52 => k_is)
    (case k52 => k_is)
    (case l55 => k_is)
    (case c55 => k_is)
    (case k55 => k_is)
    (case z0 => k_is)
    (case z1 => k_is)
    (case z2 => k_is)
    (case z3 => k_is)
    (case z4 => k_is)
    (case z5 => k_is)
    (case z6 => k_is)
    (case z7 => k_is)
    (case z8 => k_is)
    (case z9 => k_is)
    (case z10 => k_is)
    (case z11 => k_is)
    (case z12 => k_is)
    (case z13 => k_is)
    (case z14 => k_is)
    (case z15 => k_is)
    (case z16 => k_is)
    (case z17 => k_is)
    (case z18 => k_is)

