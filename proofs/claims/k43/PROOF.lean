import PyProof.Rows.All
import Wide.All
import OpenK.AllK
import Wide.FinOn
import HandS.ForMost
import KE.SortData
import KE.KeyNested
import KE.KDictCopyH
import HandS.Wide
import HandS.TupAny
import HandS.Style
import HandS.IsInst
import HandS.Flow
import PyProof.Rows.EqDataRows
import HandS.Deep
import HandS.Star
import HandS.Iter
import HandS.Comp
import KE.GoesEnum
import PyProof.MaxThree
import HandS.Defaults
import HandS.Strs
import HandS.Codes
import HandS.Head0
import HandS.Head1
import HandS.Head2
import HandS.HeadEnd
import HandS.HeadHook1
import HandS.HeadHook2
import HandS.EndBits
import KE.KStateDown
import PySem.Challenge.RW_everyhost_k43_whole_rules_of_leases_besi
set_option Elab.async false
set_option linter.all false
set_option maxRecDepth 100000
/-! EvA: a small language over data, and what it answers: a total reading, no addresses. Names are places; a list that is changed is owned by one name. -/
namespace EV
open PySem
abbrev D := PyData
inductive Op2 where | add | sub | mul | fdiv | mod | pow
  deriving DecidableEq
inductive Cp where | eq | ne | lt | le | gt | ge | is | isNot | isin | notIn
  deriving DecidableEq
inductive ItK where | seq | rng | enm | zip | items | vals
  deriving DecidableEq
inductive Bi where | len | abs | int | tuple | list | sum | all | any | max | min | repr | str | isInt | isBool | isStr | isTuple | lenset | sortedset
  deriving DecidableEq
inductive Mu where | append | extend | insert | pop | update
  deriving DecidableEq
inductive Mt where | get | count | index
  deriving DecidableEq
/-- a target -/
inductive Tg where
  | name (i : Nat)
  | tup (ts : List Tg)
inductive Ex where
  | cst (d : D)
  | glo (x : Str) (d : D)
  | var (i : Nat)
  | tup (es : List Ex)
  | lst (es : List Ex)
  | star (bs : List Bool) (es : List Ex)
  | bin (o : Op2) (a b : Ex)
  | neg (a : Ex)
  | cmp (o : Cp) (a b : Ex)
  | chn (o p : Cp) (a b c : Ex)
  | and (a b : Ex)
  | or (a b : Ex)
  | not (a : Ex)
  | ite (t a b : Ex)
  | ix (a i : Ex)
  | sl (bl bh : Bool) (a lo hi : Ex)
  | fn (f : Nat) (bs : List Bool) (es : List Ex)
  | bi (p : Bi) (es : List Ex)
  | mt (m : Mt) (o : Ex) (es : List Ex)
  | mu (m : Mu) (i : Nat) (es : List Ex)
  | srt (a : Ex) (f : Option Nat)
  | srtL (a : Ex) (i : Nat) (b : Ex)
  | lc (elt : Ex) (tg : Tg) (k : ItK) (es : List Ex) (ifs : List Ex) (own : List Nat)
  | lc2 (elt : Ex) (tg : Tg) (k : ItK) (es : List Ex) (ifs : List Ex) (tg2 : Tg) (k2 : ItK) (es2 : List Ex) (ifs2 : List Ex) (own : List Nat)
  | dc (key val : Ex) (tg : Tg) (k : ItK) (es : List Ex) (ifs : List Ex) (own : List Nat)
  | dic
inductive Sm where
  | asg (i : Nat) (e : Ex)
  | asgT (t : Tg) (e : Ex)
  | par (is : List Nat) (es : List Ex)
  | setix (i : Nat) (k : Ex) (v : Ex)
  | aug (i : Nat) (o : Op2) (e : Ex)
  | augix (i : Nat) (k : Ex) (o : Op2) (e : Ex)
  | ex (e : Ex)
  | ret (e : Ex)
  | cond (c : Ex) (a b : List Sm)
  | loop (tg : Tg) (k : ItK) (es : List Ex) (body : List Sm)
  | whl (c : Ex) (body : List Sm)
  | pass
  | brk
  | cont
  | raise

/-- a name's value; own: a list that this name alone holds; lk: a list of the caller's -/
structure Sl where
  d : D
  own : Bool
  lk : Bool
abbrev Ev := List (Option Sl)
inductive Opn where
  | val (d : D)
  | bor (i : Nat)
abbrev Orc := Nat → List (Option Sl) → Option (D × Bool × List (Option Sl))

def Opn.get (ρ : Ev) : Opn → Option D
  | .val d => some d
  | .bor i => match ρ[i]? with
    | some (some s) => some s.d
    | _ => none
def gets (ρ : Ev) : List Opn → Option (List D)
  | [] => some []
  | o :: os => do
    let d ← o.get ρ
    let ds ← gets ρ os
    some (d :: ds)
/-- an operand: a name that owns its list is left as it is -/
def opnd (e : Ex) (r : Ev → Option (D × Bool × Ev)) (ρ : Ev) : Option (Opn × Ev) :=
  match e with
  | .var i => match ρ[i]? with
    | some (some s) => if s.own then some (.bor i, ρ) else some (.val s.d, ρ)
    | _ => none
  | _ => (r ρ).map fun x => (.val x.1, x.2.2)

/-! ### operations on data -/
def isNest : D → Bool
  | .dict _ => false
  | _ => true
/-- == can be asked -/
def shp (d : D) : Bool := SeqAt.shaped d
/-- repr can be asked -/
def shw (d : D) : Bool := d.canLay0 && d.showable && decide (d.depth ≤ 64) && decide (d.shown.length ≤ sizeLine)
def mulOk (i j : Int) : Bool := decide (i.natAbs.log2 + j.natAbs.log2 < 1000000)
def divOk (j : Int) : Bool := decide (0 < j ∧ j.natAbs.log2 < 9000)
def powOk (i j : Int) : Bool := decide (0 ≤ j ∧ j ≤ 1000000 ∧ i.natAbs < 2 ^ 64)
/-- the answer and whether it is a list of its own -/
def binD : Op2 → D → D → Option (D × Bool)
  | .add, .int i, .int j => some (.int (i + j), false)
  | .add, .list xs, .list ys => if xs.length + ys.length ≤ sizeLine then some (.list (xs ++ ys), true) else none
  | .add, .tuple xs, .tuple ys => if xs.length + ys.length ≤ sizeLine then some (.tuple (xs ++ ys), false) else none
  | .add, .str x, .str y => if x.length + y.length ≤ sizeLine then some (.str (x ++ y), false) else none
  | .sub, .int i, .int j => some (.int (i - j), false)
  | .mul, .int i, .int j => if mulOk i j then some (.int (i * j), false) else none
  | .mul, .list xs, .int j => if -(2 ^ 63) ≤ j ∧ j < 2 ^ 63 ∧ xs.length * j.toNat ≤ sizeLine then some (.list (List.replicate j.toNat xs).flatten, true) else none
  | .fdiv, .int i, .int j => if divOk j then some (.int (i / j), false) else none
  | .mod, .int i, .int j => if 0 < j then some (.int (i % j), false) else none
  | .pow, .int i, .int j => if powOk i j then some (.int (i ^ j.toNat), false) else none
  | _, _, _ => none
/-- a < b of data that are alike -/
def ltD (x y : D) : Option Bool := if W.alike x y = true ∧ isNest x = true ∧ x.depth ≤ 64 then (match x with | .none => none | _ => some (W.dataLt x y)) else none
def isNoneD : D → Bool
  | .none => true
  | _ => false
def cmpD : Cp → D → D → Option Bool
  | .eq, x, y => if shp x && shp y then some (PyData.eqv x y) else none
  | .ne, x, y => if shp x && shp y then some (!PyData.eqv x y) else none
  | .lt, .int i, .int j => some (decide (i < j))
  | .le, .int i, .int j => some (decide (i ≤ j))
  | .gt, .int i, .int j => some (decide (j < i))
  | .ge, .int i, .int j => some (decide (j ≤ i))
  | .lt, x, y => ltD x y
  | .is, x, .none => some (isNoneD x)
  | .isNot, x, .none => some (!isNoneD x)
  | .is, .bool a, .bool b => some (decide (a = b))
  | .isNot, .bool a, .bool b => some (!decide (a = b))
  | .isin, x, .list ys => if shp x && shp (.list ys) then some (ys.any fun z => PyData.eqv z x) else none
  | .notIn, x, .list ys => if shp x && shp (.list ys) then some (!ys.any fun z => PyData.eqv z x) else none
  | .isin, .str x, .tuple ys => if ys.all (fun y => match y with | .str _ => true | _ => false) then some (ys.any fun z => PyData.eqv z (.str x)) else none
  | .notIn, .str x, .tuple ys => if ys.all (fun y => match y with | .str _ => true | _ => false) then some (!ys.any fun z => PyData.eqv z (.str x)) else none
  | _, _, _ => none
def atD (ds : List D) (i : Int) : Option D := L2.atI ds i
def ixD : D → D → Option D
  | .list xs, .int i => atD xs i
  | .tuple xs, .int i => atD xs i
  | _, _ => none
def cutD (xs : List D) (lo hi : Option Int) : List D := (xs.drop (HT.sIx xs.length 0 lo)).take (HT.sIx xs.length xs.length hi - HT.sIx xs.length 0 lo)
def partD : Bool → D → Option (Option Int)
  | false, _ => some none
  | true, .int i => some (some i)
  | true, _ => none
def slD (lo hi : Option Int) : D → Option (D × Bool)
  | .list xs => some (.list (cutD xs lo hi), true)
  | .tuple xs => some (.tuple (cutD xs lo hi), false)
  | _ => none
def intsD : List D → Option (List Int)
  | [] => some []
  | .int i :: r => (intsD r).map (i :: ·)
  | _ :: _ => none
def bolsD : List D → Option (List Bool)
  | [] => some []
  | .bool b :: r => (bolsD r).map (b :: ·)
  | _ :: _ => none
def maxL : List Int → Int
  | [] => 0
  | [x] => x
  | x :: r => max x (maxL r)
def minL : List Int → Int
  | [] => 0
  | [x] => x
  | x :: r => min x (minL r)
def leafD : D → Option Leaf
  | .none => some .none
  | .int i => some (.num i)
  | .bool b => some (.num (if b = true then 1 else 0))
  | .str x => some (.text x)
  | _ => none
def leavesD : List D → Option (List Leaf)
  | [] => some []
  | d :: ds => do
    let k ← leafD d
    let ks ← leavesD ds
    some (k :: ks)
def stepL (acc : List Leaf) (k : Leaf) : List Leaf := if acc.any (fun z => decide (z = k)) then acc else acc ++ [k]
def firstL (ks : List Leaf) : List Leaf := ks.foldl stepL []
/-- len(set(xs)) -/
def lenset (ds : List D) : Option (D × Bool) := match ds with
  | [.list xs] => (leavesD xs).bind fun ks => if ks.length + 1 < scanBound then some (.int (firstL ks).length, false) else none
  | _ => none
def biD : Bi → List D → Option (D × Bool)
  | .len, [.list xs] => some (.int xs.length, false)
  | .len, [.tuple xs] => some (.int xs.length, false)
  | .abs, [.int i] => some (.int (if i < 0 then -i else i), false)
  | .int, [.int i] => some (.int i, false)
  | .int, [.bool b] => some (.int (if b then 1 else 0), false)
  | .tuple, [.list xs] => some (.tuple xs, false)
  | .tuple, [.tuple xs] => some (.tuple xs, false)
  | .list, [.list xs] => some (.list xs, true)
  | .list, [.tuple xs] => some (.list xs, true)
  | .sum, [.list xs] => (intsD xs).map fun ns => (.int ns.sum, false)
  | .all, [.list xs] => (bolsD xs).map fun bs => (.bool (bs.all id), false)
  | .any, [.list xs] => (bolsD xs).map fun bs => (.bool (bs.any id), false)
  | .max, [.int i, .int j] => some (.int (if j > i then j else i), false)
  | .min, [.int i, .int j] => some (.int (if j < i then j else i), false)
  | .max, [.int i, .int j, .int k, .int l] => some (.int (maxL [i, j, k, l]), false)
  | .max, [.list xs] => (intsD xs).bind fun ns => if ns = [] then none else some (.int (maxL ns), false)
  | .min, [.list xs] => (intsD xs).bind fun ns => if ns = [] then none else some (.int (minL ns), false)
  | .repr, [x] => if shw x then some (.str x.shown, false) else none
  | .str, [.int i] => if i.natAbs.log2 < 1920 then some (.str (toString i), false) else none
  | .isInt, [x] => some (.bool (match x with | .int _ => true | .bool _ => true | _ => false), false)
  | .isBool, [x] => some (.bool (match x with | .bool _ => true | _ => false), false)
  | .isStr, [x] => some (.bool (match x with | .str _ => true | _ => false), false)
  | .isTuple, [x] => some (.bool (match x with | .tuple _ => true | _ => false), false)
  | .lenset, ds => lenset ds
  | _, _ => none
/-- a method that changes the list: what it answers, the list behind it -/
def muD : Mu → List D → List D → Option (D × List D)
  | .append, xs, [y] => if xs.length < sizeLine then some (.none, xs ++ [y]) else none
  | .extend, xs, [.list ys] => if xs.length + ys.length ≤ sizeLine then some (.none, xs ++ ys) else none
  | .pop, xs, [] => match xs[xs.length - 1]? with
    | some y => some (y, xs.dropLast)
    | none => none
  | .pop, xs, [.int i] => match L2.ixN xs.length i with
    | some j => match xs[j]? with
      | some y => if -(2 ^ 63) ≤ i ∧ i < 2 ^ 63 then some (y, xs.eraseIdx j) else none
      | none => none
    | none => none
  | .insert, xs, [.int i, y] => if xs.length < sizeLine ∧ 0 ≤ i ∧ i < 2 ^ 63 then some (.none, xs.take i.toNat ++ [y] ++ xs.drop i.toNat) else none
  | _, _, _ => none
def mtD : Mt → D → List D → Option D
  | _, _, _ => none
def rangeD (lo : Int) (n : Nat) : List D := (List.range n).map fun i => .int (lo + (i : Nat))
def rangeDn (lo : Int) (n : Nat) : List D := (List.range n).map fun i => .int (lo - (i : Nat))
def small62 (i : Int) : Bool := decide (-(2 ^ 62) ≤ i ∧ i < 2 ^ 62)
def enumD : Nat → List D → List D
  | _, [] => []
  | n, x :: r => .tuple [.int (n : Nat), x] :: enumD (n + 1) r
def seqD : D → Option (List D)
  | .list xs => some xs
  | .tuple xs => some xs
  | _ => none
def iterD : ItK → List D → Option (List D)
  | .seq, [x] => seqD x
  | .rng, [.int j] => if small62 j then some (rangeD 0 j.toNat) else none
  | .rng, [.int i, .int j] => if small62 i && small62 j then some (rangeD i (j - i).toNat) else none
  | .rng, [.int i, .int j, .int c] => if small62 i && small62 j && decide (c = -1) then some (rangeDn i (i - j).toNat) else none
  | .enm, [x] => (seqD x).map (enumD 0)
  | .zip, [x, y] => do
    let xs ← seqD x
    let ys ← seqD y
    some ((xs.zip ys).map fun p => .tuple [p.1, p.2])
  | _, _ => none
/-- a name is set; a list that the caller lent is not let go -/
def stor (i : Nat) (d : D) (fr : Bool) (ρ : Ev) : Option Ev :=
  match ρ[i]? with
  | some (some s) => if s.lk then none else some (ρ.set i (some ⟨d, fr, false⟩))
  | some none => some (ρ.set i (some ⟨d, fr, false⟩))
  | none => none
mutual
def asgT : Tg → D → Ev → Option Ev
  | .name i, d, ρ => stor i d false ρ
  | .tup ts, d, ρ => match d with
    | .tuple ds => asgTs ts ds ρ
    | _ => none
def asgTs : List Tg → List D → Ev → Option Ev
  | [], [], ρ => some ρ
  | t :: ts, d :: ds, ρ => do
    let ρ1 ← asgT t d ρ
    asgTs ts ds ρ1
  | _, _, _ => none
end
/-- the places forgotten; none of them owns a list -/
def clear : Ev → List Nat → Ev
  | ρ, [] => ρ
  | ρ, i :: is => (clear ρ is).set i none
def free (ρ : Ev) (is : List Nat) : Bool := is.all fun i => match ρ[i]? with
  | some (some s) => !s.own && !s.lk
  | some none => true
  | none => false
/-- the places as they were in ρ -/
def back (ρ : Ev) : Ev → List Nat → Ev
  | ρ', [] => ρ'
  | ρ', i :: is => (back ρ ρ' is).set i ((ρ[i]?).getD none)
/-- what is walked stands as it stood -/
def stays (os : List Opn) (ρ ρ' : Ev) : Prop := ∀ o ∈ os, match o with
  | .val _ => True
  | .bor i => ρ'[i]? = ρ[i]?
open Classical in
/-- turns of a comprehension -/
noncomputable def turns (os : List Opn) (f : D → Ev → Option (Option D × Ev)) : List D → Ev → Option (List D × Ev)
  | [], ρ => some ([], ρ)
  | x :: xs, ρ => do
    let (y, ρ1) ← f x ρ
    if stays os ρ ρ1 then
      let (ys, ρ2) ← turns os f xs ρ1
      some (match y with | some d => d :: ys | none => ys, ρ2)
    else none
def tests (fs : List (Ev → Option (D × Bool × Ev))) (ρ : Ev) : Option (Bool × Ev) :=
  match fs with
  | [] => some (true, ρ)
  | f :: r => match f ρ with
    | some (.bool b, _, ρ1) => if b then tests r ρ1 else some (false, ρ1)
    | _ => none
/-- arguments for a def: borrowed lists stay the caller's -/
def argOf (ρ : Ev) : Opn → Option Sl
  | .val d => some ⟨d, false, false⟩
  | .bor i => match ρ[i]? with
    | some (some s) => some ⟨s.d, s.own, s.own⟩
    | _ => none
def argsOf (ρ : Ev) : List Opn → Option (List (Option Sl))
  | [] => some []
  | o :: os => do
    let s ← argOf ρ o
    let ss ← argsOf ρ os
    some (some s :: ss)
def bors : List Opn → List Nat
  | [] => []
  | .val _ :: r => bors r
  | .bor i :: r => i :: bors r
def backs : List Opn → List (Option Sl) → Ev → Ev
  | .bor i :: os, some s :: ss, ρ => backs os ss (match ρ[i]? with
    | some (some t) => if t.own then ρ.set i (some ⟨s.d, s.own, t.lk⟩) else ρ
    | _ => ρ)
  | _ :: os, _ :: ss, ρ => backs os ss ρ
  | _, _, ρ => ρ
/-- starred items are spread -/
def spread : List Bool → List D → Option (List D)
  | [], [] => some []
  | true :: bs, d :: ds => do
    let xs ← seqD d
    let r ← spread bs ds
    some (xs ++ r)
  | false :: bs, d :: ds => do
    let r ← spread bs ds
    some (d :: r)
  | _, _ => none
/-- a changing method at the name i -/
def changeAt (m : Mu) (i : Nat) (ds : List D) (ρ : Ev) : Option (D × Bool × Ev) :=
  match ρ[i]? with
  | some (some ⟨.list xs, true, lk⟩) => (muD m xs ds).map fun p => (p.1, false, ρ.set i (some ⟨.list p.2, true, lk⟩))
  | _ => none
/-! ### how answers go together -/
abbrev EvR := Ev → Option (D × Bool × Ev)
abbrev EvO := Ev → Option (Opn × Ev)
abbrev EvOs := Ev → Option (List Opn × Ev)
abbrev EvVs := Ev → Option (List D × Ev)
def evC (d : D) : EvR := fun ρ => some (d, false, ρ)
def evVar (i : Nat) : EvR := fun ρ => match ρ[i]? with
  | some (some s) => some (s.d, false, if s.own then ρ.set i (some ⟨s.d, false, s.lk⟩) else ρ)
  | _ => none
def evBin (g : D → D → Option (D × Bool)) (ga gb : EvO) : EvR := fun ρ => do
  let (x, ρ1) ← ga ρ
  let (y, ρ2) ← gb ρ1
  let x ← x.get ρ2
  let y ← y.get ρ2
  let (d, fr) ← g x y
  some (d, fr, ρ2)
def evCmp (g : D → D → Option Bool) (ga gb : EvO) : EvR := fun ρ => do
  let (x, ρ1) ← ga ρ
  let (y, ρ2) ← gb ρ1
  let x ← x.get ρ2
  let y ← y.get ρ2
  let c ← g x y
  some (.bool c, false, ρ2)
def evUn (g : D → Option D) (f : EvR) : EvR := fun ρ => do
  let (x, _, ρ1) ← f ρ
  let y ← g x
  some (y, false, ρ1)
/-- by a bool -/
def evBr (f : EvR) (h : Bool → EvR) : EvR := fun ρ => match f ρ with
  | some (.bool c, _, ρ1) => h c ρ1
  | _ => none
def evChn (g g' : D → D → Option Bool) (fa fb fc : EvR) : EvR := fun ρ => do
  let (x, _, ρ1) ← fa ρ
  let (y, _, ρ2) ← fb ρ1
  let k ← g x y
  if k then (do
    let (z, _, ρ3) ← fc ρ2
    let k2 ← g' y z
    some (.bool k2, false, ρ3))
  else some (.bool false, false, ρ2)
def evPart (b : Bool) (f : EvR) : Ev → Option (Option Int × Ev) := fun ρ => if b then (do
    let (d, _, ρ1) ← f ρ
    let l ← partD true d
    some (l, ρ1))
  else some (none, ρ)
def evSl (ga : EvO) (fl fh : Ev → Option (Option Int × Ev)) : EvR := fun ρ => do
  let (x, ρ1) ← ga ρ
  let (l, ρ2) ← fl ρ1
  let (h, ρ3) ← fh ρ2
  let x ← x.get ρ3
  let (d, fr) ← slD l h x
  some (d, fr, ρ3)
/-- a tuple, a list of written items -/
def evDisp (k : List D → D) (fr : Bool) (f : EvVs) : EvR := fun ρ => do
  let (ds, ρ1) ← f ρ
  if ds.length ≤ sizeLine then some (k ds, fr, ρ1) else none
def evStar (bs : List Bool) (f : EvVs) : EvR := fun ρ => do
  let (ds, ρ1) ← f ρ
  let xs ← spread bs ds
  if xs.length ≤ sizeLine then some (.tuple xs, false, ρ1) else none
def evFn (Φ : Orc) (f : Nat) (ga : EvOs) : EvR := fun ρ => do
  let (os, ρ1) ← ga ρ
  let args ← argsOf ρ1 os
  if (bors os).Nodup then (do
    let (d, fr, outs) ← Φ f args
    some (d, fr, backs os outs ρ1))
  else none
def evBi (g : List D → Option (D × Bool)) (ga : EvOs) : EvR := fun ρ => do
  let (os, ρ1) ← ga ρ
  let ds ← gets ρ1 os
  let (d, fr) ← g ds
  some (d, fr, ρ1)
/-- the name owns a list -/
def ownL (i : Nat) (ρ : Ev) : Bool := match ρ[i]? with
  | some (some ⟨.list _, true, _⟩) => true
  | _ => false
def evMuO (m : Mu) (i : Nat) (f : EvOs) : EvR := fun ρ => if ownL i ρ then (do
    let (os, ρ1) ← f ρ
    let ds ← gets ρ1 os
    changeAt m i ds ρ1)
  else none
def evMuV (m : Mu) (i : Nat) (f : EvVs) : EvR := fun ρ => if ownL i ρ then (do
    let (ds, ρ1) ← f ρ
    changeAt m i ds ρ1)
  else none
/-- one turn of a comprehension -/
def turn (tg : Tg) (fs : List EvR) (fe : EvR) (own : List Nat) (x : D) (ρ : Ev) : Option (Option D × Ev) := do
  let ρa ← asgT tg x ρ
  let (b, ρb) ← tests fs ρa
  if b then (do
    let (y, _, ρc) ← fe ρb
    some (some y, clear ρc own))
  else some (none, clear ρb own)
noncomputable def evLc (tg : Tg) (k : ItK) (ga : EvOs) (fs : List EvR) (fe : EvR) (own : List Nat) : EvR := fun ρ => do
  let (os, ρ1) ← ga ρ
  let ds ← gets ρ1 os
  let xs ← iterD k ds
  if free ρ1 own then (do
    let (ys, ρ2) ← turns os (turn tg fs fe own) xs (clear ρ1 own)
    if ys.length ≤ sizeLine then some (.list ys, true, back ρ1 ρ2 own) else none)
  else none
def negD : D → Option D
  | .int i => some (.int (-i))
  | _ => none
def evNil : EvVs := fun ρ => some ([], ρ)
def evCons (f : EvR) (g : EvVs) : EvVs := fun ρ => do
  let (d, _, ρ1) ← f ρ
  let (ds, ρ2) ← g ρ1
  some (d :: ds, ρ2)
def evNilO : EvOs := fun ρ => some ([], ρ)
def evConsO (f : EvO) (g : EvOs) : EvOs := fun ρ => do
  let (o, ρ1) ← f ρ
  let (os, ρ2) ← g ρ1
  some (o :: os, ρ2)
def evFrz (f : EvR) : EvO := fun ρ => (f ρ).map fun x => (.val x.1, x.2.2)
mutual
noncomputable def evE (Φ : Orc) : Ex → EvR
  | .cst d => evC d
  | .glo _ d => evC d
  | .var i => evVar i
  | .tup es => evDisp .tuple false (evVs Φ es)
  | .lst es => evDisp .list true (evVs Φ es)
  | .star bs es => evStar bs (evVs Φ es)
  | .bin o a b => evBin (binD o) (opnd a (evE Φ a)) (opnd b (evE Φ b))
  | .neg a => evUn negD (evE Φ a)
  | .cmp o a b => evCmp (cmpD o) (opnd a (evE Φ a)) (opnd b (evE Φ b))
  | .chn o p a b c => evChn (cmpD o) (cmpD p) (evE Φ a) (evE Φ b) (evE Φ c)
  | .and a b => evBr (evE Φ a) fun c => if c then evE Φ b else evC (.bool false)
  | .or a b => evBr (evE Φ a) fun c => if c then evC (.bool true) else evE Φ b
  | .not a => evBr (evE Φ a) fun c => evC (.bool (!c))
  | .ite t a b => evBr (evE Φ t) fun c => if c then evE Φ a else evE Φ b
  | .ix a i => evBin (fun x y => (ixD x y).map fun d => (d, false)) (opnd a (evE Φ a)) (opnd i (evE Φ i))
  | .sl bl bh a lo hi => evSl (opnd a (evE Φ a)) (evPart bl (evE Φ lo)) (evPart bh (evE Φ hi))
  | .fn f bs es => evFn Φ f (evAs Φ bs es)
  | .bi p es => evBi (biD p) (evOs Φ es)
  | .mu m i es => match m with
    | .extend => evMuO m i (evOs Φ es)
    | _ => evMuV m i (evVs Φ es)
  | .lc elt tg k es ifs own => evLc tg k (evOs Φ es) (evFs Φ ifs) (evE Φ elt) own
  | _ => fun _ => none
noncomputable def evVs (Φ : Orc) : List Ex → EvVs
  | [] => evNil
  | e :: es => evCons (evE Φ e) (evVs Φ es)
noncomputable def evOs (Φ : Orc) : List Ex → EvOs
  | [] => evNilO
  | e :: es => evConsO (opnd e (evE Φ e)) (evOs Φ es)
noncomputable def evAs (Φ : Orc) : List Bool → List Ex → EvOs
  | _, [] => evNilO
  | bs, e :: es => evConsO (if bs.headD false then opnd e (evE Φ e) else evFrz (evE Φ e)) (evAs Φ bs.tail es)
noncomputable def evFs (Φ : Orc) : List Ex → List EvR
  | [] => []
  | e :: es => evE Φ e :: evFs Φ es
end
/-! ### statements -/
inductive Out where
  | nx (ρ : Ev)
  | ret (d : D) (fr : Bool) (ρ : Ev)
  | brk (ρ : Ev)
  | cont (ρ : Ev)
open Classical in
noncomputable def loopF (os : List Opn) (b : D → Ev → Option Out) : List D → Ev → Option Out
  | [], ρ => some (.nx ρ)
  | x :: xs, ρ => do
    match ← b x ρ with
    | .nx ρ1 => if stays os ρ ρ1 then loopF os b xs ρ1 else none
    | .cont ρ1 => if stays os ρ ρ1 then loopF os b xs ρ1 else none
    | .brk ρ1 => some (.nx ρ1)
    | .ret d fr ρ1 => some (.ret d fr ρ1)
def whileN (t : Ev → Option (D × Bool × Ev)) (b : Ev → Option Out) : Nat → Ev → Option Out
  | 0, _ => none
  | n + 1, ρ => match t ρ with
    | some (.bool true, _, ρ1) => match b ρ1 with
      | some (.nx ρ2) => whileN t b n ρ2
      | some (.cont ρ2) => whileN t b n ρ2
      | some (.brk ρ2) => some (.nx ρ2)
      | some (.ret d fr ρ2) => some (.ret d fr ρ2)
      | none => none
    | some (.bool false, _, ρ1) => some (.nx ρ1)
    | _ => none
open Classical in
noncomputable def whileC (t : Ev → Option (D × Bool × Ev)) (b : Ev → Option Out) (ρ : Ev) : Option Out :=
  if h : ∃ n o, whileN t b n ρ = some o then whileN t b h.choose ρ else none
theorem whileN_more {t : Ev → Option (D × Bool × Ev)} {b : Ev → Option Out} : ∀ {n : Nat} {ρ : Ev} {o : Out}, whileN t b n ρ = some o → ∀ m, n ≤ m → whileN t b m ρ = some o
  | 0, _, _, h, _, _ => by simp [whileN] at h
  | n + 1, ρ, o, h, 0, hm => by omega
  | n + 1, ρ, o, h, m + 1, hm => by
    have ih := fun {ρ o} h => whileN_more (t := t) (b := b) (n := n) (ρ := ρ) (o := o) h m (by omega)
    rw [whileN] at h ⊢
    split at h
    · split at h
      · exact ih h
      · exact ih h
      · exact h
      · exact h
      · simp at h
    · exact h
    · simp at h
theorem whileC_of {t : Ev → Option (D × Bool × Ev)} {b : Ev → Option Out} {n : Nat} {ρ : Ev} {o : Out} (h : whileN t b n ρ = some o) : whileC t b ρ = some o := by
  have hx : ∃ n o, whileN t b n ρ = some o := ⟨n, o, h⟩
  unfold whileC
  rw [dif_pos hx]
  obtain ⟨o', ho⟩ := hx.choose_spec
  have h1 := whileN_more h (max n hx.choose) (Nat.le_max_left _ _)
  have h2 := whileN_more ho (max n hx.choose) (Nat.le_max_right _ _)
  rw [ho]
  exact h2.symm.trans h1
theorem whileC_ex {t : Ev → Option (D × Bool × Ev)} {b : Ev → Option Out} {ρ : Ev} {o : Out} (h : whileC t b ρ = some o) : ∃ n, whileN t b n ρ = some o := by
  unfold whileC at h
  split at h
  · rename_i hx; exact ⟨_, h⟩
  · cases h
def stores : List Nat → List (D × Bool) → Ev → Option Ev
  | [], [], ρ => some ρ
  | i :: is, (d, fr) :: ds, ρ => do
    let ρ1 ← stor i d fr ρ
    stores is ds ρ1
  | _, _, _ => none
/-! how statements go -/
abbrev StR := Ev → Option Out
def stAsg (i : Nat) (f : EvR) : StR := fun ρ => do
  let (d, fr, ρ1) ← f ρ
  let ρ2 ← stor i d fr ρ1
  some (.nx ρ2)
def stAsgT (t : Tg) (f : EvR) : StR := fun ρ => do
  let (d, _, ρ1) ← f ρ
  let ρ2 ← asgT t d ρ1
  some (.nx ρ2)
abbrev EvPs := Ev → Option (List (D × Bool) × Ev)
def evPnil : EvPs := fun ρ => some ([], ρ)
def evPcons (f : EvR) (g : EvPs) : EvPs := fun ρ => do
  let (d, fr, ρ1) ← f ρ
  let (ds, ρ2) ← g ρ1
  some ((d, fr) :: ds, ρ2)
def stPar (is : List Nat) (f : EvPs) : StR := fun ρ => do
  let (ds, ρ1) ← f ρ
  let ρ2 ← stores is ds ρ1
  some (.nx ρ2)
/-- an own list's place is written -/
def setAt (i : Nat) (x d : D) (ρ : Ev) : Option Ev :=
  match ρ[i]? with
  | some (some ⟨.list xs, true, lk⟩) => match x with
    | .int j => match L2.ixN xs.length j with
      | some n => some (ρ.set i (some ⟨.list (xs.set n d), true, lk⟩))
      | none => none
    | _ => none
  | _ => none
def stSet (i : Nat) (fk fv : EvR) : StR := fun ρ => do
  let (d, _, ρ1) ← fv ρ
  if ownL i ρ1 then (do
    let (x, _, ρ2) ← fk ρ1
    let ρ3 ← setAt i x d ρ2
    some (.nx ρ3))
  else none
def augD : Op2 → D → D → Option D
  | .add, .int a, .int b => some (.int (a + b))
  | .sub, .int a, .int b => some (.int (a - b))
  | _, _, _ => none
def plainAt (i : Nat) (ρ : Ev) : Option D :=
  match ρ[i]? with
  | some (some ⟨d, false, _⟩) => some d
  | _ => none
def stAug (i : Nat) (o : Op2) (f : EvR) : StR := fun ρ => do
  let a ← plainAt i ρ
  let (b, _, ρ1) ← f ρ
  let d ← augD o a b
  let ρ2 ← stor i d false ρ1
  some (.nx ρ2)
def ownAt (i : Nat) (x : D) (ρ : Ev) : Option D :=
  match ρ[i]? with
  | some (some ⟨.list xs, true, _⟩) => match x with
    | .int j => atD xs j
    | _ => none
  | _ => none
def stAugix (i : Nat) (fk : EvR) (o : Op2) (f : EvR) : StR := fun ρ => if ownL i ρ then (do
    let (x, _, ρ1) ← fk ρ
    let a ← ownAt i x ρ1
    let (b, _, ρ2) ← f ρ1
    let d ← augD o a b
    let ρ3 ← setAt i x d ρ2
    some (.nx ρ3))
  else none
def stEx (f : EvR) : StR := fun ρ => do
  let (_, _, ρ1) ← f ρ
  some (.nx ρ1)
def stRet (f : EvR) : StR := fun ρ => (f ρ).map fun x => .ret x.1 x.2.1 x.2.2
/-- a name is returned: an own list goes to the caller as its own -/
def stRetV (i : Nat) : StR := fun ρ => match ρ[i]? with
  | some (some s) => if s.own && !s.lk then some (.ret s.d true (ρ.set i none)) else stRet (evVar i) ρ
  | _ => none
def stRetE (e : Ex) (f : EvR) : StR := match e with
  | .var i => stRetV i
  | _ => stRet f
def stIf (f : EvR) (a b : StR) : StR := fun ρ => match f ρ with
  | some (.bool c, _, ρ1) => if c then a ρ1 else b ρ1
  | _ => none
noncomputable def stFor (tg : Tg) (k : ItK) (ga : EvOs) (b : StR) : StR := fun ρ => do
  let (os, ρ1) ← ga ρ
  let ds ← gets ρ1 os
  let xs ← iterD k ds
  loopF os (fun x ρ => do
    let ρ2 ← asgT tg x ρ
    b ρ2) xs ρ1
def stSeq (a b : StR) : StR := fun ρ => match a ρ with
  | some (.nx ρ1) => b ρ1
  | o => o
def stNx : StR := fun ρ => some (.nx ρ)
mutual
noncomputable def exS (Φ : Orc) : Sm → StR
  | .asg i e => stAsg i (evE Φ e)
  | .asgT t e => stAsgT t (evE Φ e)
  | .par is es => stPar is (evPs Φ es)
  | .setix i k v => stSet i (evE Φ k) (evE Φ v)
  | .aug i o e => stAug i o (evE Φ e)
  | .augix i k o e => stAugix i (evE Φ k) o (evE Φ e)
  | .ex e => stEx (evE Φ e)
  | .ret e => stRetE e (evE Φ e)
  | .cond c a b => stIf (evE Φ c) (exB Φ a) (exB Φ b)
  | .loop tg k es body => stFor tg k (evOs Φ es) (exB Φ body)
  | .whl c body => whileC (evE Φ c) (exB Φ body)
  | .pass => stNx
  | .brk => fun ρ => some (.brk ρ)
  | .cont => fun ρ => some (.cont ρ)
  | .raise => fun _ => none
noncomputable def exB (Φ : Orc) : List Sm → StR
  | [] => stNx
  | s :: ss => stSeq (exS Φ s) (exB Φ ss)
noncomputable def evPs (Φ : Orc) : List Ex → EvPs
  | [] => evPnil
  | e :: es => evPcons (evE Φ e) (evPs Φ es)
end
/-! which places a statement may set -/
mutual
def tgHas : Tg → Nat → Bool
  | .name i, j => i == j
  | .tup ts, j => tgsHas ts j
def tgsHas : List Tg → Nat → Bool
  | [], _ => false
  | t :: ts, j => tgHas t j || tgsHas ts j
end
mutual
def asS : Sm → Nat → Bool
  | .asg i _, j => i == j
  | .asgT t _, j => tgHas t j
  | .par is _, j => is.contains j
  | .aug i _ _, j => i == j
  | .cond _ a b, j => asB a j || asB b j
  | .loop tg _ _ b, j => tgHas tg j || asB b j
  | .whl _ b, j => asB b j
  | _, _ => false
def asB : List Sm → Nat → Bool
  | [], _ => false
  | s :: ss, j => asS s j || asB ss j
end
/-! ### defs -/
structure FnI where
  nm : Str
  np : Nat
  ns : Nat
  body : List Sm
abbrev Prg := List FnI
noncomputable def runF (Φ : Orc) (fi : FnI) (args : List (Option Sl)) : Option (D × Bool × List (Option Sl)) :=
  if args.length = fi.np then
    match exB Φ fi.body (args ++ List.replicate (fi.ns - fi.np) none) with
    | some (.ret d fr ρ) => some (d, fr, ρ.take fi.np)
    | some (.nx ρ) => some (.none, false, ρ.take fi.np)
    | _ => none
  else none
noncomputable def Phi (P : Prg) : Nat → Orc
  | 0, _, _ => none
  | n + 1, f, args => match P[f]? with
    | some fi => runF (Phi P n) fi args
    | none => none
end EV

/-! EvB: what stands in the abstract heap for the data; the state of a def's run. -/
namespace EV
open PySem L2
variable {K : PySem.W.Frag}
/-- a list that the top of the program (or the caller) laid -/
def KList (K : PySem.W.Frag) (a : Addr) (vs : List V) : Prop := ∃ (its : Array Value) (n : Nat), K.lookup a = some { cls := .type "list", data := .seq its n } ∧ its.size ≤ sizeLine ∧ Vals vs its.toList
mutual
/-- v stands for the data d; lists within are frozen (F) -/
inductive Rep (K : PySem.W.Frag) (F : Addr → Prop) (H : Hp) : D → V → Prop
  | non : Rep K F H .none .non
  | bl (b : Bool) : Rep K F H (.bool b) (.bl b)
  | int (i : Int) : Rep K F H (.int i) (.int i)
  | str (x : Str) : Rep K F H (.str x) (.str x)
  | tup {a : Addr} {vs : List V} {ds : List D} : SqT K H a vs → Reps K F H ds vs → Rep K F H (.tuple ds) (.ref a)
  | lst {a : Addr} {vs : List V} {ds : List D} : F a → Rd H a (.lst vs) → Reps K F H ds vs → Rep K F H (.list ds) (.ref a)
  | lstK {a : Addr} {vs : List V} {ds : List D} : KList K a vs → Reps K F H ds vs → Rep K F H (.list ds) (.ref a)
inductive Reps (K : PySem.W.Frag) (F : Addr → Prop) (H : Hp) : List D → List V → Prop
  | nil : Reps K F H [] []
  | cons {d : D} {v : V} {ds : List D} {vs : List V} : Rep K F H d v → Reps K F H ds vs → Reps K F H (d :: ds) (v :: vs)
end
/-- a list of its own at a -/
def Root (K : PySem.W.Frag) (F : Addr → Prop) (H : Hp) : D → Addr → Prop
  | .list ds, a => ∃ vs, H a = some (.lst vs) ∧ Reps K F H ds vs
  | _, _ => False
/-- what may be read -/
def RepW (K : PySem.W.Frag) (F : Addr → Prop) (H : Hp) (d : D) (v : V) : Prop := Rep K F H d v ∨ ∃ a, v = .ref a ∧ Root K F H d a

/-- objects that no def changes -/
def tupO : HO → Prop
  | .tup _ => True
  | .frz _ _ => True
  | _ => False
def Keep (F : Addr → Prop) (H H' : Hp) : Prop := ∀ a o, H a = some o → (F a ∨ tupO o) → H' a = some o
theorem Keep.rd {F : Addr → Prop} {H H' : Hp} (k : Keep F H H') {a : Addr} {o : HO} (h : Rd H a o) (hf : F a ∨ tupO o) : Rd H' a o := by
  rcases h with h | ⟨ob, h⟩
  · exact .inl (k a o h hf)
  · exact .inr ⟨ob, k a _ h (.inr trivial)⟩
theorem Keep.sqT {F : Addr → Prop} {H H' : Hp} (k : Keep F H H') {a : Addr} {vs : List V} (h : SqT K H a vs) : SqT K H' a vs := by
  rcases h with h | h
  · exact .inl (k.rd h (.inr trivial))
  · exact .inr h
mutual
theorem Rep.mono {F F' : Addr → Prop} {H H' : Hp} (s : ∀ a, F a → F' a) (k : Keep F H H') : ∀ {d : D} {v : V}, Rep K F H d v → Rep K F' H' d v
  | _, _, .non => .non
  | _, _, .bl b => .bl b
  | _, _, .int i => .int i
  | _, _, .str x => .str x
  | _, _, .tup h r => .tup (k.sqT h) (Reps.mono s k r)
  | _, _, .lst hF h r => .lst (s _ hF) (k.rd h (.inl hF)) (Reps.mono s k r)
  | _, _, .lstK h r => .lstK h (Reps.mono s k r)
theorem Reps.mono {F F' : Addr → Prop} {H H' : Hp} (s : ∀ a, F a → F' a) (k : Keep F H H') : ∀ {ds : List D} {vs : List V}, Reps K F H ds vs → Reps K F' H' ds vs
  | _, _, .nil => .nil
  | _, _, .cons h r => .cons (Rep.mono s k h) (Reps.mono s k r)
end
theorem Reps.length {F : Addr → Prop} {H : Hp} : ∀ {ds : List D} {vs : List V}, Reps K F H ds vs → ds.length = vs.length
  | _, _, .nil => rfl
  | _, _, .cons _ r => congrArg (· + 1) (Reps.length r)
theorem Reps.append {F : Addr → Prop} {H : Hp} : ∀ {ds es : List D} {vs ws : List V}, Reps K F H ds vs → Reps K F H es ws → Reps K F H (ds ++ es) (vs ++ ws)
  | _, _, _, _, .nil, s => s
  | _, _, _, _, .cons h r, s => .cons h (Reps.append r s)
theorem Reps.take {F : Addr → Prop} {H : Hp} : ∀ {ds : List D} {vs : List V} (n : Nat), Reps K F H ds vs → Reps K F H (ds.take n) (vs.take n)
  | _, _, 0, _ => .nil
  | _, _, _ + 1, .nil => .nil
  | _, _, n + 1, .cons h r => .cons h (Reps.take n r)
theorem Reps.drop {F : Addr → Prop} {H : Hp} : ∀ {ds : List D} {vs : List V} (n : Nat), Reps K F H ds vs → Reps K F H (ds.drop n) (vs.drop n)
  | _, _, 0, r => r
  | _, _, _ + 1, .nil => .nil
  | _, _, n + 1, .cons _ r => Reps.drop n r
theorem Reps.get {F : Addr → Prop} {H : Hp} : ∀ {ds : List D} {vs : List V} {i : Nat} {d : D}, Reps K F H ds vs → ds[i]? = some d → ∃ v, vs[i]? = some v ∧ Rep K F H d v
  | _, _, _, _, .nil, e => by simp at e
  | _, _, 0, _, .cons h _, e => by simp at e; subst e; exact ⟨_, rfl, h⟩
  | _, _, i + 1, d, .cons _ r, e => by
    obtain ⟨v, h1, h2⟩ := Reps.get (i := i) (d := d) r (by simpa using e)
    exact ⟨v, by simpa using h1, h2⟩
theorem Reps.get' {F : Addr → Prop} {H : Hp} : ∀ {ds : List D} {vs : List V} {i : Nat} {v : V}, Reps K F H ds vs → vs[i]? = some v → ∃ d, ds[i]? = some d ∧ Rep K F H d v
  | _, _, _, _, .nil, e => by simp at e
  | _, _, 0, _, .cons h _, e => by simp at e; subst e; exact ⟨_, rfl, h⟩
  | _, _, i + 1, d, .cons _ r, e => by
    obtain ⟨v, h1, h2⟩ := Reps.get' (i := i) (v := d) r (by simpa using e)
    exact ⟨v, by simpa using h1, h2⟩
theorem Reps.set {F : Addr → Prop} {H : Hp} {d : D} {v : V} (h0 : Rep K F H d v) : ∀ {ds : List D} {vs : List V} (n : Nat), Reps K F H ds vs → Reps K F H (ds.set n d) (vs.set n v)
  | _, _, _, .nil => .nil
  | _, _, 0, .cons _ r => .cons h0 r
  | _, _, n + 1, .cons h r => .cons h (Reps.set h0 n r)
theorem Reps.dropLast {F : Addr → Prop} {H : Hp} {ds : List D} {vs : List V} (r : Reps K F H ds vs) : Reps K F H ds.dropLast vs.dropLast := by
  rw [List.dropLast_eq_take, List.dropLast_eq_take, r.length]
  exact r.take _
theorem Reps.rep {F : Addr → Prop} {H : Hp} {ds : List D} {vs : List V} (r : Reps K F H ds vs) : ∀ k : Nat, Reps K F H (List.replicate k ds).flatten (List.replicate k vs).flatten
  | 0 => .nil
  | k + 1 => by
    rw [List.replicate_succ, List.replicate_succ, List.flatten_cons, List.flatten_cons]
    exact r.append (Reps.rep r k)
theorem Reps.one {F : Addr → Prop} {H : Hp} {d : D} {vs : List V} (r : Reps K F H [d] vs) : ∃ v, vs = [v] ∧ Rep K F H d v := by
  cases r with
  | cons h t => cases t; exact ⟨_, rfl, h⟩

/-- a list to be read -/
def RdL (K : PySem.W.Frag) (H : Hp) (a : Addr) (vs : List V) : Prop := Rd H a (.lst vs) ∨ KList K a vs
theorem RdL.sq {H : Hp} {a : Addr} {vs : List V} (h : RdL K H a vs) : SqL K H a vs := by
  rcases h with h | ⟨its, n, h1, h2, h3⟩
  · exact .inl h
  · exact .inr ⟨_, its, n, h1, rfl, rfl, rfl, h2, h3⟩
/-- more objects stand -/
def Ext (H H' : Hp) : Prop := ∀ a o, H a = some o → H' a = some o
theorem Ext.keep {F : Addr → Prop} {H H' : Hp} (x : Ext H H') : Keep F H H' := fun a o h _ => x a o h
theorem Ext.refl (H : Hp) : Ext H H := fun _ _ h => h
theorem Ext.trans {H H1 H2 : Hp} (a : Ext H H1) (b : Ext H1 H2) : Ext H H2 := fun c o h => b c o (a c o h)
theorem Ext.new {H : Hp} {p : Addr} {o : HO} (h : H p = none) : Ext H (upd H p o) := fun b u e => by rw [upd_ne (ne_of_none e h)]; exact e
theorem Rep.ext {F : Addr → Prop} {H H' : Hp} {d : D} {v : V} (x : Ext H H') (r : Rep K F H d v) : Rep K F H' d v := r.mono (fun _ h => h) x.keep
theorem Reps.ext {F : Addr → Prop} {H H' : Hp} {ds : List D} {vs : List V} (x : Ext H H') (r : Reps K F H ds vs) : Reps K F H' ds vs := r.mono (fun _ h => h) x.keep
theorem Root.ext {F : Addr → Prop} {H H' : Hp} {d : D} {a : Addr} (x : Ext H H') (r : Root K F H d a) : Root K F H' d a := by
  cases d with
  | list ds =>
    obtain ⟨vs, h, r⟩ := r
    exact ⟨vs, x _ _ h, r.ext x⟩
  | _ => exact (show False from r).elim
theorem RepW.ext {F : Addr → Prop} {H H' : Hp} {d : D} {v : V} (x : Ext H H') (r : RepW K F H d v) : RepW K F H' d v := by
  rcases r with r | ⟨a, e, r⟩
  · exact .inl (r.ext x)
  · exact .inr ⟨a, e, r.ext x⟩
theorem Rep.w {F : Addr → Prop} {H : Hp} {d : D} {v : V} (r : Rep K F H d v) : RepW K F H d v := .inl r

/-- a result that a rule lays: frozen already, or a list of its own, new -/
def ResB (K : PySem.W.Frag) (F : Addr → Prop) (H H' : Hp) (d : D) (fr : Bool) (v : V) : Prop :=
  if fr = true then ∃ a, v = .ref a ∧ H a = none ∧ Root K F H' d a else Rep K F H' d v

/-! ### the state of a def's run -/
/-- the call: the heap and what is frozen at the entry; the lists that the caller lent, by their places -/
structure Ct where
  K : PySem.W.Frag
  H0 : Hp
  F0 : Addr → Prop
  PA : Nat → Option Addr
def Ct.P (C : Ct) (a : Addr) : Prop := ∃ i, C.PA i = some a
def Own (ρ : Ev) (σ : L2.St) (a : Addr) : Prop := ∃ (i : Nat) (s : Sl), ρ[i]? = some (some s) ∧ s.own = true ∧ σ[i]? = some (some (.ref a))
structure Sim (C : Ct) (F : Addr → Prop) (ρ : Ev) (σ : L2.St) (H : Hp) : Prop where
  len : ρ.length = σ.length
  val : ∀ (i : Nat) (s : Sl), ρ[i]? = some (some s) → s.own = false → ∃ v, σ[i]? = some (some v) ∧ Rep C.K F H s.d v
  own : ∀ (i : Nat) (s : Sl), ρ[i]? = some (some s) → s.own = true → ∃ a, σ[i]? = some (some (.ref a)) ∧ Root C.K F H s.d a ∧ ¬ F a ∧ (s.lk = false → C.H0 a = none) ∧ (s.lk = true → C.PA i = some a)
  inj : ∀ (i j : Nat) (s t : Sl) (a : Addr), ρ[i]? = some (some s) → ρ[j]? = some (some t) → s.own = true → t.own = true → σ[i]? = some (some (.ref a)) → σ[j]? = some (some (.ref a)) → i = j
  par : ∀ (i : Nat) (a : Addr), C.PA i = some a → σ[i]? = some (some (.ref a)) ∧ ∃ s, ρ[i]? = some (some s) ∧ s.lk = true
  fdom : ∀ a, F a → ∃ o, H a = some o
  f0 : ∀ a, C.F0 a → F a
  fnew : ∀ a, F a → C.F0 a ∨ C.P a ∨ C.H0 a = none
  fr0 : ∀ a o, C.H0 a = some o → ¬ C.P a → H a = some o
  dom0 : ∀ a o, C.H0 a = some o → ∃ o', H a = some o'
structure Step (ρ : Ev) (σ : L2.St) (F : Addr → Prop) (H : Hp) (ρ' : Ev) (F' : Addr → Prop) (H' : Hp) : Prop where
  sub : ∀ a, F a → F' a
  fr : ∀ a o, H a = some o → ¬ Own ρ σ a → H' a = some o
  new : ∀ a, F' a → F a ∨ Own ρ σ a ∨ H a = none
  own : ∀ a, Own ρ' σ a → Own ρ σ a
  dom : ∀ a o, H a = some o → ∃ o', H' a = some o'
theorem Step.refl (ρ : Ev) (σ : L2.St) (F : Addr → Prop) (H : Hp) : Step ρ σ F H ρ F H := ⟨fun _ h => h, fun _ _ h _ => h, fun _ h => .inl h, fun _ h => h, fun _ o h => ⟨o, h⟩⟩
theorem Step.trans {ρ ρ1 ρ2 : Ev} {σ : L2.St} {F F1 F2 : Addr → Prop} {H H1 H2 : Hp} (a : Step ρ σ F H ρ1 F1 H1) (b : Step ρ1 σ F1 H1 ρ2 F2 H2) : Step ρ σ F H ρ2 F2 H2 where
  sub := fun c h => b.sub c (a.sub c h)
  fr := fun c o h n => b.fr c o (a.fr c o h n) fun z => n (a.own c z)
  new := fun c h => by
    rcases b.new c h with h | h | h
    · exact a.new c h
    · exact .inr (.inl (a.own c h))
    · cases e : H c with
      | none => exact .inr (.inr rfl)
      | some o =>
        obtain ⟨o', e'⟩ := a.dom c o e
        rw [e'] at h; cases h
  own := fun c h => a.own c (b.own c h)
  dom := fun c o h => by
    obtain ⟨o', e⟩ := a.dom c o h
    exact b.dom c o' e
theorem Sim.ownF {C : Ct} {F : Addr → Prop} {ρ : Ev} {σ : L2.St} {H : Hp} (S : Sim C F ρ σ H) {a : Addr} (h : Own ρ σ a) : ¬ F a := by
  obtain ⟨i, s, h1, h2, h3⟩ := h
  obtain ⟨b, e, _, n, _⟩ := S.own i s h1 h2
  rw [h3] at e; cases e
  exact n
theorem Root.lst {F : Addr → Prop} {H : Hp} {d : D} {a : Addr} (r : Root K F H d a) : ∃ ds vs, d = .list ds ∧ H a = some (.lst vs) ∧ Reps K F H ds vs := by
  cases d with
  | list ds =>
    obtain ⟨vs, h, r⟩ := r
    exact ⟨ds, vs, rfl, h, r⟩
  | _ => exact (show False from r).elim
theorem Sim.ownTup {C : Ct} {F : Addr → Prop} {ρ : Ev} {σ : L2.St} {H : Hp} (S : Sim C F ρ σ H) {a : Addr} (h : Own ρ σ a) {o : HO} (e : H a = some o) : ¬ tupO o := by
  obtain ⟨i, s, h1, h2, h3⟩ := h
  obtain ⟨b, e2, r, _⟩ := S.own i s h1 h2
  rw [h3] at e2; cases e2
  obtain ⟨_, vs, _, e3, _⟩ := r.lst
  rw [e] at e3; cases e3
  exact fun z => z
theorem Step.keep {C : Ct} {ρ ρ' : Ev} {σ : L2.St} {F F' : Addr → Prop} {H H' : Hp} (st : Step ρ σ F H ρ' F' H') (S : Sim C F ρ σ H) : Keep F H H' := fun a o h hf =>
  st.fr a o h fun z => hf.elim (S.ownF z) (S.ownTup z h)
theorem Step.rep {C : Ct} {ρ ρ' : Ev} {σ : L2.St} {F F' : Addr → Prop} {H H' : Hp} {d : D} {v : V} (st : Step ρ σ F H ρ' F' H') (S : Sim C F ρ σ H) (r : Rep K F H d v) : Rep K F' H' d v := r.mono st.sub (st.keep S)
theorem Step.reps {C : Ct} {ρ ρ' : Ev} {σ : L2.St} {F F' : Addr → Prop} {H H' : Hp} {d : List D} {v : List V} (st : Step ρ σ F H ρ' F' H') (S : Sim C F ρ σ H) (r : Reps K F H d v) : Reps K F' H' d v := r.mono st.sub (st.keep S)
/-- more objects stand: the state goes on -/
theorem Sim.ext {C : Ct} {F : Addr → Prop} {ρ : Ev} {σ : L2.St} {H H' : Hp} (S : Sim C F ρ σ H) (x : Ext H H') : Sim C F ρ σ H' where
  len := S.len
  val := fun i s h1 h2 => let ⟨v, e, r⟩ := S.val i s h1 h2; ⟨v, e, r.ext x⟩
  own := fun i s h1 h2 => let ⟨a, e, r, q⟩ := S.own i s h1 h2; ⟨a, e, r.ext x, q⟩
  inj := S.inj
  par := S.par
  fdom := fun a h => let ⟨o, e⟩ := S.fdom a h; ⟨o, x a o e⟩
  f0 := S.f0
  fnew := S.fnew
  fr0 := fun a o h n => x a o (S.fr0 a o h n)
  dom0 := fun a o h => let ⟨o', e⟩ := S.dom0 a o h; ⟨o', x a o' e⟩
theorem Step.ext {ρ : Ev} {σ : L2.St} {F : Addr → Prop} {H H' : Hp} (x : Ext H H') : Step ρ σ F H ρ F H' := ⟨fun _ h => h, fun a o h _ => x a o h, fun _ h => .inl h, fun _ h => h, fun a o h => ⟨o, x a o h⟩⟩
/-- what is new is none of the entry's -/
theorem Sim.new0 {C : Ct} {F : Addr → Prop} {ρ : Ev} {σ : L2.St} {H : Hp} (S : Sim C F ρ σ H) {a : Addr} (h : H a = none) : C.H0 a = none := by
  cases e : C.H0 a with
  | none => rfl
  | some o =>
    obtain ⟨o', e'⟩ := S.dom0 a o e
    rw [h] at e'; cases e'
theorem Step.non {ρ ρ' : Ev} {σ : L2.St} {F F' : Addr → Prop} {H H' : Hp} (st : Step ρ σ F H ρ' F' H') {a : Addr} (h : H' a = none) : H a = none := by
  cases e : H a with
  | none => rfl
  | some o =>
    obtain ⟨o', e'⟩ := st.dom a o e
    rw [h] at e'; cases e'
/-- a result in a def's run -/
def ResV (K : PySem.W.Frag) (H : Hp) (ρ' : Ev) (σ : L2.St) (F' : Addr → Prop) (H' : Hp) (d : D) (fr : Bool) (v : V) : Prop :=
  if fr = true then ∃ a, v = .ref a ∧ H a = none ∧ Root K F' H' d a ∧ ¬ F' a ∧ ¬ Own ρ' σ a else Rep K F' H' d v
/-- one more is frozen -/
def addF (F : Addr → Prop) (a : Addr) : Addr → Prop := fun b => F b ∨ b = a
theorem Rep.more {F : Addr → Prop} {H : Hp} {d : D} {v : V} (a : Addr) (r : Rep K F H d v) : Rep K (addF F a) H d v := r.mono (fun _ h => .inl h) fun _ _ h _ => h
theorem Reps.more {F : Addr → Prop} {H : Hp} {d : List D} {v : List V} (a : Addr) (r : Reps K F H d v) : Reps K (addF F a) H d v := r.mono (fun _ h => .inl h) fun _ _ h _ => h
theorem Root.more {F : Addr → Prop} {H : Hp} {d : D} {b : Addr} (a : Addr) (r : Root K F H d b) : Root K (addF F a) H d b := by
  cases d with
  | list ds =>
    obtain ⟨vs, h, r⟩ := r
    exact ⟨vs, h, r.more a⟩
  | _ => exact (show False from r).elim
theorem Root.frozen {F : Addr → Prop} {H : Hp} {d : D} {a : Addr} (r : Root K F H d a) : Rep K (addF F a) H d (.ref a) := by
  cases d with
  | list ds =>
    obtain ⟨vs, h, r⟩ := r
    exact .lst (.inr rfl) (.inl h) (r.more a)
  | _ => exact (show False from r).elim
theorem Root.dom {F : Addr → Prop} {H : Hp} {d : D} {a : Addr} (r : Root K F H d a) : ∃ o, H a = some o := by
  obtain ⟨_, vs, _, e, _⟩ := r.lst
  exact ⟨_, e⟩
/-- a list that nobody owns is frozen -/
theorem Sim.freeze {C : Ct} {F : Addr → Prop} {ρ : Ev} {σ : L2.St} {H : Hp} {a : Addr} (S : Sim C F ρ σ H) (ha : ∃ o, H a = some o) (hn : ¬ Own ρ σ a) (h0 : C.P a ∨ C.H0 a = none) : Sim C (addF F a) ρ σ H where
  len := S.len
  val := fun i s h1 h2 => let ⟨v, e, r⟩ := S.val i s h1 h2; ⟨v, e, r.more a⟩
  own := fun i s h1 h2 => by
    obtain ⟨b, e, r, n, q⟩ := S.own i s h1 h2
    refine ⟨b, e, r.more a, fun z => ?_, q⟩
    rcases z with z | z
    · exact n z
    · subst z; exact hn ⟨i, s, h1, h2, e⟩
  inj := S.inj
  par := S.par
  fdom := fun b h => h.elim (S.fdom b) fun e => by rw [e]; exact ha
  f0 := fun b h => .inl (S.f0 b h)
  fnew := fun b h => h.elim (S.fnew b) fun e => by rw [e]; exact .inr h0
  fr0 := S.fr0
  dom0 := S.dom0
theorem Step.freeze {ρ ρ' : Ev} {σ : L2.St} {F F' : Addr → Prop} {H H' : Hp} {a : Addr} (st : Step ρ σ F H ρ' F' H') (h : Own ρ σ a ∨ H a = none) : Step ρ σ F H ρ' (addF F' a) H' :=
  ⟨fun b h => .inl (st.sub b h), st.fr, fun b hb => hb.elim (st.new b) fun e => by rw [e]; exact .inr h, st.own, st.dom⟩
/-- a result is frozen -/
theorem ResV.freeze {C : Ct} {ρ ρ' : Ev} {σ : L2.St} {F F' : Addr → Prop} {H H' : Hp} {d : D} {fr : Bool} {v : V} (S : Sim C F ρ σ H) (S' : Sim C F' ρ' σ H') (st : Step ρ σ F H ρ' F' H') (r : ResV C.K H ρ' σ F' H' d fr v) :
    ∃ F'', Sim C F'' ρ' σ H' ∧ Step ρ σ F H ρ' F'' H' ∧ Rep C.K F'' H' d v := by
  cases fr with
  | false => exact ⟨F', S', st, r⟩
  | true =>
    obtain ⟨a, rfl, hn, r, nf, no⟩ := r
    exact ⟨addF F' a, S'.freeze r.dom no (.inr (S.new0 hn)), st.freeze (.inr hn), r.frozen⟩
/-- a rule's result is one in the run -/
theorem ResB.run {C : Ct} {ρ : Ev} {σ : L2.St} {F : Addr → Prop} {H H' : Hp} {d : D} {fr : Bool} {v : V} (S : Sim C F ρ σ H) (r : ResB C.K F H H' d fr v) : ResV C.K H ρ σ F H' d fr v := by
  cases fr with
  | false => exact r
  | true =>
    obtain ⟨a, rfl, hn, r⟩ := r
    refine ⟨a, rfl, hn, r, fun z => ?_, fun z => ?_⟩
    · obtain ⟨o, e⟩ := S.fdom a z
      rw [hn] at e; cases e
    · obtain ⟨i, s, h1, h2, h3⟩ := z
      obtain ⟨b, e, r, _⟩ := S.own i s h1 h2
      rw [h3] at e; cases e
      obtain ⟨o, e⟩ := r.dom
      rw [hn] at e; cases e
theorem ResV.base {ρ ρ1 ρ2 : Ev} {σ : L2.St} {F F1 F2 : Addr → Prop} {H H1 H2 : Hp} {d : D} {fr : Bool} {v : V} (st : Step ρ σ F H ρ1 F1 H1) (r : ResV K H1 ρ2 σ F2 H2 d fr v) : ResV K H ρ2 σ F2 H2 d fr v := by
  cases fr with
  | false => exact r
  | true =>
    obtain ⟨a, e, hn, q⟩ := r
    exact ⟨a, e, st.non hn, q⟩

/-! ### operands -/
def ResO (K : PySem.W.Frag) (F : Addr → Prop) (H : Hp) (σ : L2.St) (o : Opn) (v : V) : Prop := match o with
  | .val d => Rep K F H d v
  | .bor i => σ[i]? = some (some v)
inductive ResOs (K : PySem.W.Frag) (F : Addr → Prop) (H : Hp) (σ : L2.St) : List Opn → List V → Prop
  | nil : ResOs K F H σ [] []
  | cons {o : Opn} {v : V} {os : List Opn} {vs : List V} : ResO K F H σ o v → ResOs K F H σ os vs → ResOs K F H σ (o :: os) (v :: vs)
theorem ResO.step {C : Ct} {ρ ρ' : Ev} {σ : L2.St} {F F' : Addr → Prop} {H H' : Hp} {o : Opn} {v : V} (st : Step ρ σ F H ρ' F' H') (S : Sim C F ρ σ H) (r : ResO K F H σ o v) : ResO K F' H' σ o v := by
  cases o with
  | val d => exact st.rep S r
  | bor i => exact r
theorem ResOs.step {C : Ct} {ρ ρ' : Ev} {σ : L2.St} {F F' : Addr → Prop} {H H' : Hp} (st : Step ρ σ F H ρ' F' H') (S : Sim C F ρ σ H) : ∀ {os : List Opn} {vs : List V}, ResOs K F H σ os vs → ResOs K F' H' σ os vs
  | _, _, .nil => .nil
  | _, _, .cons h r => .cons (h.step st S) (ResOs.step st S r)
theorem ResO.get {C : Ct} {ρ : Ev} {σ : L2.St} {F : Addr → Prop} {H : Hp} {o : Opn} {v : V} {d : D} (S : Sim C F ρ σ H) (r : ResO C.K F H σ o v) (h : o.get ρ = some d) : RepW C.K F H d v := by
  cases o with
  | val x => cases h; exact .inl r
  | bor i =>
    have r : σ[i]? = some (some v) := r
    have h : (match ρ[i]? with | some (some s) => some s.d | _ => none) = some d := h
    split at h
    · rename_i s hs
      cases h
      cases ho : s.own with
      | false =>
        obtain ⟨w, e, q⟩ := S.val i s hs ho
        rw [r] at e; cases e
        exact .inl q
      | true =>
        obtain ⟨a, e, q, _⟩ := S.own i s hs ho
        rw [r] at e; cases e
        exact .inr ⟨a, rfl, q⟩
    · cases h
inductive RepWs (K : PySem.W.Frag) (F : Addr → Prop) (H : Hp) : List D → List V → Prop
  | nil : RepWs K F H [] []
  | cons {d : D} {v : V} {ds : List D} {vs : List V} : RepW K F H d v → RepWs K F H ds vs → RepWs K F H (d :: ds) (v :: vs)
theorem ResOs.gets {C : Ct} {ρ : Ev} {σ : L2.St} {F : Addr → Prop} {H : Hp} (S : Sim C F ρ σ H) : ∀ {os : List Opn} {vs : List V} {ds : List D}, ResOs C.K F H σ os vs → gets ρ os = some ds → RepWs C.K F H ds vs
  | _, _, ds, .nil, h => by
    have h : some [] = some ds := h
    cases h; exact .nil
  | _, _, ds, .cons (o := o) (os := os) r t, h => by
    unfold EV.gets at h
    cases h1 : o.get ρ with
    | none => rw [h1] at h; simp at h
    | some d =>
      cases h2 : EV.gets ρ os with
      | none => rw [h1, h2] at h; simp at h
      | some ds' =>
        rw [h1, h2] at h
        have h : some (d :: ds') = some ds := h
        cases h
        exact .cons (r.get S h1) (ResOs.gets S t h2)
end EV

/-! EvC: rules: what an expression's run answers, by the small language. -/
namespace EV
open PySem PySem.Spec PyProof.Rows L2
theorem obind {α β : Type} {o : Option α} {f : α → Option β} {b : β} (h : (o >>= f) = some b) : ∃ a, o = some a ∧ f a = some b := by
  cases o with
  | none => exact nomatch h
  | some a => exact ⟨a, rfl, h⟩
theorem omap {α β : Type} {o : Option α} {f : α → β} {b : β} (h : o.map f = some b) : ∃ a, o = some a ∧ f a = b := by
  cases o with
  | none => exact nomatch h
  | some a => exact ⟨a, rfl, Option.some.inj h⟩
def tE (C : Ct) (f : EvR) : TE := fun σ H Q => ∃ F ρ d fr ρ', Sim C F ρ σ H ∧ f ρ = some (d, fr, ρ') ∧ ∀ F' H' v, Sim C F' ρ' σ H' → Step ρ σ F H ρ' F' H' → ResV C.K H ρ' σ F' H' d fr v → Q v H'
def tV (C : Ct) (f : EvR) : TE := fun σ H Q => ∃ F ρ d fr ρ', Sim C F ρ σ H ∧ f ρ = some (d, fr, ρ') ∧ ∀ F' H' v, Sim C F' ρ' σ H' → Step ρ σ F H ρ' F' H' → Rep C.K F' H' d v → Q v H'
def tO (C : Ct) (f : EvO) : TE := fun σ H Q => ∃ F ρ o ρ', Sim C F ρ σ H ∧ f ρ = some (o, ρ') ∧ ∀ F' H' v, Sim C F' ρ' σ H' → Step ρ σ F H ρ' F' H' → ResO C.K F' H' σ o v → Q v H'
def tOs (C : Ct) (f : EvOs) : TA := fun σ H Q => ∃ F ρ os ρ', Sim C F ρ σ H ∧ f ρ = some (os, ρ') ∧ ∀ F' H' vs, Sim C F' ρ' σ H' → Step ρ σ F H ρ' F' H' → ResOs C.K F' H' σ os vs → Q vs H'
/-- a test -/
def tB' (C : Ct) (f : EvR) : TT := fun σ H Q => ∃ F ρ b fr ρ', Sim C F ρ σ H ∧ f ρ = some (.bool b, fr, ρ') ∧ ∀ F' H', Sim C F' ρ' σ H' → Step ρ σ F H ρ' F' H' → Q b H'
section
variable {X : Cx} {e a b c : Expr} {t t' ta tb : TE} {pos : Pos} {C : Ct} {Φ : Orc}
theorem pe_mono (h : PE X e t) (m : ∀ σ H Q, t' σ H Q → t σ H Q) : PE X e t' := ⟨fun pins s σ H Q I hw => h.run pins s σ H Q I (m _ _ _ hw)⟩
theorem pt_mono {t t' : TT} (h : PT X e t) (m : ∀ σ H Q, t' σ H Q → t σ H Q) : PT X e t' := ⟨fun pins s σ H Q I hw => h.run pins s σ H Q I (m _ _ _ hw)⟩
theorem pw_mono {t t' : TT} (h : PW X e t) (m : ∀ σ H Q, t' σ H Q → t σ H Q) : PW X e t' := ⟨fun wh pins s σ H Q I hw => h.run wh pins s σ H Q I (m _ _ _ hw)⟩
theorem pa_mono {es : List Expr} {t t' : TA} (h : PA X es t) (m : ∀ σ H Q, t' σ H Q → t σ H Q) : PA X es t' := ⟨fun p pins s σ H Q I hw => h.run p pins s σ H Q I (m _ _ _ hw)⟩
theorem ps_mono {st : Stmt} {t t' : TS} (h : PS X st t) (m : ∀ D σ H, t' D σ H → t D σ H) : PS X st t' := ⟨fun pins s σ H D I hw => h.run pins s σ H D I (m _ _ _ hw)⟩
theorem pss_mono {st : List Stmt} {t t' : TS} (h : PSs X st t) (m : ∀ D σ H, t' D σ H → t D σ H) : PSs X st t' := ⟨fun pins s σ H D I hw => h.run pins s σ H D I (m _ _ _ hw)⟩

theorem pe_V {f : EvR} (h : PE X e (tE C f)) : PE X e (tV C f) := pe_mono h fun σ H Q ⟨F, ρ, d, fr, ρ', S, hf, k⟩ =>
  ⟨F, ρ, d, fr, ρ', S, hf, fun F' H' v S' st r => let ⟨F'', S2, st2, r2⟩ := r.freeze S S' st; k F'' H' v S2 st2 r2⟩
theorem pe_O {f : EvR} (h : PE X e (tE C f)) : PE X e (tO C fun ρ => (f ρ).map fun x => (.val x.1, x.2.2)) := pe_mono (pe_V h) fun σ H Q ⟨F, ρ, o, ρ', S, hf, k⟩ => by
  obtain ⟨⟨d, fr, ρ1⟩, h1, h2⟩ := omap hf
  cases h2
  exact ⟨F, ρ, d, fr, ρ1, S, h1, fun F' H' v S' st r => k F' H' v S' st r⟩
/-- a name as an operand -/
theorem pe_varO {i : Nat} {r : EvR} (h : PE X e (tVar i)) : PE X e (tO C (opnd (.var i) r)) := pe_mono h fun σ H Q ⟨F, ρ, o, ρ', S, hf, k⟩ => by
  have hf : (match ρ[i]? with
    | some (some s) => if s.own then some (Opn.bor i, ρ) else some (Opn.val s.d, ρ)
    | _ => none) = some (o, ρ') := hf
  split at hf
  · rename_i s hs
    cases ho : s.own with
    | true =>
      rw [ho] at hf
      cases hf
      obtain ⟨a, e, _⟩ := S.own i s hs ho
      exact ⟨.ref a, e, k F H _ S (Step.refl _ _ _ _) e⟩
    | false =>
      rw [ho] at hf
      cases hf
      obtain ⟨v, e, q⟩ := S.val i s hs ho
      exact ⟨v, e, k F H _ S (Step.refl _ _ _ _) q⟩
  · cases hf
/-- the list of a name is frozen -/
theorem Sim.freezeAt {F : Addr → Prop} {ρ : Ev} {σ : L2.St} {H : Hp} {i : Nat} {s : Sl} {a : Addr} (S : Sim C F ρ σ H) (hs : ρ[i]? = some (some s)) (ho : s.own = true) (ha : σ[i]? = some (some (.ref a))) :
    Sim C (addF F a) (ρ.set i (some ⟨s.d, false, s.lk⟩)) σ H ∧ Step ρ σ F H (ρ.set i (some ⟨s.d, false, s.lk⟩)) (addF F a) H ∧ Rep C.K (addF F a) H s.d (.ref a) := by
  obtain ⟨b, e, r, nf, k1, k2⟩ := S.own i s hs ho
  rw [ha] at e; cases e
  have hi : i < ρ.length := (List.getElem?_eq_some_iff.mp hs).1
  have look : ∀ j t, (ρ.set i (some ⟨s.d, false, s.lk⟩))[j]? = some (some t) → (j = i ∧ t = ⟨s.d, false, s.lk⟩) ∨ (j ≠ i ∧ ρ[j]? = some (some t)) := fun j t h => by
    by_cases hj : j = i
    · subst hj
      rw [List.getElem?_set_self hi] at h
      exact .inl ⟨rfl, (Option.some.inj (Option.some.inj h)).symm⟩
    · rw [List.getElem?_set_ne (Ne.symm hj)] at h
      exact .inr ⟨hj, h⟩
  have own : ∀ b, Own (ρ.set i (some ⟨s.d, false, s.lk⟩)) σ b → Own ρ σ b ∧ b ≠ a := fun b ⟨j, t, h1, h2, h3⟩ => by
    rcases look j t h1 with ⟨rfl, rfl⟩ | ⟨hj, h1⟩
    · cases h2
    · refine ⟨⟨j, t, h1, h2, h3⟩, fun z => ?_⟩
      subst z
      exact hj (S.inj j i t s _ h1 hs h2 ho h3 ha)
  refine ⟨⟨by rw [List.length_set]; exact S.len, fun j t h1 h2 => ?_, fun j t h1 h2 => ?_, fun j l t u c h1 h2 h3 h4 h5 h6 => ?_, fun j c h => ?_, fun c h => ?_, fun c h => .inl (S.f0 c h), fun c h => ?_, S.fr0, S.dom0⟩,
    ⟨fun _ h => .inl h, fun _ _ h _ => h, fun c h => h.elim .inl fun e => by rw [e]; exact .inr (.inl ⟨i, s, hs, ho, ha⟩), fun c h => (own c h).1, fun _ o h => ⟨o, h⟩⟩, r.frozen⟩
  · rcases look j t h1 with ⟨rfl, rfl⟩ | ⟨hj, h1⟩
    · exact ⟨_, ha, r.frozen⟩
    · obtain ⟨v, e, q⟩ := S.val j t h1 h2
      exact ⟨v, e, q.more a⟩
  · rcases look j t h1 with ⟨rfl, rfl⟩ | ⟨hj, h1'⟩
    · cases h2
    · obtain ⟨c, e, q, n, k⟩ := S.own j t h1' h2
      exact ⟨c, e, q.more a, fun z => z.elim n fun z => (own c ⟨j, t, h1, h2, e⟩).2 z, k⟩
  · rcases look j t h1 with ⟨rfl, rfl⟩ | ⟨hj, h1⟩
    · cases h3
    · rcases look l u h2 with ⟨rfl, rfl⟩ | ⟨hl, h2⟩
      · cases h4
      · exact S.inj j l t u c h1 h2 h3 h4 h5 h6
  · obtain ⟨e, t, h1, h2⟩ := S.par j c h
    refine ⟨e, ?_⟩
    by_cases hj : j = i
    · subst hj
      rw [hs] at h1; cases h1
      exact ⟨_, List.getElem?_set_self hi, h2⟩
    · exact ⟨t, by rw [List.getElem?_set_ne (Ne.symm hj)]; exact h1, h2⟩
  · exact h.elim (S.fdom c) fun e => by rw [e]; exact r.dom
  · rcases h with h | h
    · exact S.fnew c h
    · subst h
      cases hl : s.lk with
      | false => exact .inr (.inr (k1 hl))
      | true => exact .inr (.inl ⟨i, k2 hl⟩)
theorem pe_varE {i : Nat} (h : PE X e (tVar i)) : PE X e (tE C (evVar i)) := pe_mono h fun σ H Q ⟨F, ρ, d, fr, ρ', S, hf, k⟩ => by
  unfold evVar at hf
  split at hf
  · rename_i s hs
    cases hf
    cases ho : s.own with
    | true =>
      obtain ⟨a, e, _⟩ := S.own i s hs ho
      obtain ⟨S', st, r⟩ := S.freezeAt hs ho e
      rw [ho] at k
      exact ⟨.ref a, e, k _ H _ S' st r⟩
    | false =>
      obtain ⟨v, e, q⟩ := S.val i s hs ho
      rw [ho] at k
      exact ⟨v, e, k F H _ S (Step.refl _ _ _ _) q⟩
  · cases hf
/-- a value that is known -/
theorem pe_C {d : D} {v : V} (h : PE X e (tC v)) (r : ∀ F H, Rep C.K F H d v) {f : EvR} (hf : ∀ ρ, f ρ = some (d, false, ρ)) : PE X e (tE C f) := pe_mono h fun σ H Q ⟨F, ρ, d', fr, ρ', S, h1, k⟩ => by
  rw [hf] at h1
  cases h1
  exact k F H v S (Step.refl _ _ _ _) (r F H)

/-! ### operators -/
def rBin (K : PySem.W.Frag) (g : D → D → Option (D × Bool)) : R2 := fun x y H Q => ∃ F d1 d2 d fr, RepW K F H d1 x ∧ RepW K F H d2 y ∧ g d1 d2 = some (d, fr) ∧ ∀ H' v, Ext H H' → ResB K F H H' d fr v → Q v H'
theorem bin_read {g : D → D → Option (D × Bool)} {ga gb : EvO} {σ : L2.St} {H : Hp} {Q : VK} (h : tE C (evBin g ga gb) σ H Q) : tOp (rBin C.K g) (tO C ga) (tO C gb) σ H Q := by
  obtain ⟨F, ρ, d, fr, ρ', S, hf, k⟩ := h
  obtain ⟨⟨x, ρ1⟩, h1, hf⟩ := obind hf
  obtain ⟨⟨y, ρ2⟩, h2, hf⟩ := obind hf
  obtain ⟨dx, h3, hf⟩ := obind hf
  obtain ⟨dy, h4, hf⟩ := obind hf
  obtain ⟨⟨d', fr'⟩, h5, hf⟩ := obind hf
  cases hf
  refine ⟨F, ρ, x, ρ1, S, h1, fun F1 H1 v S1 st1 r1 => ⟨F1, ρ1, y, ρ', S1, h2, fun F2 H2 w S2 st2 r2 => ⟨F2, dx, dy, d, fr, (r1.step st2 S1).get S2 h3, r2.get S2 h4, h5, fun H' z x r => ?_⟩⟩⟩
  exact k F2 H' z (S2.ext x) (st1.trans (st2.trans (Step.ext x))) ((r.run S2).base (st1.trans st2))
theorem pe_bin {op : Operator} {g : D → D → Option (D × Bool)} {ga gb : EvO} (rule : OpR X (binaryOp op) (rBin C.K g)) (ha : PE X a (tO C ga)) (hb : PE X b (tO C gb)) : PE X (.BinOp a op b pos) (tE C (evBin g ga gb)) := pe_mono (pe_op rule ha hb) fun σ H Q h => bin_read h
def rCmp (K : PySem.W.Frag) (g : D → D → Option Bool) : R2 := fun x y H Q => ∃ F d1 d2 c, RepW K F H d1 x ∧ RepW K F H d2 y ∧ g d1 d2 = some c ∧ ∀ H', Ext H H' → Q (.bl c) H'
theorem cmp_read {g : D → D → Option Bool} {ga gb : EvO} {σ : L2.St} {H : Hp} {Q : VK} (h : tE C (evCmp g ga gb) σ H Q) : tOp (rCmp C.K g) (tO C ga) (tO C gb) σ H Q := by
  obtain ⟨F, ρ, d, fr, ρ', S, hf, k⟩ := h
  obtain ⟨⟨x, ρ1⟩, h1, hf⟩ := obind hf
  obtain ⟨⟨y, ρ2⟩, h2, hf⟩ := obind hf
  obtain ⟨dx, h3, hf⟩ := obind hf
  obtain ⟨dy, h4, hf⟩ := obind hf
  obtain ⟨c, h5, hf⟩ := obind hf
  cases hf
  refine ⟨F, ρ, x, ρ1, S, h1, fun F1 H1 v S1 st1 r1 => ⟨F1, ρ1, y, ρ', S1, h2, fun F2 H2 w S2 st2 r2 => ⟨F2, dx, dy, c, (r1.step st2 S1).get S2 h3, r2.get S2 h4, h5, fun H' x => ?_⟩⟩⟩
  exact k F2 H' _ (S2.ext x) (st1.trans (st2.trans (Step.ext x))) (.bl c)
theorem pe_cmpD {op : CmpOp} {g : D → D → Option Bool} {ga gb : EvO} (rule : OpR X (compareOp op) (rCmp C.K g)) (ha : PE X a (tO C ga)) (hb : PE X b (tO C gb)) (hm : behindInMarks op b = false) : PE X (.Compare a [op] [b] pos) (tE C (evCmp g ga gb)) :=
  pe_mono (pe_cmpR rule ha hb hm) fun _ _ _ h => cmp_read h
theorem tB_of {f : EvR} {σ : L2.St} {H : Hp} {Q : Bool → Hp → Prop} (h : tB' C f σ H Q) : tE C f σ H fun x H' => ∃ k, x = .bl k ∧ Q k H' := by
  obtain ⟨F, ρ, b, fr, ρ', S, hf, k⟩ := h
  refine ⟨F, ρ, .bool b, fr, ρ', S, hf, fun F' H' v S' st r => ?_⟩
  cases fr with
  | true =>
    obtain ⟨a, _, _, r, _⟩ := r
    exact (show False from r).elim
  | false =>
    have r : Rep C.K F' H' (.bool b) v := r
    cases r
    exact ⟨b, rfl, k F' H' S' st⟩
theorem pt_cmpD {op : CmpOp} {g : D → D → Option Bool} {ga gb : EvO} (rule : OpR X (compareOp op) (rCmp C.K g)) (ha : PE X a (tO C ga)) (hb : PE X b (tO C gb)) (hm : behindInMarks op b = false) : PT X (.Compare a [op] [b] pos) (tB' C (evCmp g ga gb)) :=
  pt_mono (pt_cmpR rule ha hb hm) fun _ _ _ h => cmp_read (tB_of h)
/-- a value that is a bool, as a test -/
theorem pt_valD {f : EvR} (h : PE X e (tE C f)) (he : ∀ whole, isTrue e X.env whole = (do let v ← whole; standAt e.pos; holding [v] (truthy v))) : PT X e (tB' C f) :=
  pt_mono (pt_val h he) fun _ _ _ h => tB_of h
/-! and, or, not, if else -/
theorem ResV.bool {K : PySem.W.Frag} {H H' : Hp} {ρ' : Ev} {σ : L2.St} {F' : Addr → Prop} {b fr : Bool} {v : V} (r : ResV K H ρ' σ F' H' (.bool b) fr v) : v = .bl b := by
  cases fr with
  | true =>
    obtain ⟨a, _, _, r, _⟩ := r
    exact (show False from r).elim
  | false =>
    have r : Rep K F' H' (.bool b) v := r
    cases r
    rfl
variable {f g : EvR} {rest : List Expr}
theorem br {h : Bool → EvR} {ρ : Ev} {r : D × Bool × Ev} (hf : evBr f h ρ = some r) : ∃ c fr ρ1, f ρ = some (.bool c, fr, ρ1) ∧ h c ρ1 = some r := by
  unfold evBr at hf
  split at hf
  · rename_i c fr ρ1 e
    exact ⟨c, fr, ρ1, e, hf⟩
  · cases hf
/-- a first part that answers a bool, then by the answer -/
theorem bool_first {h : Bool → EvR} {σ : L2.St} {H : Hp} {Q : VK} (hw : tE C (evBr f h) σ H Q) : tE C f σ H fun x H1 => ∃ c, x = .bl c ∧ tE C (h c) σ H1 Q := by
  obtain ⟨F, ρ, d, fr, ρ', S, hf, k⟩ := hw
  obtain ⟨c, fx, ρ1, h1, h2⟩ := br hf
  refine ⟨F, ρ, _, fx, ρ1, S, h1, fun F1 H1 v S1 st1 r1 => ?_⟩
  exact ⟨c, r1.bool, F1, ρ1, d, fr, ρ', S1, h2, fun F' H' w S' st r => k F' H' w S' (st1.trans st) (r.base st1)⟩
theorem tE_bool {σ : L2.St} {H : Hp} {Q : VK} {c : Bool} (h : tE C (evC (.bool c)) σ H Q) : Q (.bl c) H := by
  obtain ⟨F, ρ, d, fr, ρ', S, hf, k⟩ := h
  cases hf
  exact k F H _ S (Step.refl _ _ _ _) (.bl c)
theorem tE_mono {σ : L2.St} {H : Hp} {Q Q' : VK} (h : tE C f σ H Q) (m : ∀ c H, Q c H → Q' c H) : tE C f σ H Q' := by
  obtain ⟨F, ρ, d, fr, ρ', S, hf, k⟩ := h
  exact ⟨F, ρ, d, fr, ρ', S, hf, fun F' H' v S' st r => m _ _ (k F' H' v S' st r)⟩
theorem pe_andD (ha : PE X a (tE C f)) (hb : PE X (.BoolOp .And (b :: rest) pos) (tE C g)) : PE X (.BoolOp .And (a :: b :: rest) pos) (tE C (evBr f fun c => if c then g else evC (.bool false))) :=
  pe_mono (pe_and ha hb) fun σ H Q h => tE_mono (bool_first h) fun x H1 ⟨c, e, q⟩ => ⟨c, e, by
    cases c with
    | true => exact q
    | false => exact tE_bool q⟩
theorem pe_orD (ha : PE X a (tE C f)) (hb : PE X (.BoolOp .Or (b :: rest) pos) (tE C g)) : PE X (.BoolOp .Or (a :: b :: rest) pos) (tE C (evBr f fun c => if c then evC (.bool true) else g)) :=
  pe_mono (pe_or ha hb) fun σ H Q h => tE_mono (bool_first h) fun x H1 ⟨c, e, q⟩ => ⟨c, e, by
    cases c with
    | true => exact tE_bool q
    | false => exact q⟩
/-- .. of tests -/
theorem test_first {h : Bool → EvR} {σ : L2.St} {H : Hp} {Q : Bool → Hp → Prop} (hw : tB' C (evBr f h) σ H Q) : tB' C f σ H fun c H1 => tB' C (h c) σ H1 Q := by
  obtain ⟨F, ρ, d, fr, ρ', S, hf, k⟩ := hw
  obtain ⟨c, fx, ρ1, h1, h2⟩ := br hf
  refine ⟨F, ρ, _, fx, ρ1, S, h1, fun F1 H1 S1 st1 => ?_⟩
  exact ⟨F1, ρ1, d, fr, ρ', S1, h2, fun F' H' S' st => k F' H' S' (st1.trans st)⟩
theorem tB_bool {σ : L2.St} {H : Hp} {Q : Bool → Hp → Prop} {c : Bool} (h : tB' C (evC (.bool c)) σ H Q) : Q c H := by
  obtain ⟨F, ρ, d, fr, ρ', S, hf, k⟩ := h
  cases hf
  exact k F H S (Step.refl _ _ _ _)
theorem tB_mono {σ : L2.St} {H : Hp} {Q Q' : Bool → Hp → Prop} (h : tB' C f σ H Q) (m : ∀ c H, Q c H → Q' c H) : tB' C f σ H Q' := by
  obtain ⟨F, ρ, d, fr, ρ', S, hf, k⟩ := h
  exact ⟨F, ρ, d, fr, ρ', S, hf, fun F' H' S' st => m _ _ (k F' H' S' st)⟩
theorem pw_andD (ha : PT X a (tB' C f)) (hb : PW X (.BoolOp .And (b :: rest) pos) (tB' C g)) : PW X (.BoolOp .And (a :: b :: rest) pos) (tB' C (evBr f fun c => if c then g else evC (.bool false))) :=
  pw_mono (pw_and ha hb) fun σ H Q h => tB_mono (test_first h) fun c H1 q => by
    cases c with
    | true => exact q
    | false => exact tB_bool q
theorem pw_orD (ha : PT X a (tB' C f)) (hb : PW X (.BoolOp .Or (b :: rest) pos) (tB' C g)) : PW X (.BoolOp .Or (a :: b :: rest) pos) (tB' C (evBr f fun c => if c then evC (.bool true) else g)) :=
  pw_mono (pw_or ha hb) fun σ H Q h => tB_mono (test_first h) fun c H1 q => by
    cases c with
    | true => exact tB_bool q
    | false => exact q
theorem pt_notD (ha : PT X a (tB' C f)) : PT X (.UnaryOp .Not a pos) (tB' C (evBr f fun c => evC (.bool (!c)))) :=
  pt_mono (pt_not ha) fun σ H Q h => tB_mono (test_first h) fun c H1 q => tB_bool q
theorem pe_notD (ha : PE X a (tE C f)) : PE X (.UnaryOp .Not a pos) (tE C (evBr f fun c => evC (.bool (!c)))) :=
  pe_mono (pe_not ha) fun σ H Q h => tE_mono (bool_first h) fun x H1 ⟨c, e, q⟩ => ⟨c, e, tE_bool q⟩
theorem pe_iteD {t : EvR} (hc : PT X c (tB' C t)) (ha : PE X a (tE C f)) (hb : PE X b (tE C g)) : PE X (.IfExp c a b pos) (tE C (evBr t fun c => if c then f else g)) :=
  pe_mono (pe_ifExp hc ha hb) fun σ H Q ⟨F, ρ, d, fr, ρ', S, hf, k⟩ => by
    obtain ⟨c, fx, ρ1, h1, h2⟩ := br hf
    refine ⟨F, ρ, c, fx, ρ1, S, h1, fun F1 H1 S1 st1 => ?_⟩
    have go : tE C (if c then f else g) σ H1 Q := ⟨F1, ρ1, d, fr, ρ', S1, h2, fun F' H' v S' st r => k F' H' v S' (st1.trans st) (r.base st1)⟩
    cases c with
    | true => exact go
    | false => exact go
end
end EV

/-! EvD: operators, subscripts, built-ins on data. -/
namespace EV
open PySem PySem.Spec PyProof.Rows L2
section
variable {K : PySem.W.Frag} {F : Addr → Prop} {H : Hp} {x : V}
theorem RepW.non (r : RepW K F H .none x) : x = .non := by
  rcases r with r | ⟨a, _, r⟩
  · cases r; rfl
  · exact (show False from r).elim
theorem RepW.bl {b : Bool} (r : RepW K F H (.bool b) x) : x = .bl b := by
  rcases r with r | ⟨a, _, r⟩
  · cases r; rfl
  · exact (show False from r).elim
theorem RepW.int {i : Int} (r : RepW K F H (.int i) x) : x = .int i := by
  rcases r with r | ⟨a, _, r⟩
  · cases r; rfl
  · exact (show False from r).elim
theorem RepW.str {i : Str} (r : RepW K F H (.str i) x) : x = .str i := by
  rcases r with r | ⟨a, _, r⟩
  · cases r; rfl
  · exact (show False from r).elim
theorem RepW.tup {ds : List D} (r : RepW K F H (.tuple ds) x) : ∃ a vs, x = .ref a ∧ SqT K H a vs ∧ Reps K F H ds vs := by
  rcases r with r | ⟨a, _, r⟩
  · cases r with | tup h q => exact ⟨_, _, rfl, h, q⟩
  · exact (show False from r).elim
theorem RepW.lst {ds : List D} (r : RepW K F H (.list ds) x) : ∃ a vs, x = .ref a ∧ RdL K H a vs ∧ Reps K F H ds vs := by
  rcases r with r | ⟨a, rfl, vs, h, q⟩
  · cases r with
    | lst _ h q => exact ⟨_, _, rfl, .inl h, q⟩
    | lstK h q => exact ⟨_, _, rfl, .inr h, q⟩
  · exact ⟨a, vs, rfl, .inl (.inl h), q⟩
theorem SqL.rd {a : Addr} {vs : List V} (h : Rd H a (.lst vs)) : SqL K H a vs := .inl h
mutual
theorem Rep.dp : ∀ {d : D} {v : V}, Rep K F H d v → Dp K H v d
  | _, _, .non => .non
  | _, _, .bl b => .bl b
  | _, _, .int i => .int i
  | _, _, .str x => .str x
  | _, _, .tup h r => .tup h (Reps.dp r)
  | _, _, .lst _ h r => .lst (SqL.rd h) (Reps.dp r)
  | _, _, .lstK h r => .lst (RdL.sq (.inr h)) (Reps.dp r)
theorem Reps.dp : ∀ {ds : List D} {vs : List V}, Reps K F H ds vs → DpAll K H vs ds
  | _, _, .nil => .nil
  | _, _, .cons h r => .cons (Rep.dp h) (Reps.dp r)
end
theorem RepW.dp {d : D} (r : RepW K F H d x) : Dp K H x d := by
  rcases r with r | ⟨a, rfl, r⟩
  · exact r.dp
  · obtain ⟨ds, vs, rfl, h, q⟩ := r.lst
    exact .lst (SqL.of h) q.dp
theorem ResB.val {H' : Hp} {d : D} {v : V} (r : Rep K F H' d v) : ResB K F H H' d false v := r
theorem ResB.new {ds : List D} {p : Addr} {vs : List V} (hp : H p = none) (r : Reps K F H ds vs) : ResB K F H (upd H p (.lst vs)) (.list ds) true (.ref p) :=
  ⟨p, rfl, hp, vs, upd_same, r.ext (Ext.new hp)⟩
theorem ResB.newT {ds : List D} {p : Addr} {vs : List V} (hp : H p = none) (r : Reps K F H ds vs) : ResB K F H (upd H p (.tup vs)) (.tuple ds) false (.ref p) :=
  show Rep K F _ _ _ from .tup (SqT.of upd_same) (r.ext (Ext.new hp))
end
section
variable {X : Cx}
theorem _root_.L2.Inv.rlst {pins : List (Addr × Obj)} {σ : L2.St} {H : Hp} {s : Shared} {l : Addr} {xs : List V} (I : Inv X pins σ H s) (h : RdL X.K H l xs) : xs.length ≤ sizeLine ∧ ∃ (its : List Value) (n : Nat), Vals xs its ∧ xs.length = its.length ∧ s.heap.get? l = some { cls := .type "list", data := .seq its.toArray n } := by
  rcases h with h | ⟨its, n, h1, h2, h3⟩
  · obtain ⟨z, its, n, r, e⟩ := h.ok I.hok
    exact ⟨z, its, n, r, r.length, e⟩
  · have e := I.kIn _ _ h1
    have hl := h3.length
    exact ⟨by rw [hl, Array.length_toList]; exact h2, its.toList, n, h3, h3.length, by simpa using e⟩
def rCatR (K : PySem.W.Frag) : R2 := fun x y H Q => ∃ l b xs zs, x = .ref l ∧ y = .ref b ∧ RdL K H l xs ∧ RdL K H b zs ∧ xs.length + zs.length ≤ sizeLine ∧ ∀ p, H p = none → Q (.ref p) (upd H p (.lst (xs ++ zs)))
theorem op_catR : OpR X (binaryOp .Add) (rCatR X.K) := by
  intro pins s σ H x y v u Q I rx ry h
  obtain ⟨l, b, xs, zs, rfl, rfl, hH, hB, hz, q⟩ := h
  cases rx
  cases ry
  obtain ⟨z, its, n, r, hl, e⟩ := I.rlst hH
  obtain ⟨z2, its2, n2, r2, hl2, e2⟩ := I.rlst hB
  refine PySem.P.add_list e e2 ?_ (by rw [List.size_toArray, List.size_toArray]; omega)
  have ea : its.toArray ++ its2.toArray = (its ++ its2).toArray := by simp
  rw [ea]
  exact ⟨.ref _, _, I.lnew (t' := s.toks) (r.append r2) (by rw [List.length_append]; omega), rfl, q _ I.fresh⟩
def rRepR (K : PySem.W.Frag) : R2 := fun x y H Q => ∃ l k xs, x = .ref l ∧ y = .int k ∧ RdL K H l xs ∧ -(2 ^ 63) ≤ k ∧ k < 2 ^ 63 ∧ xs.length * k.toNat ≤ sizeLine ∧
  ∀ p, H p = none → Q (.ref p) (upd H p (.lst (List.replicate k.toNat xs).flatten))
theorem op_repR : OpR X (binaryOp .Mult) (rRepR X.K) := by
  intro pins s σ H x y v u Q I rx ry h
  obtain ⟨l, k, xs, rfl, rfl, hH, h1, h2, hz, q⟩ := h
  cases rx
  obtain ⟨t, rfl⟩ := ry
  obtain ⟨z, its, n, r, hl, e⟩ := I.rlst hH
  have hlen : its.toArray.size * k.toNat ≤ sizeLine := by rw [List.size_toArray, ← hl]; exact hz
  have hcap : ¬ its.toArray.size * k.toNat > (2 ^ 63 - 1) / 8 := by
    have : (sizeLine : Nat) ≤ (2 ^ 63 - 1) / 8 := by decide
    omega
  have hfit : ¬ (!Builtin.List.listFitsIndex k) = true := by
    rw [fitsIndex_both h1 h2]
    exact Bool.false_ne_true
  have hlong : ¬ Builtin.List.listTooLong (its.toArray.size * k.toNat) = true := by
    rw [notLongL hlen]
    exact Bool.false_ne_true
  have hnew : List.foldl (fun x1 x2 => x1 ++ x2) #[] (List.replicate (if its.toArray.isEmpty = true then 0 else k.toNat) its.toArray) = (List.replicate k.toNat its).flatten.toArray := by
    have f0 : ∀ m : Nat, List.foldl (fun x1 x2 => x1 ++ x2) #[] (List.replicate m its.toArray) = (List.replicate m its).flatten.toArray := fun m => by
      have := foldl_rep its m []
      rw [List.nil_append] at this
      exact this
    rw [f0]
    cases its with
    | nil => simp
    | cons a r' => rw [if_neg (by simp)]
  refine wpAny_binaryOp_repeat_ref (T := "list") (U := "int") (by decide) ⟨_, e, rfl⟩ (fun s' => typeIs_int s' k t) noFill_list_mul F.fills_int_mul F.slot_int_rmul repeat_list F.slot_int_index.lookup
    (call_meets F.slot_int_rmul (typeIs_int s k t) F.entry_int_rmul (F.args_int_rmul_2 _ _) (int___rmul___int_list k t l its.toArray n)
      ⟨e, rfl, ⟨_, e, rfl⟩, call_meets F.slot_list_mul ⟨_, e, rfl⟩ F.entry_list_mul (F.args_list_mul_2 _ _) (AutoListH.list___mul___list_int_3 l its.toArray n k t hfit hcap hlong) ⟨e, ?_⟩⟩)
  rw [hnew]
  exact ⟨.ref _, _, I.lnew (t' := s.toks) (r.rep k.toNat) (by rw [PyProof.Rows.lm_len_rep_flat, Nat.mul_comm]; exact hz), rfl, q _ I.fresh⟩

/-! ### + - * // % ** -/
def opOf : Op2 → Operator
  | .add => .Add
  | .sub => .Sub
  | .mul => .Mult
  | .fdiv => .FloorDiv
  | .mod => .Mod
  | .pow => .Pow
theorem mul_ok {i j : Int} (h : mulOk i j = true) : CMulW i j := by
  have h2 : i.natAbs.log2 + j.natAbs.log2 < 1000000 := of_decide_eq_true h
  exact h2
theorem div_ok {i j : Int} (h : divOk j = true) : CDivW i j := by
  have h2 : 0 < j ∧ j.natAbs.log2 < 9000 := of_decide_eq_true h
  exact h2
theorem pow_ok {i j : Int} (h : powOk i j = true) : CPow i j := by
  have h2 : 0 ≤ j ∧ j ≤ 1000000 ∧ i.natAbs < 2 ^ 64 := of_decide_eq_true h
  exact h2
theorem op_binD : ∀ o : Op2, OpR X (binaryOp (opOf o)) (rBin X.K (binD o)) := by
  intro o pins s σ H x y v u Q I rx ry h
  obtain ⟨F, d1, d2, d, fr, r1, r2, hg, k⟩ := h
  unfold binD at hg
  split at hg
  · cases hg
    cases r1.int
    cases r2.int
    exact op_add pins s σ H _ _ v u Q I rx ry ⟨_, _, rfl, rfl, k H _ (Ext.refl H) (.int _)⟩
  · split at hg
    · rename_i hz
      cases hg
      obtain ⟨a, vs, rfl, h1, q1⟩ := r1.lst
      obtain ⟨b, ws, rfl, h2, q2⟩ := r2.lst
      exact op_catR pins s σ H _ _ v u Q I rx ry ⟨a, b, vs, ws, rfl, rfl, h1, h2, by rw [← q1.length, ← q2.length]; exact hz, fun p hp => k _ _ (Ext.new hp) (.new hp (q1.append q2))⟩
    · cases hg
  · split at hg
    · rename_i xs ys hz
      cases hg
      obtain ⟨a, vs, rfl, h1, q1⟩ := r1.tup
      obtain ⟨b, ws, rfl, h2, q2⟩ := r2.tup
      refine op_catA pins s σ H _ _ v u Q I rx ry ⟨a, b, vs, ws, rfl, rfl, h1, h2, by rw [← q1.length, ← q2.length]; exact hz, fun e => ?_, fun e e2 => ?_, fun _ _ p hp => k _ _ (Ext.new hp) (.newT hp (q1.append q2))⟩
      · subst e
        cases q1
        exact k H _ (Ext.refl H) (Rep.tup h2 q2)
      · subst e2
        cases q2
        rw [List.append_nil] at k
        exact k H _ (Ext.refl H) (Rep.tup h1 q1)
    · cases hg
  · split at hg
    · rename_i hz
      cases hg
      cases r1.str
      cases r2.str
      exact op_add_str pins s σ H _ _ v u Q I rx ry ⟨_, _, rfl, rfl, hz, k H _ (Ext.refl H) (.str _)⟩
    · cases hg
  · cases hg
    cases r1.int
    cases r2.int
    exact op_sub pins s σ H _ _ v u Q I rx ry ⟨_, _, rfl, rfl, k H _ (Ext.refl H) (.int _)⟩
  · split at hg
    · rename_i hz
      cases hg
      cases r1.int
      cases r2.int
      exact op_mulW pins s σ H _ _ v u Q I rx ry ⟨_, _, rfl, rfl, mul_ok hz, k H _ (Ext.refl H) (.int _)⟩
    · cases hg
  · split at hg
    · rename_i hz
      cases hg
      obtain ⟨a, vs, rfl, h1, q1⟩ := r1.lst
      cases r2.int
      exact op_repR pins s σ H _ _ v u Q I rx ry ⟨a, _, vs, rfl, rfl, h1, hz.1, hz.2.1, by rw [← q1.length]; exact hz.2.2, fun p hp => k _ _ (Ext.new hp) (.new hp (q1.rep _))⟩
    · cases hg
  · split at hg
    · rename_i hz
      cases hg
      cases r1.int
      cases r2.int
      exact op_fdivW pins s σ H _ _ v u Q I rx ry ⟨_, _, rfl, rfl, div_ok hz, k H _ (Ext.refl H) (.int _)⟩
    · cases hg
  · split at hg
    · rename_i hz
      cases hg
      cases r1.int
      cases r2.int
      exact op_mod pins s σ H _ _ v u Q I rx ry ⟨_, _, rfl, rfl, hz, k H _ (Ext.refl H) (.int _)⟩
    · cases hg
  · split at hg
    · rename_i hz
      cases hg
      cases r1.int
      cases r2.int
      exact op_pow pins s σ H _ _ v u Q I rx ry ⟨_, _, rfl, rfl, pow_ok hz, k H _ (Ext.refl H) (.int _)⟩
    · cases hg
  · cases hg

/-! ### comparisons -/
def cpOf : Cp → CmpOp
  | .eq => .Eq
  | .ne => .NotEq
  | .lt => .Lt
  | .le => .LtE
  | .gt => .Gt
  | .ge => .GtE
  | .is => .Is
  | .isNot => .IsNot
  | .isin => .In
  | .notIn => .NotIn
theorem RepW.isNone {K : PySem.W.Frag} {F : Addr → Prop} {H : Hp} {d : D} {x : V} (r : RepW K F H d x) : decide (x = .non) = isNoneD d := by
  rcases r with r | ⟨a, rfl, r⟩
  · cases r <;> rfl
  · obtain ⟨ds, vs, rfl, _⟩ := r.lst
    rfl
theorem strs_flat {K : PySem.W.Frag} {F : Addr → Prop} {H : Hp} {x : Str} : ∀ {ys : List D} {vs : List V}, Reps K F H ys vs → ys.all (fun y => match y with | .str _ => true | _ => false) = true → vs.all flatV = true ∧ inV (.str x) vs = ys.any fun z => PyData.eqv z (.str x)
  | _, _, .nil, _ => ⟨rfl, rfl⟩
  | y :: ys, _, .cons (v := v) (vs := vs) h r, e => by
    rw [List.all_cons, Bool.and_eq_true] at e
    obtain ⟨i1, i2⟩ := strs_flat (x := x) r e.2
    cases h with
    | str z =>
      refine ⟨by rw [List.all_cons, i1]; rfl, ?_⟩
      unfold inV at i2 ⊢
      rw [List.any_cons, List.any_cons, i2]
      congr 1
    | _ => exact absurd e.1 Bool.false_ne_true
theorem op_cmpD (hr : X.A.units + 128 < cLine) : ∀ o : Cp, OpR X (compareOp (cpOf o)) (rCmp X.K (cmpD o)) := by
  intro o pins s σ H x y v u Q I rx ry h
  obtain ⟨F, d1, d2, c, r1, r2, hg, k⟩ := h
  have q : Q (.bl c) H := k H (Ext.refl H)
  unfold cmpD at hg
  split at hg
  · split at hg
    · rename_i hz
      cases hg
      rw [Bool.and_eq_true] at hz
      exact op_eqD (by omega) pins s σ H x y v u Q I rx ry ⟨d1, d2, r1.dp, r2.dp, hz.1, hz.2, q⟩
    · cases hg
  · split at hg
    · rename_i hz
      cases hg
      rw [Bool.and_eq_true] at hz
      exact op_neD (by omega) pins s σ H x y v u Q I rx ry ⟨d1, d2, r1.dp, r2.dp, hz.1, hz.2, q⟩
    · cases hg
  · cases hg
    cases r1.int
    cases r2.int
    exact op_lt pins s σ H _ _ v u Q I rx ry ⟨_, _, rfl, rfl, q⟩
  · cases hg
    cases r1.int
    cases r2.int
    exact op_le pins s σ H _ _ v u Q I rx ry ⟨_, _, rfl, rfl, q⟩
  · cases hg
    cases r1.int
    cases r2.int
    exact op_gt pins s σ H _ _ v u Q I rx ry ⟨_, _, rfl, rfl, q⟩
  · cases hg
    cases r1.int
    cases r2.int
    exact op_ge pins s σ H _ _ v u Q I rx ry ⟨_, _, rfl, rfl, q⟩
  · unfold ltD at hg
    split at hg
    · rename_i hz
      obtain ⟨as, q1⟩ := Dp.reads I d1 x v r1.dp rx
      obtain ⟨bs, q2⟩ := Dp.reads I d2 y u r2.dp ry
      have hn : d1 ≠ .none := fun e => by
        subst e
        cases hg
      have hc : c = W.dataLt d1 d2 := by
        cases d1 <;> first | (cases hg; rfl) | cases hg
      subst hc
      exact W.rcLt_alike d1 d2 X.A s v u as bs q1 q2 hz.1 hn (by have := Nat.min_le_left d1.depth d2.depth; omega) X.prog X.w _ _ ⟨.bl _, H, I, rfl, q⟩
    · cases hg
  · cases hg
    cases r2.non
    exact op_isN pins s σ H _ _ v u Q I rx ry ⟨rfl, by rw [r1.isNone]; exact q⟩
  · cases hg
    cases r2.non
    exact op_notN pins s σ H _ _ v u Q I rx ry ⟨rfl, by rw [r1.isNone]; exact q⟩
  · cases hg
    cases r1.bl
    cases r2.bl
    exact op_isBl pins s σ H _ _ v u Q I rx ry ⟨_, _, rfl, rfl, q⟩
  · cases hg
    cases r1.bl
    cases r2.bl
    exact op_notBl pins s σ H _ _ v u Q I rx ry ⟨_, _, rfl, rfl, q⟩
  · split at hg
    · rename_i hz
      cases hg
      rw [Bool.and_eq_true] at hz
      exact op_inD (by omega) pins s σ H x y v u Q I rx ry ⟨d1, _, r1.dp, r2.dp, hz.1, hz.2, q⟩
    · cases hg
  · split at hg
    · rename_i hz
      cases hg
      rw [Bool.and_eq_true] at hz
      exact op_notInD (by omega) pins s σ H x y v u Q I rx ry ⟨d1, _, r1.dp, r2.dp, hz.1, hz.2, q⟩
    · cases hg
  · split at hg
    · rename_i hz
      cases hg
      cases r1.str
      obtain ⟨b, ws, rfl, h2, q2⟩ := r2.tup
      obtain ⟨f1, f2⟩ := strs_flat (x := _) q2 hz
      exact op_in_seq pins s σ H _ _ v u Q I rx ry ⟨b, ws, rfl, .inr h2, rfl, f1, by rw [if_neg Bool.false_ne_true, f2]; exact q⟩
    · cases hg
  · split at hg
    · rename_i hz
      cases hg
      cases r1.str
      obtain ⟨b, ws, rfl, h2, q2⟩ := r2.tup
      obtain ⟨f1, f2⟩ := strs_flat (x := _) q2 hz
      exact op_notIn_seq pins s σ H _ _ v u Q I rx ry ⟨b, ws, rfl, .inr h2, rfl, f1, by rw [if_pos rfl, f2]; exact q⟩
    · cases hg
  · cases hg
end
end EV

/-! EvE: subscripts, slices, displays, built-ins. -/
namespace EV
open PySem PySem.Spec PyProof.Rows L2 StX
section
variable {K : PySem.W.Frag} {F : Addr → Prop} {H : Hp}
theorem atD_rep {ds : List D} {vs : List V} {i : Int} {d : D} (r : Reps K F H ds vs) (h : atD ds i = some d) : ∃ v, atI vs i = some v ∧ Rep K F H d v := by
  unfold atD atI at h
  obtain ⟨j, h1, h2⟩ := Option.bind_eq_some_iff.mp h
  obtain ⟨v, h3, h4⟩ := r.get h2
  refine ⟨v, ?_, h4⟩
  unfold atI
  rw [← r.length, h1]
  exact h3
theorem Reps.cut {ds : List D} {vs : List V} (r : Reps K F H ds vs) (lo hi : Option Int) : Reps K F H (cutD ds lo hi) (cutV vs lo hi) := by
  unfold cutD cutV
  rw [← r.length]
  exact (r.drop _).take _
end
theorem cutD_whole {ds : List D} {lo hi : Option Int} (h : HT.sIx ds.length 0 lo = 0 ∧ HT.sIx ds.length ds.length hi = ds.length) : cutD ds lo hi = ds := by
  unfold cutD
  rw [h.1, h.2, List.drop_zero, Nat.sub_zero, List.take_length]
section
variable {X : Cx} {C : Ct} {a b c e : Expr} {es : List Expr} {pos p2 : Pos}
def ixG : D → D → Option (D × Bool) := fun x y => (ixD x y).map fun d => (d, false)
theorem ix_D : IxR X (rBin X.K ixG) := by
  intro value slice pins s σ H x y v u Q I rx ry h hs
  obtain ⟨F, d1, d2, d, fr, r1, r2, hg, k⟩ := h
  obtain ⟨d', hg2, e⟩ := omap (show (ixD d1 d2).map (fun d => (d, false)) = some (d, fr) from hg)
  clear hg
  cases e
  unfold ixD at hg2
  split at hg2
  · obtain ⟨a, vs, rfl, h1, q1⟩ := r1.lst
    cases r2.int
    obtain ⟨z, h2, h3⟩ := atD_rep q1 hg2
    exact ix_list value slice pins s σ H _ _ v u Q I rx ry ⟨a, vs, _, z, rfl, rfl, h1.sq, h2, k H _ (Ext.refl H) h3⟩ hs
  · obtain ⟨a, vs, rfl, h1, q1⟩ := r1.tup
    cases r2.int
    obtain ⟨z, h2, h3⟩ := atD_rep q1 hg2
    exact ix_tup value slice pins s σ H _ _ v u Q I rx ry ⟨a, vs, _, z, rfl, rfl, h1, h2, k H _ (Ext.refl H) h3⟩ hs
  · cases hg2
theorem pe_ixD {ga gb : EvO} (ha : PE X a (tO C ga)) (hb : PE X b (tO C gb)) (hs : PlainIx b) (hK : C.K = X.K) : PE X (.Subscript a b pos) (tE C (evBin ixG ga gb)) :=
  pe_mono (pe_ix ix_D ha hb hs) fun σ H Q h => by
    have z := bin_read h
    rw [hK] at z
    exact z
/-! slices -/
def tP (C : Ct) (f : Ev → Option (Option Int × Ev)) : TO := fun σ H Q => ∃ F ρ l ρ', Sim C F ρ σ H ∧ f ρ = some (l, ρ') ∧ ∀ F' H', Sim C F' ρ' σ H' → Step ρ σ F H ρ' F' H' → Q l H'
theorem po_noneD {f : EvR} : PO X none (tP C (evPart false f)) := ⟨fun pins s σ H Q I h => by
  obtain ⟨F, ρ, l, ρ', S, hf, k⟩ := h
  cases hf
  exact po_none.run pins s σ H Q I (k F H S (Step.refl _ _ _ _))⟩
theorem po_someD {f : EvR} (he : PE X e (tE C f)) : PO X (some e) (tP C (evPart true f)) := ⟨fun pins s σ H Q I h => by
  obtain ⟨F, ρ, l, ρ', S, hf, k⟩ := h
  obtain ⟨⟨d, fr, ρ1⟩, h1, hf⟩ := obind (show (f ρ >>= _) = _ from hf)
  obtain ⟨l', h2, hf⟩ := obind hf
  cases hf
  refine (po_some (pe_V he)).run pins s σ H Q I ⟨F, ρ, d, fr, _, S, h1, fun F' H' v S' st r => ?_⟩
  cases d with
  | int i =>
    cases h2
    cases r
    exact ⟨i, rfl, k F' H' S' st⟩
  | _ => cases h2⟩
def rSl (K : PySem.W.Frag) : V → Option Int → Option Int → Hp → VK → Prop := fun x lo hi H Q => ∃ F dx d fr, RepW K F H dx x ∧ slD lo hi dx = some (d, fr) ∧ ∀ H' v, Ext H H' → ResB K F H H' d fr v → Q v H'
theorem sl_D : SlR X (rSl X.K) := by
  intro pins s σ H x v vl vu lo hi sl Q I rx hs pl pu h
  obtain ⟨F, dx, d, fr, r, hg, k⟩ := h
  unfold slD at hg
  split at hg
  · cases hg
    obtain ⟨a, vs, rfl, h1, q1⟩ := r.lst
    exact sl_list pins s σ H _ v vl vu lo hi sl Q I rx hs pl pu ⟨a, vs, rfl, h1.sq, fun p hp => k _ _ (Ext.new hp) (.new hp (q1.cut lo hi))⟩
  · cases hg
    obtain ⟨a, vs, rfl, h1, q1⟩ := r.tup
    refine sl_tupA pins s σ H _ v vl vu lo hi sl Q I rx hs pl pu ⟨a, vs, rfl, h1, fun w => ?_, fun _ p hp => k _ _ (Ext.new hp) (.newT hp (q1.cut lo hi))⟩
    rw [← q1.length] at w
    rw [cutD_whole w] at k
    exact k H _ (Ext.refl H) (Rep.tup h1 q1)
  · cases hg
theorem pe_slD {ga : EvO} {fl fh : Ev → Option (Option Int × Ev)} {lo hi : Option Expr} (ha : PE X a (tO C ga)) (hl : PO X lo (tP C fl)) (hh : PO X hi (tP C fh)) (hK : C.K = X.K) : PE X (.Subscript a (.Slice lo hi none p2) pos) (tE C (evSl ga fl fh)) :=
  pe_mono (pe_slice sl_D ha hl hh) fun σ H Q h => by
    rw [← hK]
    obtain ⟨F, ρ, d, fr, ρ', S, hf, k⟩ := h
    obtain ⟨⟨x, ρ1⟩, h1, hf⟩ := obind hf
    obtain ⟨⟨l, ρ2⟩, h2, hf⟩ := obind hf
    obtain ⟨⟨u, ρ3⟩, h3, hf⟩ := obind hf
    obtain ⟨dx, h4, hf⟩ := obind hf
    obtain ⟨⟨d', fr'⟩, h5, hf⟩ := obind hf
    cases hf
    exact ⟨F, ρ, x, ρ1, S, h1, fun F1 H1 v S1 st1 r1 => ⟨F1, ρ1, l, ρ2, S1, h2, fun F2 H2 S2 st2 => ⟨F2, ρ2, u, ρ', S2, h3, fun F3 H3 S3 st3 =>
      ⟨F3, dx, d, fr, ((r1.step st2 S1).step st3 S2).get S3 h4, h5, fun H' z x r => k F3 H' z (S3.ext x) (st1.trans (st2.trans (st3.trans (Step.ext x)))) ((r.run S3).base (st1.trans (st2.trans st3)))⟩⟩⟩⟩
/-! - -/
theorem pe_negD {f : EvR} (ha : PE X a (tE C f)) : PE X (.UnaryOp .USub a pos) (tE C (evUn negD f)) :=
  pe_mono (pe_un un_neg (pe_V ha)) fun σ H Q h => by
    obtain ⟨F, ρ, d, fr, ρ', S, hf, k⟩ := h
    obtain ⟨⟨x, fx, ρ1⟩, h1, hf⟩ := obind hf
    obtain ⟨y, h2, hf⟩ := obind hf
    cases hf
    refine ⟨F, ρ, x, fx, ρ', S, h1, fun F1 H1 v S1 st1 r1 => ?_⟩
    cases x with
    | int i =>
      cases h2
      cases r1
      exact ⟨i, rfl, k F1 H1 _ S1 st1 (.int _)⟩
    | _ => cases h2
/-! chains -/
theorem chn_read {g g' : D → D → Option Bool} {fa fb fc : EvR} {σ : L2.St} {H : Hp} {Q : VK} (h : tE C (evChn g g' fa fb fc) σ H Q) : tChain (rCmp C.K g) (rCmp C.K g') (tV C fa) (tV C fb) (tV C fc) σ H Q := by
  obtain ⟨F, ρ, d, fr, ρ', S, hf, k⟩ := h
  obtain ⟨⟨x, fx, ρ1⟩, h1, hf⟩ := obind hf
  obtain ⟨⟨y, fy, ρ2⟩, h2, hf⟩ := obind hf
  obtain ⟨c, h3, hf⟩ := obind hf
  refine ⟨F, ρ, x, fx, ρ1, S, h1, fun F1 H1 v S1 st1 r1 => ⟨F1, ρ1, y, fy, ρ2, S1, h2, fun F2 H2 w S2 st2 r2 => ⟨F2, x, y, c, .inl (st2.rep S1 r1), .inl r2, h3, fun H3 x3 => ⟨c, rfl, ?_⟩⟩⟩⟩
  cases c with
  | false =>
    rw [if_neg Bool.false_ne_true] at hf ⊢
    cases hf
    exact k F2 H3 _ (S2.ext x3) (st1.trans (st2.trans (Step.ext x3))) (.bl _)
  | true =>
    rw [if_pos rfl] at hf ⊢
    obtain ⟨⟨z, fz, ρ3⟩, h4, hf⟩ := obind hf
    obtain ⟨c2, h5, hf⟩ := obind hf
    cases hf
    have S3 := S2.ext x3
    exact ⟨F2, ρ2, z, fz, ρ', S3, h4, fun F4 H4 u S4 st4 r4 => ⟨F4, y, z, c2, .inl (st4.rep S3 (r2.ext x3)), .inl r4, h5, fun H5 x5 =>
      k F4 H5 _ (S4.ext x5) (st1.trans (st2.trans ((Step.ext x3).trans (st4.trans (Step.ext x5))))) (.bl _)⟩⟩
theorem pe_chnD {op op' : CmpOp} {g g' : D → D → Option Bool} {fa fb fc : EvR} (h1 : OpR X (compareOp op) (rCmp X.K g)) (h2 : OpR X (compareOp op') (rCmp X.K g')) (ha : PE X a (tE C fa)) (hb : PE X b (tE C fb)) (hc : PE X c (tE C fc)) (hm : lastMarks [op, op'] [b, c] = false) (hK : C.K = X.K) :
    PE X (.Compare a [op, op'] [b, c] pos) (tE C (evChn g g' fa fb fc)) :=
  pe_mono (pe_chain h1 h2 (pe_V ha) (pe_V hb) (pe_V hc) hm) fun σ H Q h => by rw [← hK]; exact chn_read h
theorem pt_chnD {op op' : CmpOp} {g g' : D → D → Option Bool} {fa fb fc : EvR} (h1 : OpR X (compareOp op) (rCmp X.K g)) (h2 : OpR X (compareOp op') (rCmp X.K g')) (ha : PE X a (tE C fa)) (hb : PE X b (tE C fb)) (hc : PE X c (tE C fc)) (hm : lastMarks [op, op'] [b, c] = false) (hK : C.K = X.K) :
    PT X (.Compare a [op, op'] [b, c] pos) (tB' C (evChn g g' fa fb fc)) :=
  pt_mono (pt_chain h1 h2 (pe_V ha) (pe_V hb) (pe_V hc) hm) fun σ H Q h => by rw [← hK]; exact chn_read (tB_of h)
/-! displays -/
def noStar : Expr → Bool
  | .Starred _ _ => false
  | _ => true
theorem star_no {env : Env} (h : noStar e = true) : starEach (e :: es) env = (false, eval e env) :: starEach es env := by
  cases e with
  | Starred _ _ => exact absurd h Bool.false_ne_true
  | _ => rfl
theorem star_plain {env : Env} : ∀ {es : List Expr}, es.all noStar = true → (backTo pos (starEach es env)).any (·.1) = false
  | [], _ => rfl
  | e :: es, h => by
    rw [List.all_cons, Bool.and_eq_true] at h
    rw [star_no h.1]
    show (false || (backTo pos (starEach es env)).any (·.1)) = false
    rw [star_plain h.2]
    rfl
def tVs (C : Ct) (f : EvVs) : TA := fun σ H Q => ∃ F ρ ds ρ', Sim C F ρ σ H ∧ f ρ = some (ds, ρ') ∧ ∀ F' H' vs, Sim C F' ρ' σ H' → Step ρ σ F H ρ' F' H' → Reps C.K F' H' ds vs → Q vs H'
theorem pa_nilV : PA X [] (tVs C evNil) := pa_mono pa_nil fun σ H Q ⟨F, ρ, ds, ρ', S, hf, k⟩ => by
  cases hf
  exact k F H [] S (Step.refl _ _ _ _) .nil
theorem pa_consV {f : EvR} {g : EvVs} (he : PE X e (tE C f)) (hr : PA X es (tVs C g)) (hn : noStar e = true) : PA X (e :: es) (tVs C (evCons f g)) :=
  pa_mono (pa_cons (pe_V he) hr (star_no hn)) fun σ H Q ⟨F, ρ, ds, ρ', S, hf, k⟩ => by
    obtain ⟨⟨d, fr, ρ1⟩, h1, hf⟩ := obind hf
    obtain ⟨⟨ds', ρ2⟩, h2, hf⟩ := obind hf
    cases hf
    exact ⟨F, ρ, d, fr, ρ1, S, h1, fun F1 H1 v S1 st1 r1 => ⟨F1, ρ1, ds', ρ', S1, h2, fun F2 H2 vs S2 st2 r2 => k F2 H2 (v :: vs) S2 (st1.trans st2) (.cons (st2.rep S1 r1) r2)⟩⟩
theorem pe_tupD {x1} {f : EvVs} (h : PA X es (tVs C f)) : PE X (.Tuple es x1 pos) (tE C (evDisp .tuple false f)) :=
  pe_mono (pe_tup h) fun σ H Q ⟨F, ρ, d, fr, ρ', S, hf, k⟩ => by
    obtain ⟨⟨ds, ρ1⟩, h1, hf⟩ := obind hf
    obtain ⟨hz, hf⟩ := Option.ite_none_right_eq_some.mp hf
    cases hf
    refine ⟨F, ρ, ds, ρ', S, h1, fun F1 H1 vs S1 st1 r1 => ⟨by rw [← r1.length]; exact hz, fun p hp => ?_⟩⟩
    exact k F1 _ _ (S1.ext (Ext.new hp)) (st1.trans (Step.ext (Ext.new hp))) (((ResB.newT hp r1).run S1).base st1)
theorem pe_lstD {f : EvVs} (h : PA X es (tVs C f)) : PE X (.List es pos) (tE C (evDisp .list true f)) :=
  pe_mono (pe_lst h) fun σ H Q ⟨F, ρ, d, fr, ρ', S, hf, k⟩ => by
    obtain ⟨⟨ds, ρ1⟩, h1, hf⟩ := obind hf
    obtain ⟨hz, hf⟩ := Option.ite_none_right_eq_some.mp hf
    cases hf
    refine ⟨F, ρ, ds, ρ', S, h1, fun F1 H1 vs S1 st1 r1 => ⟨by rw [← r1.length]; exact hz, fun p hp => ?_⟩⟩
    exact k F1 _ _ (S1.ext (Ext.new hp)) (st1.trans (Step.ext (Ext.new hp))) (((ResB.new hp r1).run S1).base st1)
/-! with stars -/
def tSs (C : Ct) (bs : List Bool) (f : EvVs) : TA := fun σ H Q => ∃ F ρ ds ρ' xs, Sim C F ρ σ H ∧ f ρ = some (ds, ρ') ∧ spread bs ds = some xs ∧ ∀ F' H' vs, Sim C F' ρ' σ H' → Step ρ σ F H ρ' F' H' → Reps C.K F' H' xs vs → Q vs H'
theorem Rep.seq {K : PySem.W.Frag} {F : Addr → Prop} {H : Hp} {d : D} {v : V} {xs : List D} (r : Rep K F H d v) (h : seqD d = some xs) : ∃ p vs, v = .ref p ∧ (SqT K H p vs ∨ SqL K H p vs) ∧ Reps K F H xs vs := by
  cases r with
  | tup h1 r1 => cases h; exact ⟨_, _, rfl, .inl h1, r1⟩
  | lst _ h1 r1 => cases h; exact ⟨_, _, rfl, .inr (SqL.rd h1), r1⟩
  | lstK h1 r1 => cases h; exact ⟨_, _, rfl, .inr (RdL.sq (.inr h1)), r1⟩
  | _ => cases h
theorem RepW.seq {K : PySem.W.Frag} {F : Addr → Prop} {H : Hp} {d : D} {v : V} {xs : List D} (r : RepW K F H d v) (h : seqD d = some xs) : ∃ p vs, v = .ref p ∧ (SqT K H p vs ∨ SqL K H p vs) ∧ Reps K F H xs vs := by
  rcases r with r | ⟨a, rfl, r⟩
  · exact r.seq h
  · obtain ⟨ds, vs, rfl, h1, q⟩ := r.lst
    cases h
    exact ⟨a, vs, rfl, .inr (SqL.of h1), q⟩
theorem pa_nilS : PA X [] (tSs C [] evNil) := pa_mono pa_nil fun σ H Q ⟨F, ρ, ds, ρ', xs, S, hf, hs, k⟩ => by
  cases hf
  cases hs
  exact k F H [] S (Step.refl _ _ _ _) .nil
theorem pa_consS {f : EvR} {g : EvVs} {bs : List Bool} (he : PE X e (tE C f)) (hr : PA X es (tSs C bs g)) (hn : noStar e = true) : PA X (e :: es) (tSs C (false :: bs) (evCons f g)) :=
  pa_mono (pa_cons (pe_V he) hr (star_no hn)) fun σ H Q ⟨F, ρ, ds, ρ', xs, S, hf, hs, k⟩ => by
    obtain ⟨⟨d, fr, ρ1⟩, h1, hf⟩ := obind hf
    obtain ⟨⟨ds', ρ2⟩, h2, hf⟩ := obind hf
    cases hf
    obtain ⟨r, h3, hs⟩ := obind hs
    cases hs
    exact ⟨F, ρ, d, fr, ρ1, S, h1, fun F1 H1 v S1 st1 r1 => ⟨F1, ρ1, ds', ρ', r, S1, h2, h3, fun F2 H2 vs S2 st2 r2 => k F2 H2 (v :: vs) S2 (st1.trans st2) (.cons (st2.rep S1 r1) r2)⟩⟩
theorem pa_starS {f : EvR} {g : EvVs} {bs : List Bool} (hK : C.K = X.K) (he : PE X e (tE C f)) (hr : PA X es (tSs C bs g)) : PA X (.Starred e p2 :: es) (tSs C (true :: bs) (evCons f g)) :=
  pa_mono (pa_star (pe_V he) hr rfl) fun σ H Q ⟨F, ρ, ds, ρ', xs, S, hf, hs, k⟩ => by
    obtain ⟨⟨d, fr, ρ1⟩, h1, hf⟩ := obind hf
    obtain ⟨⟨ds', ρ2⟩, h2, hf⟩ := obind hf
    cases hf
    obtain ⟨ys, h4, hs⟩ := obind hs
    obtain ⟨r, h3, hs⟩ := obind hs
    cases hs
    refine ⟨F, ρ, d, fr, ρ1, S, h1, fun F1 H1 v S1 st1 r1 => ?_⟩
    obtain ⟨p, vs, rfl, h5, q⟩ := r1.seq h4
    rw [hK] at h5
    exact ⟨p, vs, rfl, h5, F1, ρ1, ds', ρ', r, S1, h2, h3, fun F2 H2 ws S2 st2 r2 => k F2 H2 (vs ++ ws) S2 (st1.trans st2) ((st2.reps S1 q).append r2)⟩
theorem pe_starD {x1} {bs : List Bool} {f : EvVs} (h : PA X es (tSs C bs f)) : PE X (.Tuple es x1 pos) (tE C (evStar bs f)) :=
  pe_mono (pe_tup h) fun σ H Q ⟨F, ρ, d, fr, ρ', S, hf, k⟩ => by
    obtain ⟨⟨ds, ρ1⟩, h1, hf⟩ := obind hf
    obtain ⟨xs, h2, hf⟩ := obind hf
    obtain ⟨hz, hf⟩ := Option.ite_none_right_eq_some.mp hf
    cases hf
    refine ⟨F, ρ, ds, ρ', xs, S, h1, h2, fun F1 H1 vs S1 st1 r1 => ⟨by rw [← r1.length]; exact hz, fun p hp => ?_⟩⟩
    exact k F1 _ _ (S1.ext (Ext.new hp)) (st1.trans (Step.ext (Ext.new hp))) (((ResB.newT hp r1).run S1).base st1)
/-! ### built-ins -/
theorem pa_nilO : PA X [] (tOs C evNilO) := pa_mono pa_nil fun σ H Q ⟨F, ρ, ds, ρ', S, hf, k⟩ => by
  cases hf
  exact k F H [] S (Step.refl _ _ _ _) .nil
theorem pa_consO {f : EvO} {g : EvOs} (he : PE X e (tO C f)) (hr : PA X es (tOs C g)) (hn : noStar e = true) : PA X (e :: es) (tOs C (evConsO f g)) :=
  pa_mono (pa_cons he hr (star_no hn)) fun σ H Q ⟨F, ρ, ds, ρ', S, hf, k⟩ => by
    obtain ⟨⟨d, ρ1⟩, h1, hf⟩ := obind hf
    obtain ⟨⟨ds', ρ2⟩, h2, hf⟩ := obind hf
    cases hf
    exact ⟨F, ρ, d, ρ1, S, h1, fun F1 H1 v S1 st1 r1 => ⟨F1, ρ1, ds', ρ', S1, h2, fun F2 H2 vs S2 st2 r2 => k F2 H2 (v :: vs) S2 (st1.trans st2) (.cons (r1.step st2 S1) r2)⟩⟩
def rBi (K : PySem.W.Frag) (g : List D → Option (D × Bool)) : List V → Hp → VK → Prop := fun xs H Q => ∃ F ds d fr, RepWs K F H ds xs ∧ g ds = some (d, fr) ∧ ∀ H' v, Ext H H' → ResB K F H H' d fr v → Q v H'
theorem bi_read {g : List D → Option (D × Bool)} {f : EvOs} {σ : L2.St} {H : Hp} {Q : VK} (h : tE C (evBi g f) σ H Q) : tCB (rBi C.K g) (tOs C f) σ H Q := by
  obtain ⟨F, ρ, d, fr, ρ', S, hf, k⟩ := h
  obtain ⟨⟨os, ρ1⟩, h1, hf⟩ := obind hf
  obtain ⟨ds, h2, hf⟩ := obind hf
  obtain ⟨⟨d', fr'⟩, h3, hf⟩ := obind hf
  cases hf
  exact ⟨F, ρ, os, ρ', S, h1, fun F1 H1 vs S1 st1 r1 => ⟨F1, ds, d, fr, r1.gets S1 h2, h3, fun H' v x r => k F1 H' v (S1.ext x) (st1.trans (Step.ext x)) ((r.run S1).base st1)⟩⟩
theorem pe_biF {x : Str} {id : String} {g : List D → Option (D × Bool)} {f : EvOs} (rule : CallR X (.builtin id) (rBi X.K g)) (hg : Gl X x) (hm : X.mg x = none) (hv : bootBuiltins x = some (.builtin id)) (ha : PA X (e :: es) (tOs C f)) (hn : x ≠ "__name__") (hdb : (x == ("__debug__" : Str)) = false)
    (hs : (e :: es).all noStar = true) (hK : C.K = X.K) : PE X (.Call (.Name x p2) (e :: es) [] pos) (tE C (evBi g f)) := by
  have hs' := hs
  rw [List.all_cons, Bool.and_eq_true] at hs'
  exact pe_mono (pe_callB rule hg hm hv ha hn hdb (star_no hs'.1) (star_plain hs'.2)) fun σ H Q h => by rw [← hK]; exact bi_read h
theorem pe_biT {x : Str} {T : String} {g : List D → Option (D × Bool)} {f : EvOs} (rule : CallR X (.type T) (rBi X.K g)) (hg : Gl X x) (hm : X.mg x = none) (hv : bootBuiltins x = some (.type T)) (ha : PA X (e :: es) (tOs C f)) (hn : x ≠ "__name__") (hdb : (x == ("__debug__" : Str)) = false)
    (hs : (e :: es).all noStar = true) (hK : C.K = X.K) : PE X (.Call (.Name x p2) (e :: es) [] pos) (tE C (evBi g f)) := by
  have hs' := hs
  rw [List.all_cons, Bool.and_eq_true] at hs'
  exact pe_mono (pe_callTy rule hg hm hv ha hn hdb (star_no hs'.1) (star_plain hs'.2)) fun σ H Q h => by rw [← hK]; exact bi_read h
theorem RepWs.one {K : PySem.W.Frag} {F : Addr → Prop} {H : Hp} {d : D} {vs : List V} (r : RepWs K F H [d] vs) : ∃ v, vs = [v] ∧ RepW K F H d v := by
  cases r with
  | cons h t => cases t; exact ⟨_, rfl, h⟩
theorem RepWs.two {K : PySem.W.Frag} {F : Addr → Prop} {H : Hp} {d e : D} {vs : List V} (r : RepWs K F H [d, e] vs) : ∃ v u, vs = [v, u] ∧ RepW K F H d v ∧ RepW K F H e u := by
  cases r with
  | cons h t =>
    obtain ⟨u, rfl, q⟩ := t.one
    exact ⟨_, _, rfl, h, q⟩
theorem ints_rep {K : PySem.W.Frag} {F : Addr → Prop} {H : Hp} : ∀ {ds : List D} {vs : List V} {ns : List Int}, Reps K F H ds vs → intsD ds = some ns → vs = ns.map V.int
  | [], _, _, .nil, h => by cases h; rfl
  | d :: ds, _, ns, .cons r t, h => by
    cases d with
    | int i =>
      obtain ⟨m, h1, h2⟩ := omap (show (intsD ds).map (i :: ·) = some ns from h)
      cases h2
      cases r
      rw [ints_rep t h1]
      rfl
    | _ => cases h
theorem bols_rep {K : PySem.W.Frag} {F : Addr → Prop} {H : Hp} : ∀ {ds : List D} {vs : List V} {ns : List Bool}, Reps K F H ds vs → bolsD ds = some ns → vs = ns.map V.bl
  | [], _, _, .nil, h => by cases h; rfl
  | d :: ds, _, ns, .cons r t, h => by
    cases d with
    | bool i =>
      obtain ⟨m, h1, h2⟩ := omap (show (bolsD ds).map (i :: ·) = some ns from h)
      cases h2
      cases r
      rw [bols_rep t h1]
      rfl
    | _ => cases h
theorem maxL_mem : ∀ {ns : List Int}, ns ≠ [] → maxL ns ∈ ns ∧ ∀ y, y ∈ ns → y ≤ maxL ns
  | [], h => absurd rfl h
  | [x], _ => ⟨List.mem_singleton.mpr rfl, fun y h => by rw [List.mem_singleton.mp h]; exact Int.le_refl _⟩
  | x :: y :: r, _ => by
    obtain ⟨h1, h2⟩ := maxL_mem (ns := y :: r) (by simp)
    show max x (maxL (y :: r)) ∈ _ ∧ ∀ z, z ∈ _ → z ≤ max x (maxL (y :: r))
    refine ⟨?_, fun z hz => ?_⟩
    · by_cases h : x ≤ maxL (y :: r)
      · rw [Int.max_eq_right h]; exact List.mem_cons_of_mem _ h1
      · rw [Int.max_eq_left (by omega)]; exact List.mem_cons_self
    · rcases List.mem_cons.mp hz with rfl | hz
      · exact Int.le_max_left _ _
      · exact Int.le_trans (h2 z hz) (Int.le_max_right _ _)
theorem minL_mem : ∀ {ns : List Int}, ns ≠ [] → minL ns ∈ ns ∧ ∀ y, y ∈ ns → minL ns ≤ y
  | [], h => absurd rfl h
  | [x], _ => ⟨List.mem_singleton.mpr rfl, fun y h => by rw [List.mem_singleton.mp h]; exact Int.le_refl _⟩
  | x :: y :: r, _ => by
    obtain ⟨h1, h2⟩ := minL_mem (ns := y :: r) (by simp)
    show min x (minL (y :: r)) ∈ _ ∧ ∀ z, z ∈ _ → min x (minL (y :: r)) ≤ z
    refine ⟨?_, fun z hz => ?_⟩
    · by_cases h : x ≤ minL (y :: r)
      · rw [Int.min_eq_left h]; exact List.mem_cons_self
      · rw [Int.min_eq_right (by omega)]; exact List.mem_cons_of_mem _ h1
    · rcases List.mem_cons.mp hz with rfl | hz
      · exact Int.min_le_left _ _
      · exact Int.le_trans (Int.min_le_right _ _) (h2 z hz)
theorem bi_len : CallR X (.builtin "len") (rBi X.K (biD .len)) := by
  intro pins s σ H xs us Q I rs h
  obtain ⟨F, ds, d, fr, r, hg, k⟩ := h
  unfold biD at hg
  split at hg <;> try contradiction
  · cases hg
    obtain ⟨v, rfl, w⟩ := r.one
    obtain ⟨a, vs, rfl, h1, q⟩ := w.lst
    exact call_len pins s σ H _ us Q I rs ⟨_, _, rfl, .inl ⟨vs, h1.sq, rfl⟩, by rw [← q.length]; exact k H _ (Ext.refl H) (.int _)⟩
  · cases hg
    obtain ⟨v, rfl, w⟩ := r.one
    obtain ⟨a, vs, rfl, h1, q⟩ := w.tup
    exact call_len pins s σ H _ us Q I rs ⟨_, _, rfl, .inr ⟨vs, h1, rfl⟩, by rw [← q.length]; exact k H _ (Ext.refl H) (.int _)⟩
theorem bi_abs : CallR X (.builtin "abs") (rBi X.K (biD .abs)) := by
  intro pins s σ H xs us Q I rs h
  obtain ⟨F, ds, d, fr, r, hg, k⟩ := h
  unfold biD at hg
  split at hg <;> try contradiction
  cases hg
  obtain ⟨v, rfl, w⟩ := r.one
  cases w.int
  exact call_abs pins s σ H _ us Q I rs ⟨_, rfl, k H _ (Ext.refl H) (.int _)⟩
theorem bi_int : CallR X (.type "int") (rBi X.K (biD .int)) := by
  intro pins s σ H xs us Q I rs h
  obtain ⟨F, ds, d, fr, r, hg, k⟩ := h
  unfold biD at hg
  split at hg <;> try contradiction
  · cases hg
    obtain ⟨v, rfl, w⟩ := r.one
    cases w.int
    exact call_int1 pins s σ H _ us Q I rs (.inl ⟨_, rfl, k H _ (Ext.refl H) (.int _)⟩)
  · cases hg
    obtain ⟨v, rfl, w⟩ := r.one
    cases w.bl
    exact call_int1 pins s σ H _ us Q I rs (.inr ⟨_, rfl, k H _ (Ext.refl H) (.int _)⟩)
theorem bi_tuple : CallR X (.type "tuple") (rBi X.K (biD .tuple)) := by
  intro pins s σ H xs us Q I rs h
  obtain ⟨F, ds, d, fr, r, hg, k⟩ := h
  unfold biD at hg
  split at hg <;> try contradiction
  · cases hg
    obtain ⟨v, rfl, w⟩ := r.one
    obtain ⟨a, vs, rfl, h1, q⟩ := w.lst
    exact call_tuple_of pins s σ H _ us Q I rs ⟨_, _, rfl, .inl ⟨h1.sq, fun p hp => k _ _ (Ext.new hp) (.newT hp q)⟩⟩
  · cases hg
    obtain ⟨v, rfl, w⟩ := r.one
    obtain ⟨a, vs, rfl, h1, q⟩ := w.tup
    exact call_tuple_of pins s σ H _ us Q I rs ⟨_, _, rfl, .inr ⟨h1, k H _ (Ext.refl H) (Rep.tup h1 q)⟩⟩
theorem bi_list : CallR X (.type "list") (rBi X.K (biD .list)) := by
  intro pins s σ H xs us Q I rs h
  obtain ⟨F, ds, d, fr, r, hg, k⟩ := h
  unfold biD at hg
  split at hg <;> try contradiction
  · cases hg
    obtain ⟨v, rfl, w⟩ := r.one
    obtain ⟨a, vs, rfl, h1, q⟩ := w.lst
    exact call_list_of pins s σ H _ us Q I rs ⟨_, _, rfl, .inl (h1.sq), fun p hp => k _ _ (Ext.new hp) (.new hp q)⟩
  · cases hg
    obtain ⟨v, rfl, w⟩ := r.one
    obtain ⟨a, vs, rfl, h1, q⟩ := w.tup
    exact call_list_of pins s σ H _ us Q I rs ⟨_, _, rfl, .inr h1, fun p hp => k _ _ (Ext.new hp) (.new hp q)⟩
theorem bi_sum (hc : X.calm = true) : CallR X (.builtin "sum") (rBi X.K (biD .sum)) := by
  intro pins s σ H xs us Q I rs h
  obtain ⟨F, ds, d, fr, r, hg, k⟩ := h
  unfold biD at hg
  split at hg <;> try contradiction
  obtain ⟨ns, h2, e⟩ := omap hg
  cases e
  obtain ⟨v, rfl, w⟩ := r.one
  obtain ⟨a, vs, rfl, h1, q⟩ := w.lst
  cases ints_rep q h2
  exact cr_sum hc pins s σ H _ us Q I rs ⟨_, _, rfl, h1.sq, k H _ (Ext.refl H) (.int _)⟩
theorem bi_all (hc : X.calm = true) : CallR X (.builtin "all") (rBi X.K (biD .all)) := by
  intro pins s σ H xs us Q I rs h
  obtain ⟨F, ds, d, fr, r, hg, k⟩ := h
  unfold biD at hg
  split at hg <;> try contradiction
  obtain ⟨ns, h2, e⟩ := omap hg
  cases e
  obtain ⟨v, rfl, w⟩ := r.one
  obtain ⟨a, vs, rfl, h1, q⟩ := w.lst
  cases bols_rep q h2
  exact cr_all hc pins s σ H _ us Q I rs ⟨_, _, rfl, h1.sq, k H _ (Ext.refl H) (.bl _)⟩
theorem bi_any (hc : X.calm = true) : CallR X (.builtin "any") (rBi X.K (biD .any)) := by
  intro pins s σ H xs us Q I rs h
  obtain ⟨F, ds, d, fr, r, hg, k⟩ := h
  unfold biD at hg
  split at hg <;> try contradiction
  obtain ⟨ns, h2, e⟩ := omap hg
  cases e
  obtain ⟨v, rfl, w⟩ := r.one
  obtain ⟨a, vs, rfl, h1, q⟩ := w.lst
  cases bols_rep q h2
  exact cr_any hc pins s σ H _ us Q I rs ⟨_, _, rfl, h1.sq, k H _ (Ext.refl H) (.bl _)⟩
theorem bi_min (hc : X.calm = true) : CallR X (.builtin "min") (rBi X.K (biD .min)) := by
  intro pins s σ H xs us Q I rs h
  obtain ⟨F, ds, d, fr, r, hg, k⟩ := h
  unfold biD at hg
  split at hg <;> try contradiction
  · cases hg
    obtain ⟨v, u, rfl, r1, r2⟩ := r.two
    cases r1.int
    cases r2.int
    exact call_min2 hc pins s σ H _ us Q I rs ⟨_, _, rfl, k H _ (Ext.refl H) (.int _)⟩
  · obtain ⟨ns, h2, hg⟩ := Option.bind_eq_some_iff.mp hg
    obtain ⟨hz, hg⟩ := Option.ite_none_left_eq_some.mp hg
    cases hg
    obtain ⟨v, rfl, w⟩ := r.one
    obtain ⟨a, vs, rfl, h1, q⟩ := w.lst
    cases ints_rep q h2
    obtain ⟨m1, m2⟩ := minL_mem hz
    refine cr_min hc pins s σ H _ us Q I rs ⟨_, _, rfl, h1.sq, List.length_pos_iff.mpr hz, fun m h3 h4 => ?_⟩
    cases Int.le_antisymm (h4 _ m1) (m2 _ h3)
    exact k H _ (Ext.refl H) (.int _)
/-! isinstance -/
def tyD : D → String
  | .none => "NoneType"
  | .bool _ => "bool"
  | .int _ => "int"
  | .str _ => "str"
  | .list _ => "list"
  | .tuple _ => "tuple"
  | .dict _ => "dict"
theorem RepW.ty {F : Addr → Prop} {H : Hp} {d : D} {v : V} (r : RepW X.K F H d v) : TyX X.K H v (.type (tyD d)) := by
  rcases r with r | ⟨a, rfl, r⟩
  · cases r with
    | non => exact .base .non
    | bl b => exact .base (.bl b)
    | int i => exact .base (.int i)
    | str x => exact .base (.str x)
    | tup h _ =>
      rcases h with (h | ⟨ob, h⟩) | ⟨o, its, n, h1, h2, _⟩
      · exact .base (.tup h)
      · exact .fTuple h
      · exact .kTuple h1 h2
    | lst _ h _ =>
      rcases h with h | ⟨ob, h⟩
      · exact .base (.lst h)
      · exact .base (.frz h)
    | lstK h _ =>
      obtain ⟨its, n, h1, _⟩ := h
      exact .kList h1 rfl
  · obtain ⟨ds, vs, rfl, h, _⟩ := r.lst
    exact .base (.lst h)
theorem pe_isiD {y : Str} {T : String} {p : Bi} {g : D → Bool} {f : EvO} {p3 : Pos} (hgx : Gl X "isinstance") (hmx : X.mg "isinstance" = none) (hgT : Gl X y) (hmT : X.mg y = none) (hvT : bootBuiltins y = some (.type T)) (hnT : y ≠ "__name__") (hdT : (y == ("__debug__" : Str)) = false)
    (hp : ∀ d, biD p [d] = some (.bool (g d), false)) (hk : ∀ d, kitB (tyD d) T = some (g d)) (ha : PE X e (tO C f)) (hn : noStar e = true) (hK : C.K = X.K) :
    PE X (.Call (.Name "isinstance" p2) [e, .Name y p3] [] pos) (tE C (evBi (biD p) (evConsO f evNilO))) := by
  have hT : PE X (.Name y p3) (tC (.ty T)) := pe_bltn hgT hmT hvT rfl hnT hdT
  refine pe_mono (pe_callB call_isi hgx hmx PyProof.Rows.boot_isinstance (pa_cons ha (pa_cons hT pa_nil) (star_no hn)) (by decide) (by decide) (star_no hn) rfl) fun σ H Q h => ?_
  obtain ⟨F, ρ, d, fr, ρ', S, hf, k⟩ := h
  obtain ⟨⟨os, ρ1⟩, h1, hf⟩ := obind hf
  obtain ⟨ds, h2, hf⟩ := obind hf
  obtain ⟨⟨d', fr'⟩, h3, hf⟩ := obind hf
  cases hf
  obtain ⟨⟨o, ρ2⟩, h4, h5⟩ := obind h1
  obtain ⟨⟨os2, ρ3⟩, h6, h7⟩ := obind h5
  cases h6
  cases h7
  obtain ⟨dx, h8, h9⟩ := obind h2
  obtain ⟨ds2, h10, h11⟩ := obind h9
  cases h10
  cases h11
  rw [hp] at h3
  cases h3
  refine ⟨F, ρ, o, ρ', S, h4, fun F1 H1 v S1 st1 r1 => ?_⟩
  have rw1 := r1.get S1 h8
  rw [hK] at rw1
  exact ⟨v, .ty T, .type (tyD dx), .type T, g dx, rfl, .ty T, rw1.ty, kit_ty (hk dx), k F1 H1 _ S1 st1 (.bl _)⟩
/-! repr -/
theorem bi_repr (hg : X.A.guards = some []) (hu : X.A.units + 128 < cLine) : CallR X (.builtin "repr") (rBi X.K (biD .repr)) := by
  intro pins s σ H xs us Q I rs h
  obtain ⟨F, ds, d, fr, r, hb, k⟩ := h
  unfold biD at hb
  split at hb <;> try contradiction
  rename_i x hx0
  obtain ⟨hz, hb⟩ := Option.ite_none_right_eq_some.mp hb
  cases hb
  unfold shw at hz
  simp only [Bool.and_eq_true, decide_eq_true_eq] at hz
  obtain ⟨⟨⟨z1, z2⟩, z3⟩, z4⟩ := hz
  obtain ⟨v, rfl, w⟩ := r.one
  obtain ⟨u, rfl, ru⟩ := vals1 rs
  obtain ⟨as, rd⟩ := Dp.reads I x v u w.dp ru
  have fin : ∀ (t : Tok) (tk : Nat) (h' : Heap), (∀ b o, s.heap.get? b = some o → h'.get? b = some o) → EP X pins σ Q (.str x.shown t) { s with heap := h', toks := tk } := fun t tk h' hk =>
    ⟨.str x.shown, H, I.kept hk, ⟨_, rfl⟩, k H _ (Ext.refl H) (.str _)⟩
  have fin0 : ∀ (t : Tok) (tk : Nat), EP X pins σ Q (.str x.shown t) { s with toks := tk } := fun t tk => fin t tk s.heap fun _ _ e => e
  have big : ∀ a, u = .ref a → wpAny (model X.prog X.w) X.A (call (.builtin "repr") [u]) (EP X pins σ Q) X.xe s := fun a e => by
    subst e
    exact repr_of_reads' rd z2 (PyData.noDict_hsm (PyData.hasDict_of_canLay _ z1)) hg (by omega) (fun _ _ e => e) (fun h' u tk hk => fin u tk h' hk) z4
  cases x with
  | none =>
    cases w.non
    cases ru
    exact PySem.P.repr_of_none (fin0 _ _)
  | bool b =>
    cases w.bl
    cases ru
    exact PySem.P.repr_of_bool (fin0 _ _)
  | int i =>
    cases w.int
    obtain ⟨t, rfl⟩ := ru
    exact PySem.P.repr_of_int (by simpa [PyData.showable] using z2) (fin0 _ _)
  | str y =>
    cases w.str
    obtain ⟨t, rfl⟩ := ru
    exact PySem.P.repr_of_str (fin0 _ _) (by exact z4)
  | list ds =>
    obtain ⟨a, vs, rfl, _⟩ := w.lst
    exact big a ru
  | tuple ds =>
    obtain ⟨a, vs, rfl, _⟩ := w.tup
    exact big a ru
  | dict kvs => cases z1
end
end EV

/-! EvF: what changes the state; statements. -/
namespace EV
open PySem PySem.Spec PyProof.Rows L2
section
variable {C : Ct} {F : Addr → Prop} {ρ ρ' : Ev} {σ : L2.St} {H : Hp}
theorem Keep.refl (F : Addr → Prop) (H : Hp) : Keep F H H := fun _ _ h _ => h
theorem Keep.trans {F F1 : Addr → Prop} {H H1 H2 : Hp} (a : Keep F H H1) (s : ∀ x, F x → F1 x) (b : Keep F1 H1 H2) : Keep F H H2 := fun c o h hf => b c o (a c o h hf) (hf.imp (s c) id)
/-- a list that nobody froze gets other items -/
theorem Keep.upd {F : Addr → Prop} {H : Hp} {a : Addr} {vs ws : List V} (hH : H a = some (.lst vs)) (nf : ¬ F a) : Keep F H (L2.upd H a (.lst ws)) := fun b o h hf => by
  by_cases e : b = a
  · subst e
    rw [hH] at h; cases h
    rcases hf with hf | hf
    · exact absurd hf nf
    · exact (show False from hf).elim
  · rw [upd_ne e]; exact h
theorem Root.keep {K : PySem.W.Frag} {F F' : Addr → Prop} {H H' : Hp} {d : D} {a : Addr} (r : Root K F H d a) (s : ∀ x, F x → F' x) (k : Keep F H H') (h : H' a = H a) : Root K F' H' d a := by
  cases d with
  | list ds =>
    obtain ⟨vs, h1, r⟩ := r
    exact ⟨vs, h.trans h1, r.mono s k⟩
  | _ => exact (show False from r).elim
theorem Sim.noP (S : Sim C F ρ σ H) {i : Nat} {s : Sl} (h : ρ[i]? = some (some s)) (hl : s.lk = false) : C.PA i = none := by
  cases e : C.PA i with
  | none => rfl
  | some a =>
    obtain ⟨_, t, h1, h2⟩ := S.par i a e
    rw [h] at h1; cases h1
    rw [hl] at h2; cases h2
/-- an own list's items changed -/
theorem Sim.change {i : Nat} {x : D} {lk : Bool} {a : Addr} {vs ws : List V} {es : List D} (S : Sim C F ρ σ H) (hs : ρ[i]? = some (some ⟨x, true, lk⟩)) (ha : σ[i]? = some (some (.ref a))) (hH : H a = some (.lst vs)) (r : Reps C.K F H es ws) :
    Sim C F (ρ.set i (some ⟨.list es, true, lk⟩)) σ (upd H a (.lst ws)) ∧ Step ρ σ F H (ρ.set i (some ⟨.list es, true, lk⟩)) F (upd H a (.lst ws)) := by
  obtain ⟨b, e, r0, nf, k1, k2⟩ := S.own i _ hs rfl
  rw [ha] at e; cases e
  have hi : i < ρ.length := (List.getElem?_eq_some_iff.mp hs).1
  have kp : Keep F H (upd H a (.lst ws)) := Keep.upd hH nf
  have look : ∀ j t, (ρ.set i (some ⟨.list es, true, lk⟩))[j]? = some (some t) → (j = i ∧ t = ⟨.list es, true, lk⟩) ∨ (j ≠ i ∧ ρ[j]? = some (some t)) := fun j t h => by
    by_cases hj : j = i
    · subst hj
      rw [List.getElem?_set_self hi] at h
      exact .inl ⟨rfl, (Option.some.inj (Option.some.inj h)).symm⟩
    · rw [List.getElem?_set_ne (Ne.symm hj)] at h
      exact .inr ⟨hj, h⟩
  have own : ∀ b, Own (ρ.set i (some ⟨.list es, true, lk⟩)) σ b → Own ρ σ b := fun b ⟨j, t, h1, h2, h3⟩ => by
    rcases look j t h1 with ⟨rfl, rfl⟩ | ⟨hj, h1⟩
    · exact ⟨j, _, hs, rfl, h3⟩
    · exact ⟨j, t, h1, h2, h3⟩
  have oth : ∀ j t b, j ≠ i → ρ[j]? = some (some t) → t.own = true → σ[j]? = some (some (.ref b)) → b ≠ a := fun j t b hj h1 h2 h3 z => by
    subst z
    exact hj (S.inj j i t _ _ h1 hs h2 rfl h3 ha)
  have dom : ∀ b o, H b = some o → ∃ o', upd H a (.lst ws) b = some o' := fun b o h => by
    by_cases e : b = a
    · subst e; exact ⟨_, upd_same⟩
    · exact ⟨o, by rw [upd_ne e]; exact h⟩
  refine ⟨⟨by rw [List.length_set]; exact S.len, fun j t h1 h2 => ?_, fun j t h1 h2 => ?_, fun j l t u c h1 h2 h3 h4 h5 h6 => ?_, fun j c h => ?_, fun c h => ?_, S.f0, S.fnew, fun c o h n => ?_, fun c o h => ?_⟩, ⟨fun _ h => h, fun c o h n => ?_, fun c h => .inl h, own, dom⟩⟩
  · rcases look j t h1 with ⟨rfl, rfl⟩ | ⟨hj, h1⟩
    · cases h2
    · obtain ⟨v, e, q⟩ := S.val j t h1 h2
      exact ⟨v, e, q.mono (fun _ h => h) kp⟩
  · rcases look j t h1 with ⟨rfl, rfl⟩ | ⟨hj, h1⟩
    · exact ⟨a, ha, ⟨ws, upd_same, r.mono (fun _ h => h) kp⟩, nf, k1, k2⟩
    · obtain ⟨b, e, q, k⟩ := S.own j t h1 h2
      exact ⟨b, e, q.keep (fun _ h => h) kp (upd_ne (oth j t b hj h1 h2 e)), k⟩
  · rcases look j t h1 with ⟨rfl, rfl⟩ | ⟨hj, h1'⟩
    · rcases look l u h2 with ⟨rfl, rfl⟩ | ⟨hl, h2'⟩
      · rfl
      · rw [ha] at h5; cases h5
        exact absurd rfl (oth l u _ hl h2' h4 h6)
    · rcases look l u h2 with ⟨rfl, rfl⟩ | ⟨hl, h2'⟩
      · rw [ha] at h6; cases h6
        exact absurd rfl (oth j t _ hj h1' h3 h5)
      · exact S.inj j l t u c h1' h2' h3 h4 h5 h6
  · obtain ⟨e, t, h1, h2⟩ := S.par j c h
    refine ⟨e, ?_⟩
    by_cases hj : j = i
    · subst hj
      rw [hs] at h1; cases h1
      exact ⟨_, List.getElem?_set_self hi, h2⟩
    · exact ⟨t, by rw [List.getElem?_set_ne (Ne.symm hj)]; exact h1, h2⟩
  · obtain ⟨o, e⟩ := S.fdom c h
    exact dom c o e
  · have hca : c ≠ a := fun z => by
      subst z
      cases lk with
      | false => rw [k1 rfl] at h; cases h
      | true => exact n ⟨i, k2 rfl⟩
    rw [upd_ne hca]
    exact S.fr0 c o h n
  · obtain ⟨o', e⟩ := S.dom0 c o h
    exact dom c o' e
  · have hca : c ≠ a := fun z => by
      subst z
      exact n ⟨i, _, hs, rfl, ha⟩
    rw [upd_ne hca]
    exact h
/-- a value for a name, a caller -/
def ResR (C : Ct) (ρ : Ev) (σ : L2.St) (F : Addr → Prop) (H : Hp) (d : D) (fr : Bool) (v : V) : Prop :=
  if fr = true then ∃ a, v = .ref a ∧ C.H0 a = none ∧ Root C.K F H d a ∧ ¬ F a ∧ ¬ Own ρ σ a else Rep C.K F H d v
theorem ResV.res {ρ1 : Ev} {F1 : Addr → Prop} {H1 : Hp} {d : D} {fr : Bool} {v : V} (S : Sim C F ρ σ H) (r : ResV C.K H ρ1 σ F1 H1 d fr v) : ResR C ρ1 σ F1 H1 d fr v := by
  cases fr with
  | false => exact r
  | true =>
    obtain ⟨a, e, hn, q1, q2, q3⟩ := r
    exact ⟨a, e, S.new0 hn, q1, q2, q3⟩
theorem stor_at {i : Nat} {d : D} {fr : Bool} (h : stor i d fr ρ = some ρ') : ρ' = ρ.set i (some ⟨d, fr, false⟩) ∧ i < ρ.length ∧ ∀ s, ρ[i]? = some (some s) → s.lk = false := by
  unfold stor at h
  split at h
  · rename_i s hs
    obtain ⟨h1, h2⟩ := Option.ite_none_left_eq_some.mp h
    cases h2
    refine ⟨rfl, (List.getElem?_eq_some_iff.mp hs).1, fun t ht => ?_⟩
    rw [hs] at ht; cases ht
    exact Bool.eq_false_iff.mpr h1
  · rename_i hs
    cases h
    refine ⟨rfl, (List.getElem?_eq_some_iff.mp hs).1, fun t ht => ?_⟩
    rw [hs] at ht; cases ht
  · cases h
/-- a name gets a value -/
theorem Sim.stor {i : Nat} {d : D} {fr : Bool} {v : V} (S : Sim C F ρ σ H) (h : stor i d fr ρ = some ρ') (r : ResR C ρ σ F H d fr v) :
    Sim C F ρ' (σ.set i (some v)) H ∧ (∀ b, Own ρ' (σ.set i (some v)) b → Own ρ σ b ∨ (fr = true ∧ v = .ref b)) ∧ ∀ j, j ≠ i → ρ'[j]? = ρ[j]? := by
  obtain ⟨rfl, hi, hlk⟩ := stor_at h
  have hi2 : i < σ.length := by rw [← S.len]; exact hi
  have look : ∀ j t, (ρ.set i (some ⟨d, fr, false⟩))[j]? = some (some t) → (j = i ∧ t = ⟨d, fr, false⟩) ∨ (j ≠ i ∧ ρ[j]? = some (some t)) := fun j t h => by
    by_cases hj : j = i
    · subst hj
      rw [List.getElem?_set_self hi] at h
      exact .inl ⟨rfl, (Option.some.inj (Option.some.inj h)).symm⟩
    · rw [List.getElem?_set_ne (Ne.symm hj)] at h
      exact .inr ⟨hj, h⟩
  have sl : (σ.set i (some v))[i]? = some (some v) := List.getElem?_set_self hi2
  have sn : ∀ j, j ≠ i → (σ.set i (some v))[j]? = σ[j]? := fun j hj => List.getElem?_set_ne (Ne.symm hj)
  have own : ∀ b, Own (ρ.set i (some ⟨d, fr, false⟩)) (σ.set i (some v)) b → Own ρ σ b ∨ (fr = true ∧ v = .ref b) := fun b ⟨j, t, h1, h2, h3⟩ => by
    rcases look j t h1 with ⟨rfl, rfl⟩ | ⟨hj, h1⟩
    · rw [sl] at h3; cases h3
      exact .inr ⟨h2, rfl⟩
    · rw [sn j hj] at h3
      exact .inl ⟨j, t, h1, h2, h3⟩
  refine ⟨⟨by rw [List.length_set, List.length_set]; exact S.len, fun j t h1 h2 => ?_, fun j t h1 h2 => ?_, fun j l t u c h1 h2 h3 h4 h5 h6 => ?_, fun j c h => ?_, S.fdom, S.f0, S.fnew, S.fr0, S.dom0⟩, own, fun j hj => List.getElem?_set_ne (Ne.symm hj)⟩
  · rcases look j t h1 with ⟨rfl, rfl⟩ | ⟨hj, h1⟩
    · cases (show fr = false from h2)
      exact ⟨v, sl, r⟩
    · rw [sn j hj]
      exact S.val j t h1 h2
  · rcases look j t h1 with ⟨rfl, rfl⟩ | ⟨hj, h1⟩
    · cases (show fr = true from h2)
      obtain ⟨a, rfl, n0, q1, q2, q3⟩ := r
      exact ⟨a, sl, q1, q2, fun _ => n0, fun z => nomatch z⟩
    · rw [sn j hj]
      exact S.own j t h1 h2
  · have new : ∀ (m : Nat) (w : Sl), fr = true → v = .ref c → ρ[m]? = some (some w) → w.own = true → σ[m]? = some (some (.ref c)) → False := fun m w z1 z2 z3 z4 z5 => by
      subst z1 z2
      obtain ⟨a, e, _, _, _, q3⟩ := r
      cases e
      exact q3 ⟨m, w, z3, z4, z5⟩
    rcases look j t h1 with ⟨rfl, rfl⟩ | ⟨hj, h1'⟩
    · rcases look l u h2 with ⟨rfl, rfl⟩ | ⟨hl, h2'⟩
      · rfl
      · rw [sl] at h5; cases h5
        rw [sn l hl] at h6
        exact (new l u h3 rfl h2' h4 h6).elim
    · rcases look l u h2 with ⟨rfl, rfl⟩ | ⟨hl, h2'⟩
      · rw [sl] at h6; cases h6
        rw [sn j hj] at h5
        exact (new j t h4 rfl h1' h3 h5).elim
      · rw [sn j hj] at h5
        rw [sn l hl] at h6
        exact S.inj j l t u c h1' h2' h3 h4 h5 h6
  · obtain ⟨e, t, h1, h2⟩ := S.par j c h
    have hj : j ≠ i := fun z => by
      subst z
      rw [hlk t h1] at h2; cases h2
    exact ⟨by rw [sn j hj]; exact e, t, by rw [List.getElem?_set_ne (Ne.symm hj)]; exact h1, h2⟩
/-- a name is forgotten -/
theorem Sim.drop {i : Nat} (S : Sim C F ρ σ H) (h : C.PA i = none) : Sim C F (ρ.set i none) σ H := by
  have look : ∀ j t, (ρ.set i none)[j]? = some (some t) → j ≠ i ∧ ρ[j]? = some (some t) := fun j t h => by
    by_cases hj : j = i
    · subst hj
      by_cases hi : j < ρ.length
      · rw [List.getElem?_set_self hi] at h; cases h
      · rw [List.getElem?_eq_none (by rw [List.length_set]; omega)] at h; cases h
    · rw [List.getElem?_set_ne (Ne.symm hj)] at h
      exact ⟨hj, h⟩
  refine ⟨by rw [List.length_set]; exact S.len, fun j t h1 h2 => S.val j t (look j t h1).2 h2, fun j t h1 h2 => S.own j t (look j t h1).2 h2, fun j l t u c h1 h2 h3 h4 h5 h6 => S.inj j l t u c (look j t h1).2 (look l u h2).2 h3 h4 h5 h6, fun j c hc => ?_, S.fdom, S.f0, S.fnew, S.fr0, S.dom0⟩
  obtain ⟨e, t, h1, h2⟩ := S.par j c hc
  have hj : j ≠ i := fun z => by rw [z, h] at hc; cases hc
  exact ⟨e, t, by rw [List.getElem?_set_ne (Ne.symm hj)]; exact h1, h2⟩
end
/-! ### targets -/
section
variable {X : Cx} {C : Ct} {e : Expr} {es : List Expr} {pos : Pos}
/-- a target has been set -/
def Set1 (C : Ct) (F : Addr → Prop) (H : Hp) (ρ : Ev) (σ : L2.St) (hs : Nat → Bool) (ρ' : Ev) (σ' : L2.St) : Prop :=
  Sim C F ρ' σ' H ∧ (∀ j, hs j = false → σ'[j]? = σ[j]? ∧ ρ'[j]? = ρ[j]?) ∧ ∀ b, Own ρ' σ' b → Own ρ σ b
def tG (C : Ct) (tg : Tg) : TG := fun v σ H Q => ∃ F ρ d ρ', Sim C F ρ σ H ∧ Rep C.K F H d v ∧ asgT tg d ρ = some ρ' ∧ ∀ σ', Set1 C F H ρ σ (tgHas tg) ρ' σ' → Q σ' H
def tGs (C : Ct) (ts : List Tg) : TGs := fun vs σ H Q => ∃ F ρ ds ρ', Sim C F ρ σ H ∧ Reps C.K F H ds vs ∧ asgTs ts ds ρ = some ρ' ∧ ∀ σ', Set1 C F H ρ σ (tgsHas ts) ρ' σ' → Q σ' H
theorem pg_mono {t t' : TG} (h : PG X e t) (m : ∀ v σ H Q, t' v σ H Q → t v σ H Q) : PG X e t' := ⟨fun pins s σ H v u Q I r hw => h.run pins s σ H v u Q I r (m _ _ _ _ hw)⟩
theorem pgs_mono {t t' : TGs} (h : PGs X es t) (m : ∀ v σ H Q, t' v σ H Q → t v σ H Q) : PGs X es t' := ⟨fun pins s σ H v u Q I r hw => h.run pins s σ H v u Q I r (m _ _ _ _ hw)⟩
theorem pg_nameD {i : Nat} (h : PG X e (gName i)) : PG X e (tG C (.name i)) := pg_mono h fun v σ H Q ⟨F, ρ, d, ρ', S, r, hs, k⟩ => by
  have hs : stor i d false ρ = some ρ' := hs
  obtain ⟨S', own, oth⟩ := S.stor hs (show ResR C ρ σ F H d false v from r)
  refine k _ ⟨S', fun j hj => ?_, fun b hb => (own b hb).elim id fun z => nomatch z.1⟩
  have hj : j ≠ i := fun z => by
    subst z
    have : (j == j) = false := hj
    simp at this
  exact ⟨List.getElem?_set_ne (Ne.symm hj), oth j hj⟩
theorem pgs_nilD : PGs X [] (tGs C []) := pgs_mono pgs_nil fun v σ H Q ⟨F, ρ, ds, ρ', S, r, hs, k⟩ => by
  cases r with
  | nil =>
    have hs : some ρ = some ρ' := hs
    cases hs
    exact ⟨rfl, k σ ⟨S, fun _ _ => ⟨rfl, rfl⟩, fun _ h => h⟩⟩
  | cons _ _ => cases hs
theorem pgs_consD {t : Tg} {ts : List Tg} (h1 : PG X e (tG C t)) (h2 : PGs X es (tGs C ts)) (hs : (assignEach (e :: es) X.env).map (·.2) = assign e X.env :: (assignEach es X.env).map (·.2)) : PGs X (e :: es) (tGs C (t :: ts)) :=
  pgs_mono (pgs_cons h1 h2 hs) fun vs σ H Q ⟨F, ρ, ds, ρ', S, r, hs, k⟩ => by
    cases r with
    | nil => cases hs
    | @cons d v ds' vs' r rr =>
      have hs : (asgT t d ρ >>= fun ρ1 => asgTs ts ds' ρ1) = some ρ' := hs
      obtain ⟨ρ1, h3, h4⟩ := obind hs
      refine ⟨v, vs', rfl, F, ρ, d, ρ1, S, r, h3, fun σ1 ⟨S1, o1, w1⟩ => ⟨F, ρ1, ds', ρ', S1, rr, h4, fun σ2 ⟨S2, o2, w2⟩ => k σ2 ⟨S2, fun j hj => ?_, fun b hb => w1 b (w2 b hb)⟩⟩⟩
      obtain ⟨z1, z2⟩ := Bool.or_eq_false_iff.mp (show (tgHas t j || tgsHas ts j) = false from hj)
      exact ⟨(o2 j z2).1.trans (o1 j z1).1, (o2 j z2).2.trans (o1 j z1).2⟩
theorem asgTs_len : ∀ {ts : List Tg} {ds : List D} {ρ ρ' : Ev}, asgTs ts ds ρ = some ρ' → ts.length = ds.length
  | [], [], _, _, _ => rfl
  | [], _ :: _, _, _, h => nomatch h
  | _ :: _, [], _, _, h => nomatch h
  | t :: ts, d :: ds, ρ, ρ', h => by
    have h : (asgT t d ρ >>= fun ρ1 => asgTs ts ds ρ1) = some ρ' := h
    obtain ⟨ρ1, _, h4⟩ := obind h
    rw [List.length_cons, List.length_cons, asgTs_len h4]
theorem pg_tupD {ts : List Tg} {k : Nat} (hc : X.calm = true) (hK : C.K = X.K) (h : PGs X es (tGs C ts)) (hn : (assignEach es X.env).length = ts.length) (hst : (assignEach es X.env).findIdx? (·.1) = none) : PG X (.Tuple es k pos) (tG C (.tup ts)) :=
  pg_mono (pg_tup hc h hn hst) fun v σ H Q ⟨F, ρ, d, ρ', S, r, hs, q⟩ => by
    cases r with
    | @tup a vs ds h1 r1 =>
      have hs : asgTs ts ds ρ = some ρ' := hs
      refine ⟨a, vs, rfl, by rw [← hK]; exact h1, by rw [asgTs_len hs, r1.length], F, ρ, ds, ρ', S, r1, hs, q⟩
    | _ => cases hs
end
/-! ### statements -/
structure Aft (C : Ct) (as : Nat → Bool) (F : Addr → Prop) (σ : L2.St) (H : Hp) (F' : Addr → Prop) (ρ' : Ev) (σ' : L2.St) (H' : Hp) : Prop where
  sim : Sim C F' ρ' σ' H'
  sub : ∀ a, F a → F' a
  keep : Keep F H H'
  same : ∀ i, as i = false → σ'[i]? = σ[i]?
theorem Aft.trans {C : Ct} {as bs cs : Nat → Bool} {F F1 F2 : Addr → Prop} {σ σ1 σ2 : L2.St} {H H1 H2 : Hp} {ρ1 ρ2 : Ev} (a : Aft C as F σ H F1 ρ1 σ1 H1) (b : Aft C bs F1 σ1 H1 F2 ρ2 σ2 H2) (ha : ∀ i, cs i = false → as i = false ∧ bs i = false) : Aft C cs F σ H F2 ρ2 σ2 H2 :=
  ⟨b.sim, fun x h => b.sub x (a.sub x h), a.keep.trans a.sub b.keep, fun i h => (b.same i (ha i h).2).trans (a.same i (ha i h).1)⟩
theorem Aft.more {C : Ct} {as cs : Nat → Bool} {F F1 : Addr → Prop} {σ σ1 : L2.St} {H H1 : Hp} {ρ1 : Ev} (a : Aft C as F σ H F1 ρ1 σ1 H1) (ha : ∀ i, cs i = false → as i = false) : Aft C cs F σ H F1 ρ1 σ1 H1 :=
  ⟨a.sim, a.sub, a.keep, fun i h => a.same i (ha i h)⟩
theorem Aft.of {C : Ct} {as : Nat → Bool} {F F1 : Addr → Prop} {σ : L2.St} {H H1 : Hp} {ρ ρ1 : Ev} (S : Sim C F ρ σ H) (S1 : Sim C F1 ρ1 σ H1) (st : Step ρ σ F H ρ1 F1 H1) : Aft C as F σ H F1 ρ1 σ H1 := ⟨S1, st.sub, st.keep S, fun _ _ => rfl⟩
def EndO (C : Ct) (as : Nat → Bool) (F : Addr → Prop) (σ : L2.St) (H : Hp) (o : Out) (D : Ends) : Prop := match o with
  | .nx ρ' => ∀ F' σ' H', Aft C as F σ H F' ρ' σ' H' → D.nx σ' H'
  | .brk ρ' => ∀ F' σ' H', Aft C as F σ H F' ρ' σ' H' → D.bk σ' H'
  | .cont ρ' => ∀ F' σ' H', Aft C as F σ H F' ρ' σ' H' → D.ct σ' H'
  | .ret d fr ρ' => ∀ F' σ' H' v, Sim C F' ρ' σ' H' → ResR C ρ' σ' F' H' d fr v → D.rt v H'
theorem EndO.after {C : Ct} {as bs cs : Nat → Bool} {F F1 : Addr → Prop} {σ σ1 : L2.St} {H H1 : Hp} {ρ1 : Ev} {o : Out} {D : Ends} (k : EndO C cs F σ H o D) (a : Aft C as F σ H F1 ρ1 σ1 H1) (ha : ∀ i, cs i = false → as i = false ∧ bs i = false) : EndO C bs F1 σ1 H1 o D := by
  cases o with
  | nx ρ' => exact fun F' σ' H' b => k F' σ' H' (a.trans b ha)
  | brk ρ' => exact fun F' σ' H' b => k F' σ' H' (a.trans b ha)
  | cont ρ' => exact fun F' σ' H' b => k F' σ' H' (a.trans b ha)
  | ret d fr ρ' => exact k
def tS (C : Ct) (as : Nat → Bool) (g : StR) : TS := fun D σ H => ∃ F ρ o, Sim C F ρ σ H ∧ g ρ = some o ∧ EndO C as F σ H o D
section
variable {X : Cx} {C : Ct} {e : Expr} {es : List Expr} {pos : Pos} {st : Stmt} {sts : List Stmt} {as bs : Nat → Bool}
theorem tS_more {g : StR} {D : Ends} {σ : L2.St} {H : Hp} (h : tS C bs g D σ H) (m : ∀ i, bs i = false → as i = false) : tS C as g D σ H := by
  obtain ⟨F, ρ, o, S, hg, k⟩ := h
  refine ⟨F, ρ, o, S, hg, ?_⟩
  cases o with
  | nx ρ' => exact fun F' σ' H' b => k F' σ' H' (b.more m)
  | brk ρ' => exact fun F' σ' H' b => k F' σ' H' (b.more m)
  | cont ρ' => exact fun F' σ' H' b => k F' σ' H' (b.more m)
  | ret d fr ρ' => exact k
theorem asg_read {i : Nat} {f : EvR} {D : Ends} {σ : L2.St} {H : Hp} (h : tS C (fun j => i == j) (stAsg i f) D σ H) : tAsg (tE C f) (gName i) D σ H := by
  obtain ⟨F, ρ, o, S, hf, k⟩ := h
  obtain ⟨⟨d, fr, ρ1⟩, h1, hf⟩ := obind hf
  obtain ⟨ρ2, h2, hf⟩ := obind hf
  cases hf
  refine ⟨F, ρ, d, fr, ρ1, S, h1, fun F1 H1 v S1 st1 r1 => ?_⟩
  exact k F1 _ H1 ⟨(S1.stor h2 (r1.res S)).1, st1.sub, st1.keep S, fun j hj => List.getElem?_set_ne (by simpa using hj)⟩
theorem asgT_read {t : Tg} {f : EvR} {D : Ends} {σ : L2.St} {H : Hp} (h : tS C (tgHas t) (stAsgT t f) D σ H) : tAsg (tV C f) (tG C t) D σ H := by
  obtain ⟨F, ρ, o, S, hf, k⟩ := h
  obtain ⟨⟨d, fr, ρ1⟩, h1, hf⟩ := obind hf
  obtain ⟨ρ2, h2, hf⟩ := obind hf
  cases hf
  refine ⟨F, ρ, d, fr, ρ1, S, h1, fun F1 H1 v S1 st1 r1 => ⟨F1, ρ1, d, ρ2, S1, r1, h2, fun σ2 ⟨S2, o2, w2⟩ => ?_⟩⟩
  exact k F1 σ2 H1 ⟨S2, st1.sub, st1.keep S, fun j hj => (o2 j hj).1⟩
theorem ps_exD {f : EvR} (he : PE X e (tE C f)) (hs : swapsWith e none pos.line X.env = pure false) : PS X (.Expr e pos) (tS C as (stEx f)) := ps_mono (ps_expr he hs) fun D σ H h => by
  obtain ⟨F, ρ, o, S, hf, k⟩ := h
  obtain ⟨⟨d, fr, ρ1⟩, h1, hf⟩ := obind hf
  cases hf
  exact ⟨F, ρ, d, fr, ρ1, S, h1, fun F1 H1 v S1 st1 r1 => k F1 σ H1 (.of S S1 st1)⟩
theorem ps_retD {f : EvR} (he : PE X e (tE C f)) : PS X (.Return (some e) pos) (tS C as (stRet f)) := ps_mono (ps_ret he) fun D σ H h => by
  obtain ⟨F, ρ, o, S, hf, k⟩ := h
  obtain ⟨⟨d, fr, ρ1⟩, h1, hf⟩ := omap hf
  cases hf
  exact ⟨F, ρ, d, fr, ρ1, S, h1, fun F1 H1 v S1 st1 r1 => k F1 σ H1 v S1 (r1.res S)⟩
theorem ps_retND : PS X (.Return none pos) (tS C as (stRet (evC .none))) := ps_mono ps_retN fun D σ H h => by
  obtain ⟨F, ρ, o, S, hf, k⟩ := h
  cases hf
  exact k F σ H _ S (show Rep C.K F H .none .non from .non)
theorem ps_retVD {i : Nat} (he : PE X e (tVar i)) : PS X (.Return (some e) pos) (tS C as (stRetV i)) := ⟨fun pins s σ H D I h => by
  obtain ⟨F, ρ, o, S, hf, k⟩ := h
  have hf0 := hf
  unfold stRetV at hf
  split at hf
  · rename_i s' hs
    by_cases ho : (s'.own && !s'.lk) = true
    · rw [if_pos ho] at hf
      cases hf
      rw [Bool.and_eq_true] at ho
      have hl : s'.lk = false := by
        cases e1 : s'.lk with
        | false => rfl
        | true => rw [e1] at ho; exact nomatch ho.2
      obtain ⟨a, ea, r, nf, k1, _⟩ := S.own i s' hs ho.1
      have hi : i < ρ.length := (List.getElem?_eq_some_iff.mp hs).1
      refine (ps_ret he).run pins s σ H D I ⟨.ref a, ea, k F σ H _ (S.drop (S.noP hs hl)) ⟨a, rfl, k1 hl, r, nf, ?_⟩⟩
      rintro ⟨j, t, h1, h2, h3⟩
      by_cases hj : j = i
      · subst hj
        rw [List.getElem?_set_self hi] at h1; cases h1
      · rw [List.getElem?_set_ne (Ne.symm hj)] at h1
        exact hj (S.inj j i t s' a h1 hs h2 ho.1 h3 ea)
    · rw [if_neg ho] at hf
      exact (ps_retD (as := as) (pe_varE (C := C) he)).run pins s σ H D I ⟨F, ρ, o, S, hf, k⟩
  · cases hf⟩
theorem ps_ifD {c : Expr} {p q : List Stmt} {f : EvR} {ga gb : StR} {cs : Nat → Bool} (hc : PT X c (tB' C f)) (ha : PSs X p (tS C as ga)) (hb : PSs X q (tS C bs gb)) (m : ∀ i, cs i = false → as i = false ∧ bs i = false) : PS X (.If c p q pos) (tS C cs (stIf f ga gb)) :=
  ps_mono (ps_if hc ha hb) fun D σ H h => by
    obtain ⟨F, ρ, o, S, hf, k⟩ := h
    unfold stIf at hf
    split at hf
    · rename_i b fr ρ1 h1
      refine ⟨F, ρ, b, fr, ρ1, S, h1, fun F1 H1 S1 st1 => ?_⟩
      have a1 : Aft C (fun _ => false) F σ H F1 ρ1 σ H1 := .of S S1 st1
      cases b with
      | true => exact ⟨F1, ρ1, o, S1, hf, k.after a1 fun i hi => ⟨rfl, (m i hi).1⟩⟩
      | false => exact ⟨F1, ρ1, o, S1, hf, k.after a1 fun i hi => ⟨rfl, (m i hi).2⟩⟩
    · cases hf
theorem ps_passD : PS X (.Pass pos) (tS C as stNx) := ps_mono ps_pass fun D σ H h => by
  obtain ⟨F, ρ, o, S, hf, k⟩ := h
  cases hf
  exact k F σ H ⟨S, fun _ h => h, Keep.refl _ _, fun _ _ => rfl⟩
theorem ps_brkD : PS X (.Break pos) (tS C as fun ρ => some (.brk ρ)) := ps_mono ps_break fun D σ H h => by
  obtain ⟨F, ρ, o, S, hf, k⟩ := h
  cases hf
  exact k F σ H ⟨S, fun _ h => h, Keep.refl _ _, fun _ _ => rfl⟩
theorem ps_contD : PS X (.Continue pos) (tS C as fun ρ => some (.cont ρ)) := ps_mono ps_continue fun D σ H h => by
  obtain ⟨F, ρ, o, S, hf, k⟩ := h
  cases hf
  exact k F σ H ⟨S, fun _ h => h, Keep.refl _ _, fun _ _ => rfl⟩
theorem ps_noneD : PS X st (tS C as fun _ => none) := ⟨fun pins s σ H D I h => by
  obtain ⟨F, ρ, o, S, hf, k⟩ := h
  cases hf⟩
theorem pss_nilD : PSs X [] (tS C as stNx) := pss_mono pss_nil fun D σ H h => by
  obtain ⟨F, ρ, o, S, hf, k⟩ := h
  cases hf
  exact k F σ H ⟨S, fun _ h => h, Keep.refl _ _, fun _ _ => rfl⟩
theorem pss_consD {ga gb : StR} {cs : Nat → Bool} (h1 : PS X st (tS C as ga)) (h2 : PSs X sts (tS C bs gb)) (m : ∀ i, cs i = false → as i = false ∧ bs i = false) : PSs X (st :: sts) (tS C cs (stSeq ga gb)) :=
  pss_mono (pss_cons h1 h2) fun D σ H h => by
    obtain ⟨F, ρ, o, S, hf, k⟩ := h
    unfold stSeq at hf
    split at hf
    · rename_i ρ1 h1
      exact ⟨F, ρ, _, S, h1, fun F1 σ1 H1 a => ⟨F1, ρ1, o, a.sim, hf, k.after a m⟩⟩
    · rename_i o' hn
      refine ⟨F, ρ, o, S, hf, ?_⟩
      cases o with
      | nx ρ1 => exact absurd hf (hn ρ1)
      | brk ρ' => exact fun F' σ' H' b => k F' σ' H' (b.more fun i hi => (m i hi).1)
      | cont ρ' => exact fun F' σ' H' b => k F' σ' H' (b.more fun i hi => (m i hi).1)
      | ret d fr ρ' => exact k
theorem ps_whileD {c : Expr} {body : List Stmt} {f : EvR} {g : StR} (hp : PassesOwn (model X.prog X.w) X.A X.env X.xe) (hc : PT X c (tB' C f)) (hb : PSs X body (tS C as g)) : PS X (.While c body [] pos) (tS C as (whileC f g)) :=
  ps_mono (ps_while hp hc hb) fun D σ H h => by
    obtain ⟨F, ρ, o, S, hf, k⟩ := h
    obtain ⟨n, hn⟩ := whileC_ex hf
    refine ⟨fun m σ1 H1 => ∃ F1 ρ1, Aft C as F σ H F1 ρ1 σ1 H1 ∧ whileN f g m ρ1 = some o, ⟨n, F, ρ, ⟨S, fun _ h => h, Keep.refl _ _, fun _ _ => rfl⟩, hn⟩, ?_⟩
    rintro m σ1 H1 ⟨F1, ρ1, a1, h1⟩
    have kk : EndO C as F1 σ1 H1 o D := k.after a1 fun i hi => ⟨hi, hi⟩
    cases m with
    | zero => cases h1
    | succ m =>
      unfold whileN at h1
      split at h1
      · rename_i fr ρ2 h2
        refine ⟨F1, ρ1, true, fr, ρ2, a1.sim, h2, fun F2 H2 S2 st2 => ?_⟩
        have a2 : Aft C as F σ H F2 ρ2 σ1 H2 := a1.trans (Aft.of (as := fun _ => false) a1.sim S2 st2) fun i hi => ⟨hi, rfl⟩
        have kk2 : EndO C as F2 σ1 H2 o D := k.after a2 fun i hi => ⟨hi, hi⟩
        dsimp only
        rw [if_pos rfl]
        refine ⟨fun σ' H' => ∃ F1 ρ1, Aft C as F σ H F1 ρ1 σ' H' ∧ whileN f g m ρ1 = some o, fun σ' H' w => ⟨m, Nat.lt_succ_self _, w⟩, ?_⟩
        split at h1
        · rename_i ρ3 h3
          exact ⟨F2, ρ2, _, S2, h3, fun F3 σ3 H3 a3 => ⟨F3, ρ3, a2.trans a3 fun i hi => ⟨hi, hi⟩, h1⟩⟩
        · rename_i ρ3 h3
          exact ⟨F2, ρ2, _, S2, h3, fun F3 σ3 H3 a3 => ⟨F3, ρ3, a2.trans a3 fun i hi => ⟨hi, hi⟩, h1⟩⟩
        · rename_i ρ3 h3
          cases h1
          exact ⟨F2, ρ2, _, S2, h3, kk2⟩
        · rename_i d fr2 ρ3 h3
          cases h1
          exact ⟨F2, ρ2, _, S2, h3, kk2⟩
        · cases h1
      · rename_i fr ρ2 h2
        cases h1
        refine ⟨F1, ρ1, false, fr, ρ2, a1.sim, h2, fun F2 H2 S2 st2 => ?_⟩
        dsimp only
        rw [if_neg Bool.false_ne_true]
        exact kk F2 σ1 H2 (.of a1.sim S2 st2)
      · cases h1
end
end EV

/-! EvG: methods that change a list; stores in a list; several names at once. -/
namespace EV
open PySem PySem.Spec PyProof.Rows L2
section
variable {X : Cx} {C : Ct} {e : Expr} {es : List Expr} {pos : Pos} {as : Nat → Bool}
/-! methods -/
def rExtR (K : PySem.W.Frag) : V → List V → Hp → VK → Prop := fun x vs H Q => ∃ l b xs zs, x = .ref l ∧ vs = [.ref b] ∧ H l = some (.lst xs) ∧ RdL K H b zs ∧ xs.length + zs.length ≤ sizeLine ∧ Q .non (upd H l (.lst (xs ++ zs)))
theorem mt_extR : MtM X "list.extend" (rExtR X.K) := by
  intro pins s σ H x vs v us Q I rx rv h
  obtain ⟨l, b, xs, zs, rfl, rfl, hH, hB, hz, q⟩ := h
  cases rx
  obtain ⟨u, rfl, ru⟩ := rv.one
  cases ru
  obtain ⟨z, its, n, r, hl, e⟩ := I.lstM hH
  obtain ⟨z2, its2, n2, r2, hl2, e2⟩ := I.rlst hB
  have hsz : its.toArray.size + its2.toArray.size ≤ sizeLine := by rw [List.size_toArray, List.size_toArray]; omega
  have hlong : ¬ (!its.toArray.isEmpty && Builtin.List.listTooLong (its.toArray.size + its2.toArray.size)) = true := by
    rw [notLongL hsz, Bool.and_false]
    exact Bool.false_ne_true
  refine call_meets F.slot_list_extend ⟨_, e, rfl⟩ F.entry_list_extend (F.args_list_extend_2 _ _)
    (AutoSeq1.list_extend_list_list_0 l its.toArray n b its2.toArray n2 hlong (by rw [List.size_toArray]; omega) (by omega)) ⟨e, e2, ?_⟩
  refine ⟨.non, _, I.lset (its' := its ++ its2) hH e (by simp) (r.append r2) ?_, rfl, q⟩
  rw [List.length_append]
  omega
/-- the owned list of a name -/
theorem Sim.at {F : Addr → Prop} {ρ : Ev} {σ : L2.St} {H : Hp} {i : Nat} {x : D} {lk : Bool} (S : Sim C F ρ σ H) (hs : ρ[i]? = some (some ⟨x, true, lk⟩)) : ∃ a ds vs, x = .list ds ∧ σ[i]? = some (some (.ref a)) ∧ H a = some (.lst vs) ∧ Reps C.K F H ds vs := by
  obtain ⟨a, e, r, _⟩ := S.own i _ hs rfl
  obtain ⟨ds, vs, h1, h2, h3⟩ := r.lst
  exact ⟨a, ds, vs, h1, e, h2, h3⟩
/-- a name that owns a list behind a part owned it ahead of the part -/
theorem Step.at0 {F F' : Addr → Prop} {ρ ρ' : Ev} {σ : L2.St} {H H' : Hp} {i : Nat} {x : D} {lk : Bool} (S : Sim C F ρ σ H) (S' : Sim C F' ρ' σ H') (st : Step ρ σ F H ρ' F' H') (hs : ρ'[i]? = some (some ⟨x, true, lk⟩)) :
    ∃ a vs, σ[i]? = some (some (.ref a)) ∧ H a = some (.lst vs) := by
  obtain ⟨a, _, _, _, e, _, _⟩ := S'.at hs
  obtain ⟨j, s, h1, h2, h3⟩ := st.own a ⟨i, _, hs, rfl, e⟩
  obtain ⟨b, e2, r, _⟩ := S.own j s h1 h2
  rw [h3] at e2; cases e2
  obtain ⟨_, vs, _, h4, _⟩ := r.lst
  exact ⟨a, vs, e, h4⟩
/-- a method's rule by data -/
def MuOk (K : PySem.W.Frag) (m : Mu) (A : (Addr → Prop) → Hp → List D → List V → Prop) (r : V → List V → Hp → VK → Prop) : Prop :=
  ∀ (F : Addr → Prop) (H : Hp) (a : Addr) (ds es gs : List D) (vs us : List V) (y : D) (Q : VK), H a = some (.lst vs) → Reps K F H ds vs → A F H es us → muD m ds es = some (y, gs) →
    (∀ v ws, Reps K F H gs ws → Rep K F H y v → Q v (upd H a (.lst ws))) → r (.ref a) us H Q
theorem change_at {m : Mu} {i : Nat} {es : List D} {ρ ρ' : Ev} {d : D} {fr : Bool} (h : changeAt m i es ρ = some (d, fr, ρ')) : ∃ xs lk gs, ρ[i]? = some (some ⟨.list xs, true, lk⟩) ∧ muD m xs es = some (d, gs) ∧ fr = false ∧ ρ' = ρ.set i (some ⟨.list gs, true, lk⟩) := by
  unfold changeAt at h
  split at h
  · rename_i xs lk hs
    obtain ⟨⟨y, gs⟩, h3, h4⟩ := omap h
    cases h4
    exact ⟨xs, lk, gs, hs, h3, rfl, rfl⟩
  · cases h
theorem mu_end {m : Mu} {i : Nat} {A : (Addr → Prop) → Hp → List D → List V → Prop} {r : V → List V → Hp → VK → Prop} {es : List D} {d : D} {fr : Bool} {ρ ρ1 ρ' : Ev} {F F1 : Addr → Prop} {H H1 : Hp} {σ : L2.St} {us : List V} {Q : VK} {a : Addr}
    (ok : MuOk C.K m A r) (S : Sim C F ρ σ H) (S1 : Sim C F1 ρ1 σ H1) (st : Step ρ σ F H ρ1 F1 H1) (ha : σ[i]? = some (some (.ref a))) (hA : A F1 H1 es us) (h : changeAt m i es ρ1 = some (d, fr, ρ'))
    (k : ∀ F' H' v, Sim C F' ρ' σ H' → Step ρ σ F H ρ' F' H' → ResV C.K H ρ' σ F' H' d fr v → Q v H') : r (.ref a) us H1 Q := by
  obtain ⟨xs, lk, gs, h1, h2, rfl, rfl⟩ := change_at h
  obtain ⟨b, ds, vs, e1, e2, e3, e4⟩ := S1.at h1
  cases e1
  rw [ha] at e2; cases e2
  refine ok F1 H1 a xs es gs vs us d Q e3 e4 hA h2 fun v ws r1 r2 => ?_
  obtain ⟨S2, st2⟩ := S1.change h1 ha e3 r1
  exact k F1 _ v S2 (st.trans st2) (show Rep C.K F1 _ d v from st2.rep S1 r2)
theorem ownL_at {i : Nat} {ρ : Ev} (h : ownL i ρ = true) : ∃ xs lk, ρ[i]? = some (some ⟨.list xs, true, lk⟩) := by
  unfold ownL at h
  split at h
  · rename_i xs lk hs; exact ⟨xs, lk, hs⟩
  · cases h
theorem muO_read {m : Mu} {i : Nat} {f : EvOs} {σ : L2.St} {H : Hp} {Q : VK} {r : V → List V → Hp → VK → Prop} (ok : MuOk C.K m (RepWs C.K) r) (h : tE C (evMuO m i f) σ H Q) : tBM C.K "list" r (tVar i) (tOs C f) σ H Q := by
  obtain ⟨F, ρ, d, fr, ρ', S, h0, k⟩ := h
  obtain ⟨ho, h0⟩ := Option.ite_none_right_eq_some.mp h0
  obtain ⟨xs, lk, hs⟩ := ownL_at ho
  obtain ⟨a, _, vs, _, ha, hH, _⟩ := S.at hs
  obtain ⟨⟨os, ρ1⟩, h1, h0⟩ := obind h0
  obtain ⟨es, h2, h0⟩ := obind h0
  exact ⟨.ref a, ha, .inl ⟨rfl, vs, SqL.of hH⟩, F, ρ, os, ρ1, S, h1, fun F1 H1 us S1 st1 r1 => mu_end ok S S1 st1 ha (r1.gets S1 h2) h0 k⟩
theorem muV_read {m : Mu} {i : Nat} {f : EvVs} {σ : L2.St} {H : Hp} {Q : VK} {r : V → List V → Hp → VK → Prop} (ok : MuOk C.K m (Reps C.K) r) (h : tE C (evMuV m i f) σ H Q) : tBM C.K "list" r (tVar i) (tVs C f) σ H Q := by
  obtain ⟨F, ρ, d, fr, ρ', S, h0, k⟩ := h
  obtain ⟨ho, h0⟩ := Option.ite_none_right_eq_some.mp h0
  obtain ⟨xs, lk, hs⟩ := ownL_at ho
  obtain ⟨a, _, vs, _, ha, hH, _⟩ := S.at hs
  obtain ⟨⟨es, ρ1⟩, h1, h0⟩ := obind h0
  exact ⟨.ref a, ha, .inl ⟨rfl, vs, SqL.of hH⟩, F, ρ, es, ρ1, S, h1, fun F1 H1 us S1 st1 r1 => mu_end ok S S1 st1 ha r1 h0 k⟩
theorem mu0_read {m : Mu} {i : Nat} {σ : L2.St} {H : Hp} {Q : VK} {r : V → List V → Hp → VK → Prop} (ok : MuOk C.K m (Reps C.K) r) (h : tE C (evMuV m i evNil) σ H Q) : tBM0 C.K "list" r (tVar i) σ H Q := by
  obtain ⟨F, ρ, d, fr, ρ', S, h0, k⟩ := h
  obtain ⟨ho, h0⟩ := Option.ite_none_right_eq_some.mp h0
  obtain ⟨xs, lk, hs⟩ := ownL_at ho
  obtain ⟨a, _, vs, _, ha, hH, _⟩ := S.at hs
  obtain ⟨⟨es, ρ1⟩, h1, h0⟩ := obind h0
  cases h1
  exact ⟨.ref a, ha, .inl ⟨rfl, vs, SqL.of hH⟩, mu_end ok S S (Step.refl _ _ _ _) ha (.nil) h0 k⟩
theorem ok_append (K : PySem.W.Frag) : MuOk K .append (Reps K) rAppend := by
  intro F H a ds es gs vs us y Q hH r ra h k
  unfold muD at h
  split at h <;> try contradiction
  obtain ⟨hz, h⟩ := Option.ite_none_right_eq_some.mp h
  cases h
  obtain ⟨v, rfl, r1⟩ := ra.one
  exact ⟨a, vs, v, rfl, rfl, hH, by rw [← r.length]; exact hz, k .non _ (r.append (.cons r1 .nil)) .non⟩
theorem ok_extend (K : PySem.W.Frag) : MuOk K .extend (RepWs K) (rExtR K) := by
  intro F H a ds es gs vs us y Q hH r ra h k
  unfold muD at h
  split at h <;> try contradiction
  obtain ⟨hz, h⟩ := Option.ite_none_right_eq_some.mp h
  cases h
  obtain ⟨v, rfl, r1⟩ := ra.one
  obtain ⟨b, ws, rfl, h1, r2⟩ := r1.lst
  exact ⟨a, b, vs, ws, rfl, rfl, hH, h1, by rw [← r.length, ← r2.length]; exact hz, k .non _ (r.append r2) .non⟩
theorem Reps.nilV {K : PySem.W.Frag} {F : Addr → Prop} {H : Hp} {vs : List V} (r : Reps K F H [] vs) : vs = [] := by cases r; rfl
theorem ok_pop (K : PySem.W.Frag) : MuOk K .pop (Reps K) (fun x vs H Q => rPop x vs H Q ∨ rPopAt x vs H Q) := by
  intro F H a ds es gs vs us y Q hH r ra h k
  unfold muD at h
  split at h <;> try contradiction
  · split at h
    · rename_i z hz
      cases h
      cases ra.nilV
      obtain ⟨v, h1, h2⟩ := r.get hz
      exact .inl ⟨a, vs, v, rfl, rfl, hH, by rw [← r.length]; exact h1, k v _ r.dropLast h2⟩
    · cases h
  · split at h
    · rename_i j hj
      split at h
      · rename_i z hz
        obtain ⟨hi, h⟩ := Option.ite_none_right_eq_some.mp h
        cases h
        obtain ⟨v, rfl, r1⟩ := ra.one
        cases r1
        obtain ⟨v, h1, h2⟩ := r.get hz
        obtain ⟨q1, _⟩ := ixN_seq hj
        refine .inr ⟨a, vs, _, j, v, rfl, rfl, hH, hi.1, hi.2, by rw [← r.length]; exact q1, h1, k v _ ?_ h2⟩
        have e1 : ∀ {α : Type} (l : List α) (n : Nat), l.eraseIdx n = l.take n ++ l.drop (n + 1) := fun l n => List.eraseIdx_eq_take_drop_succ l n
        rw [e1, e1]
        exact (r.take _).append (r.drop _)
      · cases h
    · cases h
theorem ok_insert (K : PySem.W.Frag) : MuOk K .insert (Reps K) (fun x vs H Q => ∃ (l : Addr) (xs : List V) (i : Int) (y : V), x = .ref l ∧ vs = [.int i, y] ∧ H l = some (.lst xs) ∧ xs.length < sizeLine ∧ 0 ≤ i ∧ i < 2 ^ 63 ∧
    Q .non (upd H l (.lst (xs.take i.toNat ++ [y] ++ xs.drop i.toNat)))) := by
  intro F H a ds es gs vs us y Q hH r ra h k
  unfold muD at h
  split at h <;> try contradiction
  obtain ⟨hz, h⟩ := Option.ite_none_right_eq_some.mp h
  cases h
  cases ra with
  | cons r0 r1 =>
    cases r0
    obtain ⟨v, rfl, r2⟩ := r1.one
    exact ⟨a, vs, _, v, rfl, rfl, hH, by rw [← r.length]; exact hz.1, hz.2.1, hz.2.2, k .non _ (((r.take _).append (.cons r2 .nil)).append (r.drop _)) .non⟩
variable {o e2 : Expr} {i : Nat} {apos cpos : Pos}
theorem all_plain1 {env : Env} (hn : noStar e = true) : ((backTo cpos (starEach [e] env)).all (fun x => !x.1) && (backToKw cpos (keywordEach [] env)).all (fun x => x.1.isSome) && decide (([e] : List Expr).length + ([] : List Keyword).length + (if ([] : List Keyword).isEmpty then 0 else 1) < 30)) = true := by
  rw [star_no hn]; rfl
theorem all_plain2 {env : Env} (hn : noStar e = true) (hn2 : noStar e2 = true) : ((backTo cpos (starEach [e, e2] env)).all (fun x => !x.1) && (backToKw cpos (keywordEach [] env)).all (fun x => x.1.isSome) && decide (([e, e2] : List Expr).length + ([] : List Keyword).length + (if ([] : List Keyword).isEmpty then 0 else 1) < 30)) = true := by
  rw [star_no hn, star_no hn2]; rfl
theorem pe_appendD {f : EvVs} (ho : PE X o (tVar i)) (ha : PA X [e] (tVs C f)) (hK : C.K = X.K) (hb : attributeBase o "append" X.env (eval o X.env) = eval o X.env) (hl : (apos.endLine == cpos.line) = true) (hn : noStar e = true) :
    PE X (.Call (.Attribute o "append" apos) [e] [] cpos) (tE C (evMuV .append i f)) :=
  pe_mono (pe_bm PySem.F.plainAttrs_list PySem.F.slot_list_append PySem.F.type_list_append mt_append ho ha hb (all_plain1 hn) hl (star_no hn) rfl) fun σ H Q h => by rw [← hK]; exact muV_read (ok_append _) h
theorem pe_extendD {f : EvOs} (ho : PE X o (tVar i)) (ha : PA X [e] (tOs C f)) (hK : C.K = X.K) (hb : attributeBase o "extend" X.env (eval o X.env) = eval o X.env) (hl : (apos.endLine == cpos.line) = true) (hn : noStar e = true) :
    PE X (.Call (.Attribute o "extend" apos) [e] [] cpos) (tE C (evMuO .extend i f)) :=
  pe_mono (pe_bm PySem.F.plainAttrs_list PySem.F.slot_list_extend PySem.F.type_list_extend mt_extR ho ha hb (all_plain1 hn) hl (star_no hn) rfl) fun σ H Q h => by rw [← hK]; exact muO_read (ok_extend _) h
theorem pe_popD {f : EvVs} (ho : PE X o (tVar i)) (ha : PA X [e] (tVs C f)) (hK : C.K = X.K) (hb : attributeBase o "pop" X.env (eval o X.env) = eval o X.env) (hl : (apos.endLine == cpos.line) = true) (hn : noStar e = true) :
    PE X (.Call (.Attribute o "pop" apos) [e] [] cpos) (tE C (evMuV .pop i f)) :=
  pe_mono (pe_bm PySem.F.plainAttrs_list PySem.F.slot_list_pop PySem.F.type_list_pop (MtR.or mt_pop mt_popAt) ho ha hb (all_plain1 hn) hl (star_no hn) rfl) fun σ H Q h => by rw [← hK]; exact muV_read (ok_pop _) h
theorem pe_pop0D (ho : PE X o (tVar i)) (hK : C.K = X.K) (hb : attributeBase o "pop" X.env (eval o X.env) = eval o X.env) (hl : (apos.endLine == cpos.line) = true) :
    PE X (.Call (.Attribute o "pop" apos) [] [] cpos) (tE C (evMuV .pop i evNil)) :=
  pe_mono (pe_bm0 PySem.F.plainAttrs_list PySem.F.slot_list_pop PySem.F.type_list_pop (MtR.or mt_pop mt_popAt) ho hb hl) fun σ H Q h => by rw [← hK]; exact mu0_read (ok_pop _) h
theorem pe_insertD {f : EvVs} (ho : PE X o (tVar i)) (ha : PA X [e, e2] (tVs C f)) (hK : C.K = X.K) (hb : attributeBase o "insert" X.env (eval o X.env) = eval o X.env) (hl : (apos.endLine == cpos.line) = true) (hn : noStar e = true) (hn2 : noStar e2 = true) :
    PE X (.Call (.Attribute o "insert" apos) [e, e2] [] cpos) (tE C (evMuV .insert i f)) :=
  pe_mono (pe_bm PySem.F.plainAttrs_list PySem.F.slot_list_insert PySem.F.type_list_insert mt_insert ho ha hb (all_plain2 hn hn2) hl (star_no hn) (by rw [star_no hn2]; rfl)) fun σ H Q h => by rw [← hK]; exact muV_read (ok_insert _) h
/-! stores in a list -/
def rGetR : V → V → Hp → VK → Prop := fun o i H Q => ∃ p xs k v, o = .ref p ∧ i = .int k ∧ SqL X.K H p xs ∧ atI xs k = some v ∧ Q v H
theorem get_listD : PGet X (rGetR (X := X)) := by
  intro pins s σ H x y v u Q I rx ry h
  obtain ⟨p, xs, i, z, rfl, rfl, hq, he, q⟩ := h
  cases rx
  obtain ⟨t, rfl⟩ := ry
  obtain ⟨its, r, pl, hz⟩ := I.list hq
  obtain ⟨j, h1, h2, h3, h4, h5⟩ := atI_get he
  obtain ⟨w, ew, rw'⟩ := r.get h2
  have hl := r.length
  have hn := line63
  have fin : EP X pins σ Q w s := ⟨z, H, I, rw', q⟩
  by_cases h0 : 0 ≤ i
  · have hj : i.toNat = j := by
      rw [seqIndex_of h0 h5] at h1
      exact Option.some.inj h1
    exact wpAny_getItem_list pl.isList h0 (by omega) (by rw [hj]; simpa using ew) fin
  · have hj : (i + (its.toArray.size : Int)).toNat = j := by
      rw [seqIndex_neg (by omega) h4] at h1
      rw [List.size_toArray, ← hl]
      exact Option.some.inj h1
    exact wpAny_getItem_list_neg pl.isList (by omega) (by rw [List.size_toArray] <;> omega) (by omega) (by rw [hj]; simpa using ew) fin
theorem set_at {i : Nat} {x d : D} {ρ ρ' : Ev} (h : setAt i x d ρ = some ρ') : ∃ xs lk j n, ρ[i]? = some (some ⟨.list xs, true, lk⟩) ∧ x = .int j ∧ ixN xs.length j = some n ∧ ρ' = ρ.set i (some ⟨.list (xs.set n d), true, lk⟩) := by
  unfold setAt at h
  split at h
  · rename_i xs lk hs
    split at h
    · rename_i j
      split at h
      · rename_i n hn
        cases h
        exact ⟨xs, lk, j, n, hs, rfl, hn, rfl⟩
      · cases h
    · cases h
  · cases h
/-- an own list's place is written, in the run -/
theorem set_run {F : Addr → Prop} {H : Hp} {ρ ρ' : Ev} {σ : L2.St} {a : Addr} {x d : D} {v w : V} {Q : Hp → Prop} (S : Sim C F ρ σ H) (ha : σ[i]? = some (some (.ref a))) (h : setAt i x d ρ = some ρ') (rx : Rep C.K F H x w) (rd : Rep C.K F H d v)
    (k : ∀ H', Sim C F ρ' σ H' → Step ρ σ F H ρ' F H' → Q H') : rSetL (.ref a) w v H Q := by
  obtain ⟨xs, lk, j, n, h1, rfl, h2, rfl⟩ := set_at h
  cases rx
  obtain ⟨b, ds, vs, e1, e2, e3, e4⟩ := S.at h1
  cases e1
  rw [ha] at e2; cases e2
  obtain ⟨S2, st2⟩ := S.change h1 ha e3 (e4.set rd n)
  exact ⟨a, vs, j, n, rfl, rfl, e3, by rw [← e4.length]; exact h2, k _ S2 st2⟩
theorem ps_setD {kx : Expr} {fk fv : EvR} {tpos : Pos} (ho : PE X o (tVar i)) (hk : PE X kx (tE C fk)) (hv : PE X e (tE C fv)) (hs : swapsWithSole [.Subscript o kx tpos] e pos.line X.env = pure false) (hw : swappedStores [.Subscript o kx tpos] e X.env = pure none)
    (h1 : (assignEach [.Subscript o kx tpos] X.env).map (·.2) = [assign (.Subscript o kx tpos) X.env]) (hpl : ∀ v, assign (.Subscript o kx tpos) X.env v = (do
      let ov ← holding [v] (eval o X.env)
      let iv ← holding [v, ov] (eval kx X.env)
      standAt tpos
      holding [v, ov, iv] (setItem ov iv v)
      release [v, ov, iv] [])) : PS X (.Assign [.Subscript o kx tpos] e pos) (tS C as (stSet i fk fv)) :=
  ps_mono (ps_asg (pe_V hv) (pg_sub ho (pe_V hk) set_list hpl) hs hw h1) fun D σ H h => by
    obtain ⟨F, ρ, ot, S, hf, k⟩ := h
    obtain ⟨⟨d, fr, ρ1⟩, h2, hf⟩ := obind hf
    obtain ⟨hl, hf⟩ := Option.ite_none_right_eq_some.mp hf
    obtain ⟨⟨x, fx, ρ2⟩, h3, hf⟩ := obind hf
    obtain ⟨ρ3, h4, hf⟩ := obind hf
    cases hf
    refine ⟨F, ρ, d, fr, ρ1, S, h2, fun F1 H1 v S1 st1 r1 => ?_⟩
    obtain ⟨xs, lk, hx⟩ := ownL_at hl
    obtain ⟨a, _, _, _, ha, _, _⟩ := S1.at hx
    refine ⟨.ref a, ha, F1, ρ1, x, fx, ρ2, S1, h3, fun F2 H2 w S2 st2 r2 => ?_⟩
    exact set_run S2 ha h4 r2 (st2.rep S1 r1) fun H3 S3 st3 => k F2 σ H3 (.of S S3 (st1.trans (st2.trans st3)))
theorem ip_augD {o : Op2} {op : Operator} (he : (o = .add ∧ op = .Add) ∨ (o = .sub ∧ op = .Sub)) : PIp X op (fun x y H Q => ∃ a b d, Rep C.K (fun _ => False) H a x ∧ Rep C.K (fun _ => False) H b y ∧ augD o a b = some d ∧ ∀ v, (∀ F H', Rep C.K F H' d v) → Q v H) := by
  intro pins s σ H x y v u Q I rx ry h
  obtain ⟨a, b, d, r1, r2, hd, k⟩ := h
  unfold augD at hd
  split at hd
  · cases hd
    cases r1
    cases r2
    rcases he with ⟨_, rfl⟩ | ⟨h, _⟩
    · exact ip_add pins s σ H _ _ v u Q I rx ry ⟨_, _, rfl, rfl, k _ fun _ _ => .int _⟩
    · cases h
  · cases hd
    cases r1
    cases r2
    rcases he with ⟨h, _⟩ | ⟨_, rfl⟩
    · cases h
    · exact ip_sub pins s σ H _ _ v u Q I rx ry ⟨_, _, rfl, rfl, k _ fun _ _ => .int _⟩
  · cases hd
theorem augD_int {o : Op2} {a b d : D} (h : augD o a b = some d) : ∃ i j, a = .int i ∧ b = .int j := by
  unfold augD at h
  split at h
  · exact ⟨_, _, rfl, rfl⟩
  · exact ⟨_, _, rfl, rfl⟩
  · cases h
theorem ps_augD {o : Op2} {op : Operator} {f : EvR} {x : Str} {pos' : Pos} (hop : (o = .add ∧ op = .Add) ∨ (o = .sub ∧ op = .Sub)) (hN : X.N.Nodup) (hi : X.N[i]? = some x) (hx : Loc X.env.scope x) (he : PE X e (tE C f)) (hf : X.fn x = true ∨ X.env.scope.names.lookup x = some .local) :
    PS X (.AugAssign (.Name x pos') op e pos) (tS C (fun j => i == j) (stAug i o f)) :=
  ps_mono (ps_aug hN hi hx (pe_V he) (ip_augD (C := C) hop) hf) fun D σ H h => by
    obtain ⟨F, ρ, ot, S, h0, k⟩ := h
    obtain ⟨a, h1, h0⟩ := obind h0
    obtain ⟨⟨b, fr, ρ1⟩, h2, h0⟩ := obind h0
    obtain ⟨d, h3, h0⟩ := obind h0
    obtain ⟨ρ2, h4, h0⟩ := obind h0
    cases h0
    unfold plainAt at h1
    split at h1
    · rename_i d0 lk hs
      cases h1
      obtain ⟨v, e1, r1⟩ := S.val i _ hs rfl
      obtain ⟨p, q, rfl, rfl⟩ := augD_int h3
      cases r1
      refine ⟨_, e1, F, ρ, .int q, fr, ρ1, S, h2, fun F1 H1 w S1 st1 r2 => ?_⟩
      cases r2
      refine ⟨_, _, d, .int _, .int _, h3, fun z rz => ?_⟩
      exact k F1 _ H1 ⟨(S1.stor h4 (show Rep C.K F1 H1 d z from rz _ _)).1, st1.sub, st1.keep S, fun j hj => List.getElem?_set_ne (by simpa using hj)⟩
    · cases h1
theorem ps_augixD {o : Op2} {op : Operator} {ox kx : Expr} {fk f : EvR} {tpos : Pos} (hop : (o = .add ∧ op = .Add) ∨ (o = .sub ∧ op = .Sub)) (ho : PE X ox (tVar i)) (hk : PE X kx (tE C fk)) (he : PE X e (tE C f)) (hK : C.K = X.K)
    (ha : ∀ ov iv new, augStore kx ov iv new = (do holding [new, ov, iv] (setItem ov iv new); release [new, ov, iv] []; pure .next)) : PS X (.AugAssign (.Subscript ox kx tpos) op e pos) (tS C as (stAugix i fk o f)) :=
  ps_mono (ps_augS ho (pe_V hk) get_listD (pe_V he) (ip_augD (C := C) hop) set_list ha) fun D σ H h => by
    obtain ⟨F, ρ, ot, S, h0, k⟩ := h
    obtain ⟨hl, h0⟩ := Option.ite_none_right_eq_some.mp h0
    obtain ⟨⟨x, fx, ρ1⟩, h1, h0⟩ := obind h0
    obtain ⟨a, h2, h0⟩ := obind h0
    obtain ⟨⟨b, fr, ρ2⟩, h3, h0⟩ := obind h0
    obtain ⟨d, h4, h0⟩ := obind h0
    obtain ⟨ρ3, h5, h0⟩ := obind h0
    cases h0
    obtain ⟨xs, lk, hx⟩ := ownL_at hl
    obtain ⟨ad, _, _, _, ea, _, _⟩ := S.at hx
    refine ⟨.ref ad, ea, F, ρ, x, fx, ρ1, S, h1, fun F1 H1 w S1 st1 r1 => ?_⟩
    unfold ownAt at h2
    split at h2
    · rename_i ys lk2 hy
      split at h2
      · cases r1
        obtain ⟨b2, ds, vs, e1, e2, e3, e4⟩ := S1.at hy
        cases e1
        rw [ea] at e2; cases e2
        obtain ⟨z, h6, h7⟩ := atD_rep e4 h2
        refine ⟨ad, vs, _, z, rfl, rfl, by rw [← hK]; exact SqL.of e3, h6, F1, ρ1, b, fr, ρ2, S1, h3, fun F2 H2 w2 S2 st2 r2 => ?_⟩
        obtain ⟨p, q, rfl, rfl⟩ := augD_int h4
        cases h7
        cases r2
        refine ⟨_, _, d, .int _, .int _, h4, fun nv rn => ?_⟩
        exact set_run S2 ea h5 (.int _) (rn F2 H2) fun H3 S3 st3 => k F2 σ H3 (.of S S3 (st1.trans (st2.trans st3)))
      · cases h2
    · cases h2
/-! several names at once -/
inductive ResVs (C : Ct) (H0 : Hp) (ρ' : Ev) (σ : L2.St) (F' : Addr → Prop) (H' : Hp) : List (D × Bool) → List V → Prop
  | nil : ResVs C H0 ρ' σ F' H' [] []
  | cons {d : D} {fr : Bool} {v : V} {ds : List (D × Bool)} {vs : List V} : ResV C.K H0 ρ' σ F' H' d fr v → (∀ a, fr = true → v = .ref a → ∀ p ∈ ds.zip vs, p.1.2 = true → p.2 ≠ .ref a) → ResVs C H0 ρ' σ F' H' ds vs → ResVs C H0 ρ' σ F' H' ((d, fr) :: ds) (v :: vs)
def tPs (C : Ct) (f : EvPs) : TA := fun σ H Q => ∃ F ρ ds ρ', Sim C F ρ σ H ∧ f ρ = some (ds, ρ') ∧ ∀ F' H' vs, Sim C F' ρ' σ H' → Step ρ σ F H ρ' F' H' → ResVs C H ρ' σ F' H' ds vs → Q vs H'
theorem ResVs.base {H H1 : Hp} {ρ ρ1 ρ2 : Ev} {σ : L2.St} {F F1 F2 : Addr → Prop} {H2 : Hp} (st : Step ρ σ F H ρ1 F1 H1) : ∀ {ds : List (D × Bool)} {vs : List V}, ResVs C H1 ρ2 σ F2 H2 ds vs → ResVs C H ρ2 σ F2 H2 ds vs
  | _, _, .nil => .nil
  | _, _, .cons r n t => .cons (r.base st) n (ResVs.base st t)
/-- a result stands while the next parts run -/
theorem ResV.step {H0 : Hp} {ρ ρ' : Ev} {σ : L2.St} {F F' : Addr → Prop} {H H' : Hp} {d : D} {fr : Bool} {v : V} (S : Sim C F ρ σ H) (st : Step ρ σ F H ρ' F' H') (r : ResV C.K H0 ρ σ F H d fr v) : ResV C.K H0 ρ' σ F' H' d fr v := by
  cases fr with
  | false => exact st.rep S r
  | true =>
    obtain ⟨a, e, hn, r, nf, no⟩ := r
    obtain ⟨o, eo⟩ := r.dom
    refine ⟨a, e, hn, r.keep st.sub (st.keep S) ((st.fr a o eo no).trans eo.symm), fun z => ?_, fun z => no (st.own a z)⟩
    rcases st.new a z with z | z | z
    · exact nf z
    · exact no z
    · rw [eo] at z; cases z
theorem ResVs.news {H0 : Hp} {ρ' : Ev} {σ : L2.St} {F' : Addr → Prop} {H' : Hp} : ∀ {ds : List (D × Bool)} {vs : List V}, ResVs C H0 ρ' σ F' H' ds vs → ∀ p ∈ ds.zip vs, p.1.2 = true → ∃ b, p.2 = .ref b ∧ H0 b = none
  | _, _, .nil, p, hp, _ => by simp at hp
  | _, _, .cons (d := d) (fr := fr) (v := v) r _ t, p, hp, hf => by
    rw [List.zip_cons_cons, List.mem_cons] at hp
    rcases hp with rfl | hp
    · cases (show fr = true from hf)
      obtain ⟨a, e, hn, _⟩ := r
      exact ⟨a, e, hn⟩
    · exact ResVs.news t p hp hf
theorem pa_nilP : PA X [] (tPs C evPnil) := pa_mono pa_nil fun σ H Q ⟨F, ρ, ds, ρ', S, hf, k⟩ => by
  cases hf
  exact k F H [] S (Step.refl _ _ _ _) .nil
theorem pa_consP {f : EvR} {g : EvPs} (he : PE X e (tE C f)) (hr : PA X es (tPs C g)) (hn : noStar e = true) : PA X (e :: es) (tPs C (evPcons f g)) :=
  pa_mono (pa_cons he hr (star_no hn)) fun σ H Q ⟨F, ρ, ds, ρ', S, hf, k⟩ => by
    obtain ⟨⟨d, fr, ρ1⟩, h1, hf⟩ := obind hf
    obtain ⟨⟨ds', ρ2⟩, h2, hf⟩ := obind hf
    cases hf
    refine ⟨F, ρ, d, fr, ρ1, S, h1, fun F1 H1 v S1 st1 r1 => ⟨F1, ρ1, ds', ρ', S1, h2, fun F2 H2 vs S2 st2 r2 => k F2 H2 (v :: vs) S2 (st1.trans st2) (.cons (r1.step S1 st2) (fun a ha hv p hp hpf he => ?_) (r2.base st1))⟩⟩
    subst ha hv
    obtain ⟨b, e1, e2⟩ := r2.news p hp hpf
    rw [e1] at he; cases he
    obtain ⟨b', e3, _, r3, _⟩ := r1
    cases e3
    obtain ⟨o', eo⟩ := r3.dom
    rw [e2] at eo; cases eo
def setMany (σ : L2.St) : List Nat → List V → L2.St
  | i :: is, v :: vs => setMany (σ.set i (some v)) is vs
  | _, _ => σ
inductive ResRs (C : Ct) (ρ : Ev) (σ : L2.St) (F : Addr → Prop) (H : Hp) : List (D × Bool) → List V → Prop
  | nil : ResRs C ρ σ F H [] []
  | cons {d : D} {fr : Bool} {v : V} {ds : List (D × Bool)} {vs : List V} : ResR C ρ σ F H d fr v → (∀ a, fr = true → v = .ref a → ∀ p ∈ ds.zip vs, p.1.2 = true → p.2 ≠ .ref a) → ResRs C ρ σ F H ds vs → ResRs C ρ σ F H ((d, fr) :: ds) (v :: vs)
theorem ResVs.res {F F1 : Addr → Prop} {H H1 : Hp} {ρ ρ1 : Ev} {σ : L2.St} (S : Sim C F ρ σ H) : ∀ {ds : List (D × Bool)} {vs : List V}, ResVs C H ρ1 σ F1 H1 ds vs → ResRs C ρ1 σ F1 H1 ds vs
  | _, _, .nil => .nil
  | _, _, .cons r n t => .cons (r.res S) n (ResVs.res S t)
theorem ResRs.stor {F : Addr → Prop} {H : Hp} {ρ ρ1 : Ev} {σ σ1 : L2.St} {fr : Bool} {v : V} (own : ∀ b, Own ρ1 σ1 b → Own ρ σ b ∨ (fr = true ∧ v = .ref b)) : ∀ {ds : List (D × Bool)} {vs : List V}, ResRs C ρ σ F H ds vs → (∀ a, fr = true → v = .ref a → ∀ p ∈ ds.zip vs, p.1.2 = true → p.2 ≠ .ref a) → ResRs C ρ1 σ1 F H ds vs
  | _, _, .nil, _ => .nil
  | _, _, .cons (d := d) (fr := f2) (v := w) r n t, hd => by
    refine .cons ?_ n (ResRs.stor own t (fun a h1 h2 p hp => hd a h1 h2 p (by rw [List.zip_cons_cons]; exact List.mem_cons_of_mem _ hp)))
    cases f2 with
    | false => exact r
    | true =>
      obtain ⟨a, e, n0, q1, q2, q3⟩ := r
      refine ⟨a, e, n0, q1, q2, fun z => ?_⟩
      rcases own a z with z | ⟨z1, z2⟩
      · exact q3 z
      · exact hd a z1 z2 ((d, true), w) (by rw [List.zip_cons_cons]; exact List.mem_cons_self) rfl e
theorem Sim.stores {F : Addr → Prop} {H : Hp} : ∀ {is : List Nat} {ds : List (D × Bool)} {vs : List V} {ρ ρ' : Ev} {σ : L2.St}, Sim C F ρ σ H → stores is ds ρ = some ρ' →
    ResRs C ρ σ F H ds vs → Sim C F ρ' (setMany σ is vs) H ∧ ∀ j, is.contains j = false → (setMany σ is vs)[j]? = σ[j]?
  | [], [], _, ρ, ρ', σ, S, h, r => by
    cases r
    cases h
    exact ⟨S, fun _ _ => rfl⟩
  | [], _ :: _, _, _, _, _, _, h, _ => nomatch h
  | _ :: _, [], _, _, _, _, _, h, _ => nomatch h
  | i :: is, (d, fr) :: ds, vs0, ρ, ρ', σ, S, h, r0 => by
    cases r0 with
    | @cons _ _ v _ vs r n t =>
      have h : (EV.stor i d fr ρ >>= fun ρ1 => EV.stores is ds ρ1) = some ρ' := h
      obtain ⟨ρ1, h1, h2⟩ := obind h
      obtain ⟨S1, own, _⟩ := S.stor h1 r
      obtain ⟨S2, q⟩ := Sim.stores S1 h2 (ResRs.stor own t n)
      refine ⟨S2, fun j hj => ?_⟩
      simp only [List.contains_cons, Bool.or_eq_false_iff, beq_eq_false_iff_ne] at hj
      exact (q j hj.2).trans (List.getElem?_set_ne (Ne.symm hj.1))
theorem par_read {is : List Nat} {f : EvPs} {D : Ends} {σ : L2.St} {H : Hp} (h : tS C (fun j => is.contains j) (stPar is f) D σ H) : tPs C f σ H fun vs H1 => vs.length = is.length ∧ D.nx (setMany σ is vs) H1 := by
  obtain ⟨F, ρ, o, S, hf, k⟩ := h
  obtain ⟨⟨ds, ρ1⟩, h1, hf⟩ := obind hf
  obtain ⟨ρ2, h2, hf⟩ := obind hf
  cases hf
  refine ⟨F, ρ, ds, ρ1, S, h1, fun F1 H1 vs S1 st1 r1 => ?_⟩
  obtain ⟨S2, q⟩ := S1.stores h2 (r1.res S)
  refine ⟨?_, k F1 _ H1 ⟨S2, st1.sub, st1.keep S, q⟩⟩
  have l1 : ∀ {ds : List (EV.D × Bool)} {vs : List V}, ResVs C H ρ1 σ F1 H1 ds vs → vs.length = ds.length := fun {ds vs} r => by
    induction r with
    | nil => rfl
    | cons _ _ _ ih => rw [List.length_cons, List.length_cons, ih]
  have l2 : ∀ {is : List Nat} {ds : List (EV.D × Bool)} {ρ ρ' : Ev}, EV.stores is ds ρ = some ρ' → ds.length = is.length := fun {is} => by
    induction is with
    | nil =>
      intro ds ρ ρ' h
      cases ds with
      | nil => rfl
      | cons _ _ => cases h
    | cons i is ih =>
      intro ds ρ ρ' h
      cases ds with
      | nil => cases h
      | cons p ds =>
        obtain ⟨d, fr⟩ := p
        have h : (EV.stor i d fr ρ >>= fun ρ1 => EV.stores is ds ρ1) = some ρ' := h
        obtain ⟨ρ1, _, h2⟩ := obind h
        rw [List.length_cons, List.length_cons, ih h2]
  exact (l1 r1).trans (l2 h2)
theorem par2_read {i j : Nat} {f : EvPs} {D : Ends} {σ : L2.St} {H : Hp} (h : tS C (fun l => [i, j].contains l) (stPar [i, j] f) D σ H) : tPar i j (tPs C f) D σ H := by
  obtain ⟨F, ρ, ds, ρ', S, h1, k⟩ := par_read h
  refine ⟨F, ρ, ds, ρ', S, h1, fun F1 H1 vs S1 st1 r1 => ?_⟩
  obtain ⟨hl, q⟩ := k F1 H1 vs S1 st1 r1
  match vs, hl with
  | [v, w], _ => exact ⟨v, w, rfl, q⟩
theorem par3_read {i j l : Nat} {f : EvPs} {D : Ends} {σ : L2.St} {H : Hp} (h : tS C (fun m => [i, j, l].contains m) (stPar [i, j, l] f) D σ H) : tPar3 i j l (tPs C f) D σ H := by
  obtain ⟨F, ρ, ds, ρ', S, h1, k⟩ := par_read h
  refine ⟨F, ρ, ds, ρ', S, h1, fun F1 H1 vs S1 st1 r1 => ?_⟩
  obtain ⟨hl, q⟩ := k F1 H1 vs S1 st1 r1
  match vs, hl with
  | [v, w, u], _ => exact ⟨v, w, u, rfl, q⟩
end
end EV

/-! EvH: what is walked: for, comprehensions. -/
namespace EV
open PySem PySem.Spec PyProof.Rows L2
theorem mem_bors {i : Nat} : ∀ {os : List Opn}, Opn.bor i ∈ os → i ∈ bors os
  | .val _ :: os, h => mem_bors (os := os) ((List.mem_cons.mp h).resolve_left (fun z => nomatch z))
  | .bor j :: os, h => by
    rcases List.mem_cons.mp h with h | h
    · cases h; exact List.mem_cons_self
    · exact List.mem_cons_of_mem _ (mem_bors h)
theorem of_bors {i : Nat} : ∀ {os : List Opn}, i ∈ bors os → Opn.bor i ∈ os
  | [], h => nomatch h
  | .val _ :: os, h => List.mem_cons_of_mem _ (of_bors (os := os) h)
  | .bor j :: os, h => by
    rcases List.mem_cons.mp h with h | h
    · subst h; exact List.mem_cons_self
    · exact List.mem_cons_of_mem _ (of_bors h)
/-- the operands stand as they stood -/
structure Stay (C : Ct) (os : List Opn) (F : Addr → Prop) (ρ : Ev) (σ : L2.St) (H : Hp) (F2 : Addr → Prop) (ρ2 : Ev) (σ2 : L2.St) (H2 : Hp) : Prop where
  sim : Sim C F2 ρ2 σ2 H2
  sub : ∀ a, F a → F2 a
  keep : Keep F H H2
  ops : ∀ i ∈ bors os, ρ2[i]? = ρ[i]? ∧ σ2[i]? = σ[i]?
section
variable {C : Ct} {F : Addr → Prop} {ρ : Ev} {σ : L2.St} {H : Hp} {os : List Opn}
theorem Rep.src {d : D} {v : V} {xs : List D} (r : Rep C.K F H d v) (hq : seqD d = some xs) : ∃ a, v = .ref a ∧
    (((∃ ys, d = .list ys) ∧ ∀ F2 ρ2 σ2 H2, Stay C os F ρ σ H F2 ρ2 σ2 H2 → ∃ vs, RdL C.K H2 a vs ∧ Reps C.K F2 H2 xs vs) ∨ ((∃ ys, d = .tuple ys) ∧ ∀ F2 ρ2 σ2 H2, Stay C os F ρ σ H F2 ρ2 σ2 H2 → ∃ vs, SqT C.K H2 a vs ∧ Reps C.K F2 H2 xs vs)) := by
  cases r with
  | tup h1 r1 => cases hq; exact ⟨_, rfl, .inr ⟨⟨_, rfl⟩, fun F2 ρ2 σ2 H2 st => ⟨_, st.keep.sqT h1, r1.mono st.sub st.keep⟩⟩⟩
  | lst hF h1 r1 => cases hq; exact ⟨_, rfl, .inl ⟨⟨_, rfl⟩, fun F2 ρ2 σ2 H2 st => ⟨_, .inl (st.keep.rd h1 (.inl hF)), r1.mono st.sub st.keep⟩⟩⟩
  | lstK h1 r1 => cases hq; exact ⟨_, rfl, .inl ⟨⟨_, rfl⟩, fun F2 ρ2 σ2 H2 st => ⟨_, .inr h1, r1.mono st.sub st.keep⟩⟩⟩
  | _ => cases hq
theorem ResO.src {o : Opn} {v : V} {d : D} {xs : List D} (S : Sim C F ρ σ H) (r : ResO C.K F H σ o v) (h : o.get ρ = some d) (hm : o ∈ os) (hq : seqD d = some xs) : ∃ a, v = .ref a ∧
    (((∃ ys, d = .list ys) ∧ ∀ F2 ρ2 σ2 H2, Stay C os F ρ σ H F2 ρ2 σ2 H2 → ∃ vs, RdL C.K H2 a vs ∧ Reps C.K F2 H2 xs vs) ∨ ((∃ ys, d = .tuple ys) ∧ ∀ F2 ρ2 σ2 H2, Stay C os F ρ σ H F2 ρ2 σ2 H2 → ∃ vs, SqT C.K H2 a vs ∧ Reps C.K F2 H2 xs vs)) := by
  cases o with
  | val x => cases h; exact Rep.src r hq
  | bor i =>
    have r : σ[i]? = some (some v) := r
    have h : (match ρ[i]? with | some (some s) => some s.d | _ => none) = some d := h
    split at h
    · rename_i s hs
      cases h
      cases ho : s.own with
      | false =>
        obtain ⟨w, e, q⟩ := S.val i s hs ho
        rw [r] at e; cases e
        exact q.src hq
      | true =>
        obtain ⟨a, e, q, _⟩ := S.own i s hs ho
        rw [r] at e; cases e
        obtain ⟨ds, vs, e1, _, _⟩ := q.lst
        refine ⟨a, rfl, .inl ⟨⟨ds, e1⟩, fun F2 ρ2 σ2 H2 st => ?_⟩⟩
        obtain ⟨z1, z2⟩ := st.ops i (mem_bors hm)
        obtain ⟨b, e2, q2, _⟩ := st.sim.own i s (z1.trans hs) ho
        rw [z2, r] at e2; cases e2
        obtain ⟨ds2, vs2, e3, h4, q4⟩ := q2.lst
        rw [e1] at e3; cases e3
        rw [e1] at hq; cases hq
        exact ⟨vs2, .inl (.inl h4), q4⟩
    · cases h
end
/-- what is walked yields the items xs, whatever the turns do to the rest -/
def Good (C : Ct) (os : List Opn) (F : Addr → Prop) (ρ : Ev) (σ : L2.St) (H : Hp) (xs : List D) (J : It) : Prop :=
  ∀ F2 ρ2 σ2 H2, Stay C os F ρ σ H F2 ρ2 σ2 H2 → (∀ i d, xs[i]? = some d → J.go i H2 ∧ ∀ x H3, J.yld i H2 x H3 → Ext H2 H3 ∧ Rep C.K F2 H3 d x) ∧ J.stop xs.length H2
def tI (C : Ct) (k : ItK) (ga : EvOs) : TI := fun σ H R => ∃ F ρ os ρ' ds xs, Sim C F ρ σ H ∧ ga ρ = some (os, ρ') ∧ gets ρ' os = some ds ∧ iterD k ds = some xs ∧ ∀ F' H' J, Sim C F' ρ' σ H' → Step ρ σ F H ρ' F' H' → Good C os F' ρ' σ H' xs J → R J H'
section
variable {X : Cx} {C : Ct} {e e2 e3 : Expr} {es : List Expr} {pos p2 : Pos} {as : Nat → Bool} {tg : Expr} {f : EvO} {g : EvOs}
theorem pi_mono {iter : Expr} {t t' : TI} (h : PI X tg iter t) (m : ∀ σ H R, t' σ H R → t σ H R) : PI X tg iter t' := ⟨fun pins s σ H R I hw => h.run pins s σ H R I (m _ _ _ hw)⟩
theorem ops1 {ρ ρ' : Ev} {os : List Opn} {ds : List D} (h : evConsO f evNilO ρ = some (os, ρ')) (hg : gets ρ' os = some ds) : ∃ o d, os = [o] ∧ f ρ = some (o, ρ') ∧ ds = [d] ∧ o.get ρ' = some d := by
  obtain ⟨⟨o, ρ1⟩, h1, h2⟩ := obind h
  obtain ⟨⟨os', ρ2⟩, h3, h4⟩ := obind h2
  cases h3
  cases h4
  obtain ⟨d, h5, h6⟩ := obind hg
  obtain ⟨ds', h7, h8⟩ := obind h6
  cases h7
  cases h8
  exact ⟨o, d, rfl, h1, rfl, h5⟩
theorem pi_seqD (he : PE X e (tO C f)) (hK : C.K = X.K) : PI X tg e (tI C .seq (evConsO f evNilO)) := ⟨fun pins s σ H R I h => by
  obtain ⟨F, ρ, os, ρ', ds, xs, S, h1, h2, h3, k⟩ := h
  obtain ⟨o, d, rfl, h4, rfl, h5⟩ := ops1 h1 h2
  have h3 : seqD d = some xs := h3
  cases hd : d with
  | list ys =>
    refine (pi_list he).run pins s σ H R I ⟨F, ρ, o, ρ', S, h4, fun F1 H1 v S1 st1 r1 => ?_⟩
    obtain ⟨a, rfl, ⟨_, q⟩ | ⟨⟨_, e⟩, _⟩⟩ := r1.src (os := [o]) S1 h5 (List.mem_cons_self) h3
    · refine ⟨a, rfl, ?_, k F1 H1 _ S1 st1 fun F2 ρ2 σ2 H2 st => ?_⟩
      · obtain ⟨vs, z, _⟩ := q F1 ρ' σ H1 ⟨S1, fun _ h => h, Keep.refl _ _, fun _ _ => ⟨rfl, rfl⟩⟩
        exact ⟨vs, hK ▸ z.sq⟩
      · obtain ⟨vs, z, r⟩ := q F2 ρ2 σ2 H2 st
        have z2 : SqL X.K H2 a vs := hK ▸ z.sq
        refine ⟨fun i d hi => ?_, ⟨vs, z2, by rw [r.length]; exact Nat.le_refl _⟩⟩
        obtain ⟨v, hv, rv⟩ := r.get hi
        refine ⟨⟨vs, v, z2, hv⟩, fun x H3 ⟨e3, y⟩ => ?_⟩
        subst e3
        have := y vs z2
        rw [hv] at this; cases this
        exact ⟨Ext.refl _, rv⟩
    · rw [hd] at e; cases e
  | tuple ys =>
    refine (pi_tup he).run pins s σ H R I ⟨F, ρ, o, ρ', S, h4, fun F1 H1 v S1 st1 r1 => ?_⟩
    obtain ⟨a, rfl, ⟨⟨_, e⟩, _⟩ | ⟨_, q⟩⟩ := r1.src (os := [o]) S1 h5 (List.mem_cons_self) h3
    · rw [hd] at e; cases e
    · rw [hK] at q
      refine ⟨a, rfl, ?_, k F1 H1 _ S1 st1 fun F2 ρ2 σ2 H2 st => ?_⟩
      · obtain ⟨vs, z, _⟩ := q F1 ρ' σ H1 ⟨S1, fun _ h => h, Keep.refl _ _, fun _ _ => ⟨rfl, rfl⟩⟩
        exact ⟨vs, z⟩
      · obtain ⟨vs, z, r⟩ := q F2 ρ2 σ2 H2 st
        refine ⟨fun i d hi => ?_, ⟨vs, z, by rw [r.length]; exact Nat.le_refl _⟩⟩
        obtain ⟨v, hv, rv⟩ := r.get hi
        refine ⟨⟨vs, v, z, hv⟩, fun x H3 ⟨e3, y⟩ => ?_⟩
        subst e3
        have := y vs z
        rw [hv] at this; cases this
        rw [hK]
        exact ⟨Ext.refl _, rv⟩
  | _ => rw [hd] at h3; cases h3⟩
theorem rangeD_get {lo : Int} {n i : Nat} {d : D} (h : (rangeD lo n)[i]? = some d) : i < n ∧ d = .int (lo + (i : Nat)) := by
  unfold rangeD at h
  rw [List.getElem?_map] at h
  obtain ⟨j, h1, h2⟩ := Option.map_eq_some_iff.mp h
  obtain ⟨h3, h4⟩ := List.getElem?_eq_some_iff.mp h1
  rw [List.getElem_range] at h4
  subst h4
  exact ⟨by simpa using h3, h2.symm⟩
theorem rangeDn_get {lo : Int} {n i : Nat} {d : D} (h : (rangeDn lo n)[i]? = some d) : i < n ∧ d = .int (lo - (i : Nat)) := by
  unfold rangeDn at h
  rw [List.getElem?_map] at h
  obtain ⟨j, h1, h2⟩ := Option.map_eq_some_iff.mp h
  obtain ⟨h3, h4⟩ := List.getElem?_eq_some_iff.mp h1
  rw [List.getElem_range] at h4
  subst h4
  exact ⟨by simpa using h3, h2.symm⟩
theorem small62_of {i : Int} (h : small62 i = true) : -(2 ^ 62) ≤ i ∧ i < 2 ^ 62 := of_decide_eq_true h
theorem RepWs.ints1 {K : PySem.W.Frag} {F : Addr → Prop} {H : Hp} {i : Int} {vs : List V} (r : RepWs K F H [.int i] vs) : vs = [.int i] := by
  obtain ⟨v, rfl, w⟩ := r.one
  cases w.int
  rfl
theorem rng1D {d : D} {xs : List D} (h : iterD .rng [d] = some xs) : ∃ j, d = .int j ∧ small62 j = true ∧ xs = rangeD 0 j.toNat := by
  cases d with
  | int j =>
    obtain ⟨hz, h⟩ := Option.ite_none_right_eq_some.mp (show (if small62 j then some (rangeD 0 j.toNat) else none) = some xs from h)
    cases h
    exact ⟨j, rfl, hz, rfl⟩
  | _ => cases h
theorem rng2D {d e : D} {xs : List D} (h : iterD .rng [d, e] = some xs) : ∃ i j, d = .int i ∧ e = .int j ∧ small62 i = true ∧ small62 j = true ∧ xs = rangeD i (j - i).toNat := by
  cases d with
  | int i =>
    cases e with
    | int j =>
      obtain ⟨hz, h⟩ := Option.ite_none_right_eq_some.mp (show (if (small62 i && small62 j) = true then some (rangeD i (j - i).toNat) else none) = some xs from h)
      cases h
      rw [Bool.and_eq_true] at hz
      exact ⟨i, j, rfl, rfl, hz.1, hz.2, rfl⟩
    | _ => cases h
  | _ => cases h
theorem rng3D {d e f : D} {xs : List D} (h : iterD .rng [d, e, f] = some xs) : ∃ i j, d = .int i ∧ e = .int j ∧ f = .int (-1) ∧ small62 i = true ∧ small62 j = true ∧ xs = rangeDn i (i - j).toNat := by
  cases d with
  | int i =>
    cases e with
    | int j =>
      cases f with
      | int c =>
        obtain ⟨hz, h⟩ := Option.ite_none_right_eq_some.mp (show (if (small62 i && small62 j && decide (c = -1)) = true then some (rangeDn i (i - j).toNat) else none) = some xs from h)
        cases h
        simp only [Bool.and_eq_true, decide_eq_true_eq] at hz
        exact ⟨i, j, rfl, rfl, by rw [hz.2], hz.1.1, hz.1.2, rfl⟩
      | _ => cases h
    | _ => cases h
  | _ => cases h
theorem rangeD_len (lo : Int) (n : Nat) : (rangeD lo n).length = n := by unfold rangeD; rw [List.length_map, List.length_range]
theorem rangeDn_len (lo : Int) (n : Nat) : (rangeDn lo n).length = n := by unfold rangeDn; rw [List.length_map, List.length_range]
theorem good_range {os : List Opn} {F : Addr → Prop} {ρ : Ev} {σ : L2.St} {H : Hp} {lo : Int} {n : Nat} : Good C os F ρ σ H (rangeD lo n) (Itr lo n) := fun F2 ρ2 σ2 H2 st => by
  refine ⟨fun i d hi => ?_, ?_⟩
  · obtain ⟨h4, rfl⟩ := rangeD_get hi
    refine ⟨h4, fun x H3 ⟨e3, y⟩ => ?_⟩
    subst e3 y
    exact ⟨Ext.refl _, .int _⟩
  · rw [rangeD_len]
    exact Nat.le_refl _
theorem good_rangeDn {os : List Opn} {F : Addr → Prop} {ρ : Ev} {σ : L2.St} {H : Hp} {lo : Int} {n : Nat} : Good C os F ρ σ H (rangeDn lo n) (Itc lo (-1) n) := fun F2 ρ2 σ2 H2 st => by
  refine ⟨fun i d hi => ?_, ?_⟩
  · obtain ⟨h4, rfl⟩ := rangeDn_get hi
    refine ⟨h4, fun x H3 ⟨e3, y⟩ => ?_⟩
    subst e3 y
    rw [show lo + ((i : Nat) : Int) * (-1) = lo - (i : Nat) from by omega]
    exact ⟨Ext.refl _, .int _⟩
  · rw [rangeDn_len]
    exact Nat.le_refl _
theorem pi_rng1 (hg : Gl X "range") (hm : X.mg "range" = none) (ha : PE X e (tO C f)) (hn : noStar e = true) : PI X tg (.Call (.Name "range" p2) [e] [] pos) (tI C .rng (evConsO f evNilO)) := ⟨fun pins s σ H R I h => by
  refine (pi_range1 hg hm (pa_consO ha pa_nilO hn) (star_no hn)).run pins s σ H R I ?_
  obtain ⟨F, ρ, os, ρ', ds, xs, S, h1, h2, h3, k⟩ := h
  obtain ⟨o, d, rfl, h4, rfl, h5⟩ := ops1 h1 h2
  obtain ⟨j, rfl, hz, rfl⟩ := rng1D h3
  refine ⟨F, ρ, _, ρ', S, h1, fun F1 H1 vs S1 st1 r1 => ?_⟩
  have z := small62_of hz
  exact ⟨j, (r1.gets S1 h2).ints1, z.1, z.2, k F1 H1 _ S1 st1 good_range⟩⟩
theorem RepWs.ints2 {K : PySem.W.Frag} {F : Addr → Prop} {H : Hp} {i j : Int} {vs : List V} (r : RepWs K F H [.int i, .int j] vs) : vs = [.int i, .int j] := by
  cases r with
  | cons h t =>
    cases h.int
    rw [t.ints1]
theorem RepWs.ints3 {K : PySem.W.Frag} {F : Addr → Prop} {H : Hp} {i j l : Int} {vs : List V} (r : RepWs K F H [.int i, .int j, .int l] vs) : vs = [.int i, .int j, .int l] := by
  cases r with
  | cons h t =>
    cases h.int
    rw [t.ints2]
theorem gets_len {ρ : Ev} : ∀ {os : List Opn} {ds : List D}, gets ρ os = some ds → ds.length = os.length
  | [], _, h => by
    have h : some [] = some _ := h
    cases h; rfl
  | o :: os, ds, h => by
    obtain ⟨d, h5, h6⟩ := obind (show (o.get ρ >>= _) = some ds from h)
    obtain ⟨ds', h7, h8⟩ := obind h6
    cases h8
    rw [List.length_cons, List.length_cons, gets_len h7]
theorem evConsO_len {ρ ρ' : Ev} {os : List Opn} (h : evConsO f g ρ = some (os, ρ')) : ∃ o ρ1 os', os = o :: os' ∧ g ρ1 = some (os', ρ') := by
  obtain ⟨⟨o, ρ1⟩, h1, h2⟩ := obind h
  obtain ⟨⟨os', ρ2⟩, h3, h4⟩ := obind h2
  cases h4
  exact ⟨o, ρ1, os', rfl, h3⟩
theorem evNilO_len {ρ ρ' : Ev} {os : List Opn} (h : evNilO ρ = some (os, ρ')) : os = [] := by cases h; rfl
variable {f2 f3 : EvO}
theorem pi_rng2 (hg : Gl X "range") (hm : X.mg "range" = none) (ha : PE X e (tO C f)) (ha2 : PE X e2 (tO C f2)) (hn : noStar e = true) (hn2 : noStar e2 = true) : PI X tg (.Call (.Name "range" p2) [e, e2] [] pos) (tI C .rng (evConsO f (evConsO f2 evNilO))) := ⟨fun pins s σ H R I h => by
  refine (pi_range2 hg hm (pa_consO ha (pa_consO ha2 pa_nilO hn2) hn) (by rw [star_no hn, star_no hn2]; rfl) (star_no hn2)).run pins s σ H R I ?_
  obtain ⟨F, ρ, os, ρ', ds, xs, S, h1, h2, h3, k⟩ := h
  obtain ⟨o, ρ1, os1, rfl, h4⟩ := evConsO_len h1
  obtain ⟨o2, ρ2, os2, rfl, h5⟩ := evConsO_len h4
  cases evNilO_len h5
  have hl := gets_len h2
  match ds, hl with
  | [d, d2], _ =>
    obtain ⟨i, j, rfl, rfl, z1, z2, rfl⟩ := rng2D h3
    refine ⟨F, ρ, _, ρ', S, h1, fun F1 H1 vs S1 st1 r1 => ?_⟩
    have z := small62_of z1
    have z' := small62_of z2
    exact ⟨i, j, (r1.gets S1 h2).ints2, ⟨z.1, z.2, z'.1, z'.2⟩, k F1 H1 _ S1 st1 good_range⟩⟩
theorem pi_rng3 (hg : Gl X "range") (hm : X.mg "range" = none) (ha : PE X e (tO C f)) (ha2 : PE X e2 (tO C f2)) (ha3 : PE X e3 (tO C f3)) (hn : noStar e = true) (hn2 : noStar e2 = true) (hn3 : noStar e3 = true) :
    PI X tg (.Call (.Name "range" p2) [e, e2, e3] [] pos) (tI C .rng (evConsO f (evConsO f2 (evConsO f3 evNilO)))) := ⟨fun pins s σ H R I h => by
  refine (pi_range3 hg hm (pa_consO ha (pa_consO ha2 (pa_consO ha3 pa_nilO hn3) hn2) hn) (star_no hn) (by rw [star_no hn2, star_no hn3]; rfl)).run pins s σ H R I ?_
  obtain ⟨F, ρ, os, ρ', ds, xs, S, h1, h2, h3, k⟩ := h
  obtain ⟨o, ρ1, os1, rfl, h4⟩ := evConsO_len h1
  obtain ⟨o2, ρ2, os2, rfl, h5⟩ := evConsO_len h4
  obtain ⟨o3, ρ3, os3, rfl, h6⟩ := evConsO_len h5
  cases evNilO_len h6
  have hl := gets_len h2
  match ds, hl with
  | [d, d2, d3], _ =>
    obtain ⟨i, j, rfl, rfl, rfl, z1, z2, rfl⟩ := rng3D h3
    refine ⟨F, ρ, _, ρ', S, h1, fun F1 H1 vs S1 st1 r1 => ?_⟩
    have z := small62_of z1
    have z' := small62_of z2
    exact ⟨i, j, -1, _, (r1.gets S1 h2).ints3, RgC.neg z.1 z.2 z'.1 z'.2, k F1 H1 _ S1 st1 good_rangeDn⟩⟩
/-! enumerate -/
theorem enumD_get : ∀ {xs : List D} {n i : Nat} {d : D}, (enumD n xs)[i]? = some d → ∃ x, xs[i]? = some x ∧ d = .tuple [.int ((n + i : Nat) : Int), x]
  | [], _, _, _, h => by simp [enumD] at h
  | x :: xs, n, 0, d, h => by
    have h : some (PyData.tuple [.int (n : Nat), x]) = some d := h
    cases h
    exact ⟨x, rfl, rfl⟩
  | x :: xs, n, i + 1, d, h => by
    obtain ⟨y, h1, h2⟩ := enumD_get (xs := xs) (n := n + 1) (i := i) (d := d) h
    exact ⟨y, h1, by rw [h2]; congr 3; omega⟩
theorem enumD_len : ∀ (xs : List D) (n : Nat), (enumD n xs).length = xs.length
  | [], _ => rfl
  | x :: xs, n => by
    show (enumD (n + 1) xs).length + 1 = _
    rw [enumD_len xs]
    rfl
/-- the tuple at a, each item in a new pair -/
def IteT (K : PySem.W.Frag) (a : Addr) : It :=
  ⟨fun i H => ∃ (xs : List V) (x : V), SqT K H a xs ∧ xs[i]? = some x, fun i H v H' => ∃ T x, v = .ref T ∧ H T = none ∧ H' = upd H T (.tup [.int (i : Nat), x]) ∧ ∀ xs, SqT K H a xs → xs[i]? = some x, fun i H => ∃ xs : List V, SqT K H a xs ∧ xs.length = i⟩
theorem turn_enumT {P : Program} {w : World} {K : PySem.W.Frag} {elts : List Expr} {kk : Nat} {tpos : Pos} (a e it : Addr) :
    Turn P w K (.Tuple elts kk tpos) (IteT K a) [e, it] e (fun i h => (∃ old, IsEnum h e it ((i : Nat) : Int) old) ∧ h.IsTupleIter it a i ∧ e ≠ it ∧ a ≠ it ∧ e ≠ a) where
  mem := by simp
  obj := fun i h st b hb => by
    obtain ⟨⟨old, he⟩, ⟨o, ho, hc, hd⟩, _⟩ := st
    have e' : b = e ∨ b = it := by simpa using hb
    rcases e' with z | z
    · rw [z]; exact ⟨_, he, fun v q => nomatch q⟩
    · rw [z]; exact ⟨o, ho, fun v q => by rw [hd] at q; cases q⟩
  keep := fun i h h' st k => let ⟨⟨old, he⟩, hi, hne⟩ := st; ⟨⟨old, k e (by simp) _ he⟩, hi.at fun o q => k it (by simp) o q, hne⟩
  item := by
    intro X hP hw hK hc i pins s σ H E I hf st hg
    subst hP hw hK
    obtain ⟨⟨old, he⟩, hit, hne, hai, hea⟩ := st
    obtain ⟨xs, x, hq, hx⟩ := hg
    obtain ⟨its, rv, p, hz⟩ := I.tuple hq
    obtain ⟨u, hu, ru⟩ := rv.get hx
    have hel : e < s.heap.objs.size := Heap.lt_size he
    have hil : it < s.heap.objs.size := by obtain ⟨_, q, _⟩ := hit; exact Heap.lt_size q
    have hlt : i < its.toArray.size := by
      rw [List.size_toArray]
      exact (List.getElem?_eq_some_iff.mp hu).1
    refine wpAny_pyNext_enum_itemD (Draws.tuple (prog := X.prog) (w := X.w) (A := X.A.in1) (show X.A.in1.handled = none from I.ok.hd hc) it a hai its.toArray) he ⟨hit, p⟩ hlt hne (by simp [hne, hea]) fun y h' tk hP ho hit' hT hsz hk => ?_
    have hy : y = u := by
      have h1 : its.toArray[i]? = some y := hP
      rw [← Array.getElem?_toList] at h1
      have h1 : its[i]? = some y := h1
      rw [hu] at h1; cases h1; rfl
    subst hy
    refine ⟨_, rfl, wpAny_letOwnedTupleGo_enum (s := { s with heap := h', toks := tk + 1 }) ho fun h'' he' sb => ?_⟩
    have hT2 : h''.get? s.heap.objs.size = some { cls := .type "tuple", data := .seq #[.int i tk, y] } := (sb.2 _ (Nat.ne_of_gt hel)).trans hT
    have new : ObjOk X.prog X.w (upd H s.heap.objs.size (.tup [.int (i : Nat), x])) h'' s.heap.objs.size (.tup [.int (i : Nat), x]) :=
      ⟨by show 2 ≤ sizeLine; decide, [.int i tk, y], .cons ⟨_, rfl⟩ (.cons ru .nil), ⟨_, hT2, rfl, _, rfl⟩⟩
    have I1 : Inv X pins σ (upd H s.heap.objs.size (.tup [.int (i : Nat), x])) { s with heap := h'', toks := tk + 1 } :=
      I.turnedNew (ch := [e, it]) (fun b ob hb q => (sb.2 b (fun z => hb (by simp [z]))).trans (hk b ob (fun z => hb (by simp [z])) (fun z => hb (by simp [z])) q)) hf (Nat.le_refl _) new
    refine ⟨.ref s.heap.objs.size, _, I1, rfl, ⟨_, x, rfl, I.hok.fresh (Nat.le_refl _), rfl, fun ys hy => by rw [I.tuple_inj hy hq]; exact hx⟩, ⟨⟨y, ?_⟩, hit'.1.at fun o q => (sb.2 it (Ne.symm hne)).trans q, hne, hai, hea⟩, fun b hb => ?_⟩
    · have e1 : ((i + 1 : Nat) : Int) = (i : Int) + 1 := by omega
      rw [e1]; exact he'
    · have hb' : b < s.heap.objs.size := by
        have e' : b = e ∨ b = it := by simpa using hb
        rcases e' with z | z
        · rw [z]; exact hel
        · rw [z]; exact hil
      rw [upd_ne (Nat.ne_of_lt hb')]
      exact (hf b hb).1
  done := by
    intro X hP hw hK hc i pins s σ H E I hf st hg
    subst hP hw hK
    obtain ⟨⟨old, he⟩, hit, hne, hai, hea⟩ := st
    obtain ⟨xs, hq, hx⟩ := hg
    obtain ⟨its, rv, p, hz⟩ := I.tuple hq
    obtain ⟨f0, f1, f2, f3, f4, f5⟩ := hf it (by simp)
    have hl := rv.length
    have hi : its.toArray.size = i := by rw [List.size_toArray, ← hl]; exact hx
    exact wpAny_pyNext_enum_endD (Draws.tuple (prog := X.prog) (w := X.w) (A := X.A.in1) (show X.A.in1.handled = none from I.ok.hd hc) it a hai its.toArray) he (by rw [hi]; exact ⟨hit, p⟩) fun h' eb =>
      ⟨rfl, I.turned (t' := s.toks) (fun b o hb q => eb b o hb q) f0 f1 f3 f4 f5⟩
  self := fun A i s Q E st h => let ⟨⟨_, he⟩, _⟩ := st; wpAny_pyIter_enum he h

set_option maxHeartbeats 1000000 in
theorem meets_enumerate_newT (l : Addr) (items : Array Value) (n : Nat) (dct : Option Addr) (sl : Array (Option Value)) :
    Meets (Builtin.«enumerate.__new__» ⟨[.type "enumerate", .ref l], []⟩) (fun _ R s => s.heap.get? l = some { cls := .type "tuple", dict := dct, data := .seq items n, slots := sl } ∧
      R (.ok (.ret (.ref (s.heap.push { cls := .type "tuple_iterator", data := .fields #[.ref l, .int 0 0] }).objs.size)))
        { s with heap := (s.heap.push { cls := .type "tuple_iterator", data := .fields #[.ref l, .int 0 0] }).push { cls := .type "enumerate", data := .fields #[.none, .bool false, .ref s.heap.objs.size, rawInt 0, .none, .none] } }) :=
  .of_wp fun prog w A R s h => by
    obtain ⟨hp, g, d, tk, os⟩ := s; obtain ⟨hl, h⟩ := h
    have hsub := sub_enumerate
    have hL : Heap.IsTuple (Shared.heap ⟨hp, g, d, tk, os⟩) l items := ⟨_, hl, rfl, n, rfl⟩
    wp_walk using AutoSeq1.wpAny_loadPart' hl
    refine wpAny_stack_any fun st => wpAny_pure ?_
    split
    · rename_i c _ _ _ _ _
      cases (c == Value.type "enumerate")
      · wp_walk using AutoSeq1.wpAny_loadPart' hl, wpAny_pyIter_tuple hL
        exact ⟨_, rfl, h⟩
      · wp_walk using AutoSeq1.wpAny_loadPart' hl, wpAny_pyIter_tuple hL
        exact ⟨_, rfl, h⟩
    · wp_walk using AutoSeq1.wpAny_loadPart' hl, wpAny_pyIter_tuple hL
      exact ⟨_, rfl, h⟩
theorem call_enumerate_tuple {prog : Program} {w : World} {A : Around} {E : Value → Shared → Prop} {s : Shared} {l : Addr} {items : Array Value} {Q : Value → Shared → Prop} (hL : s.heap.IsTuple l items)
    (h : ∀ h', IsEnum h' (s.heap.objs.size + 1) s.heap.objs.size 0 .none → h'.IsTupleIter s.heap.objs.size l 0 → h'.objs.size = s.heap.objs.size + 2 →
      (∀ b o, s.heap.get? b = some o → h'.get? b = some o) → Q (.ref (s.heap.objs.size + 1)) { s with heap := h' }) :
    wpAny (model prog w) A (call (.type "enumerate") [.ref l]) Q E s := by
  obtain ⟨⟨c, dct, dt, sl⟩, hl, hc, n, hd⟩ := hL
  replace hc : c = .type "tuple" := hc
  replace hd : dt = .seq items n := hd
  subst hc hd
  refine callType_new F.called_enumerate (by decide) (F.typeCall_enumerate_1 _) (F.newCall_enumerate_1 _) (fun obj => F.args_object_init_2 obj _) F.entry_enumerate_new
    (meets_enumerate_newT l items n dct sl) ⟨hl, ?_⟩
  have hz : (s.heap.push { cls := .type "tuple_iterator", data := .fields #[.ref l, .int 0 0] }).objs.size = s.heap.objs.size + 1 := Heap.size_push ..
  show _ ∧ _
  rw [hz]
  have he : IsEnum ((s.heap.push { cls := .type "tuple_iterator", data := .fields #[.ref l, .int 0 0] }).push
      { cls := .type "enumerate", data := .fields #[.none, .bool false, .ref s.heap.objs.size, rawInt 0, .none, .none] }) (s.heap.objs.size + 1) s.heap.objs.size 0 .none := by
    have := Heap.get?_push_size (s.heap.push { cls := .type "tuple_iterator", data := .fields #[.ref l, .int 0 0] })
      (o := { cls := .type "enumerate", data := .fields #[.none, .bool false, .ref s.heap.objs.size, rawInt 0, .none, .none] }) rfl
    rw [hz] at this; exact this
  refine ⟨⟨_, he, rfl⟩, h _ he ⟨_, Heap.get?_push_of_some _ (Heap.get?_push_size _ rfl), rfl, rfl⟩ (by rw [Heap.size_push, hz]) fun b o x => Heap.get?_push_of_some _ (Heap.get?_push_of_some _ x)⟩
def iEnumT (K : PySem.W.Frag) (ta : TA) : TI := fun σ H R => ta σ H fun vs H1 => ∃ a xs, vs = [.ref a] ∧ SqT K H1 a xs ∧ R (IteT K a) H1
theorem pi_enumT {p pos tpos : Pos} {elts : List Expr} {kk : Nat} {ta : TA} (hg : Gl X "enumerate") (hm : X.mg "enumerate" = none) (ha : PA X [e] ta) (hs : starEach [e] X.env = [(false, eval e X.env)]) :
    PI X (.Tuple elts kk tpos) (.Call (.Name "enumerate" p) [e] [] pos) (iEnumT X.K ta) := by
  refine ⟨fun pins s σ H R I h => ?_⟩
  refine Call_ (ld_blt I hg hm boot_enumerate (PyProof.Rows.callWith_type1 (thn (ha.run pos pins s σ H _ I h) fun us s1 ⟨vs, H1, I1, r1, q1⟩ => ?_) hs rfl))
  obtain ⟨a, xs, ex, hq, q⟩ := q1
  subst ex
  cases r1 with
  | cons r rr =>
    cases rr
    cases r
    obtain ⟨its, rv, p', hz⟩ := I1.tuple hq
    have la : a < s1.heap.objs.size := by obtain ⟨o, ho, _⟩ := p'; exact Heap.lt_size ho
    refine call_enumerate_tuple p' fun h' he hit hsz hk => wpAny_pyIter_enum he ?_
    have I2 : Inv X pins σ H1 { s1 with heap := h' } := I1.kept (t' := s1.toks) hk
    refine ⟨s1.heap.objs.size + 1, [s1.heap.objs.size + 1, s1.heap.objs.size], _, _, H1, rfl, I2, turn_enumT a (s1.heap.objs.size + 1) s1.heap.objs.size, ⟨⟨.none, he⟩, hit, Nat.succ_ne_self _, Nat.ne_of_lt la, Nat.ne_of_gt (Nat.lt_succ_of_lt la)⟩, fun b hb => ?_, q⟩
    have e' : b = s1.heap.objs.size + 1 ∨ b = s1.heap.objs.size := by simpa using hb
    have hle : s1.heap.objs.size ≤ b := by
      rcases e' with z | z
      · rw [z]; exact Nat.le_add_right _ _
      · rw [z]; exact Nat.le_refl _
    exact I1.fpOk hle (I1.hok.fresh hle)
theorem pi_enumD {p pos tpos : Pos} {elts : List Expr} {kk : Nat} (hg : Gl X "enumerate") (hm : X.mg "enumerate" = none) (he : PE X e (tO C f)) (hn : noStar e = true) (hK : C.K = X.K) :
    PI X (.Tuple elts kk tpos) (.Call (.Name "enumerate" p) [e] [] pos) (tI C .enm (evConsO f evNilO)) := ⟨fun pins s σ H R I h => by
  obtain ⟨F, ρ, os, ρ', ds, xs, S, h1, h2, h3, k⟩ := h
  obtain ⟨o, d, rfl, h4, rfl, h5⟩ := ops1 h1 h2
  obtain ⟨xs0, h3', e⟩ := omap (show (seqD d).map (enumD 0) = some xs from h3)
  subst e
  have hs : starEach [e] X.env = [(false, eval e X.env)] := star_no hn
  have get : ∀ {i : Nat} {d : D}, (enumD 0 xs0)[i]? = some d → ∃ x, xs0[i]? = some x ∧ d = .tuple [.int ((i : Nat) : Int), x] := fun {i d} h => by
    obtain ⟨x, q1, q2⟩ := enumD_get h
    exact ⟨x, q1, by rw [q2, Nat.zero_add]⟩
  cases hd : d with
  | list ys =>
    refine (pi_enum hg hm (pa_cons he pa_nil hs) hs).run pins s σ H R I ⟨F, ρ, o, ρ', S, h4, fun F1 H1 v S1 st1 r1 => ?_⟩
    obtain ⟨a, rfl, ⟨_, q⟩ | ⟨⟨_, e⟩, _⟩⟩ := r1.src (os := [o]) S1 h5 (List.mem_cons_self) h3'
    · obtain ⟨vs0, z0, _⟩ := q F1 ρ' σ H1 ⟨S1, fun _ h => h, Keep.refl _ _, fun _ _ => ⟨rfl, rfl⟩⟩
      refine ⟨a, vs0, rfl, (hK ▸ z0.sq), k F1 H1 _ S1 st1 fun F2 ρ2 σ2 H2 st => ?_⟩
      obtain ⟨vs, z, r⟩ := q F2 ρ2 σ2 H2 st
      have z2 : SqL X.K H2 a vs := hK ▸ z.sq
      refine ⟨fun i d hi => ?_, ⟨vs, z2, by rw [enumD_len, r.length]; exact Nat.le_refl _⟩⟩
      obtain ⟨x, hx, rfl⟩ := get hi
      obtain ⟨v, hv, rv⟩ := r.get hx
      refine ⟨⟨vs, v, z2, hv⟩, fun x H3 ⟨T, w, e1, e2, e3, y⟩ => ?_⟩
      subst e1 e3
      have := y vs z2
      rw [hv] at this; cases this
      exact ⟨Ext.new e2, .tup (SqT.of upd_same) (.cons (.int _) (.cons (rv.ext (Ext.new e2)) .nil))⟩
    · rw [hd] at e; cases e
  | tuple ys =>
    refine (pi_enumT hg hm (pa_cons he pa_nil hs) hs).run pins s σ H R I ⟨F, ρ, o, ρ', S, h4, fun F1 H1 v S1 st1 r1 => ?_⟩
    obtain ⟨a, rfl, ⟨⟨_, e⟩, _⟩ | ⟨_, q⟩⟩ := r1.src (os := [o]) S1 h5 (List.mem_cons_self) h3'
    · rw [hd] at e; cases e
    · obtain ⟨vs0, z0, _⟩ := q F1 ρ' σ H1 ⟨S1, fun _ h => h, Keep.refl _ _, fun _ _ => ⟨rfl, rfl⟩⟩
      refine ⟨a, vs0, rfl, by rw [← hK]; exact z0, k F1 H1 _ S1 st1 fun F2 ρ2 σ2 H2 st => ?_⟩
      obtain ⟨vs, z, r⟩ := q F2 ρ2 σ2 H2 st
      have z2 : SqT X.K H2 a vs := by rw [← hK]; exact z
      refine ⟨fun i d hi => ?_, ⟨vs, z2, by rw [enumD_len, r.length]⟩⟩
      obtain ⟨x, hx, rfl⟩ := get hi
      obtain ⟨v, hv, rv⟩ := r.get hx
      refine ⟨⟨vs, v, z2, hv⟩, fun x H3 ⟨T, w, e1, e2, e3, y⟩ => ?_⟩
      subst e1 e3
      have := y vs z2
      rw [hv] at this; cases this
      exact ⟨Ext.new e2, .tup (SqT.of upd_same) (.cons (.int _) (.cons (rv.ext (Ext.new e2)) .nil))⟩
  | _ => rw [hd] at h3'; cases h3'⟩
/-! for -/
theorem stays_bors {os : List Opn} {ρ ρ' : Ev} (h : stays os ρ ρ') : ∀ i ∈ bors os, ρ'[i]? = ρ[i]? := fun i hi => h _ (of_bors hi)
theorem loop_cons {os : List Opn} {b : D → Ev → Option Out} {x : D} {xs : List D} {ρ : Ev} {o : Out} (h : loopF os b (x :: xs) ρ = some o) : ∃ o1, b x ρ = some o1 ∧ ((∃ ρ1, (o1 = .nx ρ1 ∨ o1 = .cont ρ1) ∧ stays os ρ ρ1 ∧ loopF os b xs ρ1 = some o) ∨ (∃ ρ1, o1 = .brk ρ1 ∧ o = .nx ρ1) ∨ ∃ d fr ρ1, o1 = .ret d fr ρ1 ∧ o = .ret d fr ρ1) := by
  unfold loopF at h
  obtain ⟨o1, h1, h2⟩ := obind h
  refine ⟨o1, h1, ?_⟩
  cases o1 with
  | nx ρ1 =>
    obtain ⟨h3, h4⟩ := Option.ite_none_right_eq_some.mp h2
    exact .inl ⟨ρ1, .inl rfl, h3, h4⟩
  | cont ρ1 =>
    obtain ⟨h3, h4⟩ := Option.ite_none_right_eq_some.mp h2
    exact .inl ⟨ρ1, .inr rfl, h3, h4⟩
  | brk ρ1 =>
    cases h2
    exact .inr (.inl ⟨ρ1, rfl, rfl⟩)
  | ret d fr ρ1 =>
    cases h2
    exact .inr (.inr ⟨d, fr, ρ1, rfl, rfl⟩)
theorem for_read {k : ItK} {tgt : Tg} {gb : StR} {cs : Nat → Bool} {D : Ends} {σ : L2.St} {H : Hp} (hb : ∀ ρ os ρ', g ρ = some (os, ρ') → ∀ i ∈ bors os, cs i = false) (ht : ∀ i, cs i = false → tgHas tgt i = false ∧ as i = false)
    (h : tS C cs (stFor tgt k g gb) D σ H) : tFor (tI C k g) (tG C tgt) (tS C as gb) D σ H := by
  obtain ⟨F, ρ, o, S, hf, kk⟩ := h
  obtain ⟨⟨os, ρ'⟩, h1, hf⟩ := obind hf
  obtain ⟨ds, h2, hf⟩ := obind hf
  obtain ⟨xs, h3, hf⟩ := obind hf
  have hbo := hb ρ os ρ' h1
  refine ⟨F, ρ, os, ρ', ds, xs, S, h1, h2, h3, fun F1 H1 J S1 st1 good => ?_⟩
  have a0 : Aft C cs F σ H F1 ρ' σ H1 := .of S S1 st1
  refine ⟨fun i m σ2 H2 => m = xs.length - i ∧ i ≤ xs.length ∧ ∃ F2 ρ2, Aft C cs F1 σ H1 F2 ρ2 σ2 H2 ∧ (∀ j ∈ bors os, ρ2[j]? = ρ'[j]?) ∧ loopF os (fun x ρ => asgT tgt x ρ >>= fun ρ2 => gb ρ2) (xs.drop i) ρ2 = some o,
    ⟨xs.length, by simp, Nat.zero_le _, F1, ρ', ⟨S1, fun _ h => h, Keep.refl _ _, fun _ _ => rfl⟩, fun _ _ => rfl, hf⟩, ?_⟩
  rintro i m σ2 H2 ⟨rfl, hi, F2, ρ2, a2, hst, hl⟩
  have stay : Stay C os F1 ρ' σ H1 F2 ρ2 σ2 H2 := ⟨a2.sim, a2.sub, a2.keep, fun j hj => ⟨hst j hj, a2.same j (hbo j hj)⟩⟩
  obtain ⟨gi, gs⟩ := good F2 ρ2 σ2 H2 stay
  have a02 : Aft C cs F σ H F2 ρ2 σ2 H2 := a0.trans a2 fun i h => ⟨h, h⟩
  by_cases hlt : i < xs.length
  · rw [List.drop_eq_getElem_cons hlt] at hl
    obtain ⟨o1, h4, h5⟩ := loop_cons hl
    obtain ⟨ρ3, h6, h7⟩ := obind h4
    obtain ⟨go, yl⟩ := gi i xs[i] (List.getElem?_eq_getElem hlt)
    refine .inr ⟨go, fun σ' H' => ∃ F3 ρ3, Aft C cs F1 σ H1 F3 ρ3 σ' H' ∧ (∀ j ∈ bors os, ρ3[j]? = ρ'[j]?) ∧ loopF os (fun x ρ => asgT tgt x ρ >>= fun ρ2 => gb ρ2) (xs.drop (i + 1)) ρ3 = some o, fun σ' H' w => ⟨xs.length - (i + 1), by omega, rfl, hlt, w⟩, fun x H3 hy => ?_⟩
    obtain ⟨ex, rx⟩ := yl x H3 hy
    refine ⟨F2, ρ2, xs[i], ρ3, a2.sim.ext ex, rx, h6, fun σ3 ⟨S3, o3, w3⟩ => ⟨F2, ρ3, o1, S3, h7, ?_⟩⟩
    have a3 : Aft C cs F2 σ2 H2 F2 ρ3 σ3 H3 := ⟨S3, fun _ h => h, ex.keep, fun j hj => (o3 j (ht j hj).1).1⟩
    have next : ∀ F4 ρ4 σ4 H4, Aft C as F2 σ3 H3 F4 ρ4 σ4 H4 → stays os ρ2 ρ4 → loopF os (fun x ρ => asgT tgt x ρ >>= fun ρ2 => gb ρ2) (xs.drop (i + 1)) ρ4 = some o →
        ∃ F3 ρ3, Aft C cs F1 σ H1 F3 ρ3 σ4 H4 ∧ (∀ j ∈ bors os, ρ3[j]? = ρ'[j]?) ∧ loopF os (fun x ρ => asgT tgt x ρ >>= fun ρ2 => gb ρ2) (xs.drop (i + 1)) ρ3 = some o := fun F4 ρ4 σ4 H4 a4 s4 l4 =>
      ⟨F4, ρ4, (a2.trans a3 fun i h => ⟨h, h⟩).trans a4 fun i h => ⟨h, (ht i h).2⟩, fun j hj => (stays_bors s4 j hj).trans (hst j hj), l4⟩
    have all : Aft C cs F σ H F2 ρ3 σ3 H3 := a02.trans a3 fun i h => ⟨h, h⟩
    rcases h5 with ⟨ρ4, e | e, h8, h9⟩ | ⟨ρ4, e, e2⟩ | ⟨d, fr, ρ4, e, e2⟩
    · subst e
      exact fun F4 σ4 H4 a4 => next F4 ρ4 σ4 H4 a4 h8 h9
    · subst e
      exact fun F4 σ4 H4 a4 => next F4 ρ4 σ4 H4 a4 h8 h9
    · subst e e2
      exact fun F4 σ4 H4 a4 => kk F4 σ4 H4 (all.trans a4 fun i h => ⟨h, (ht i h).2⟩)
    · subst e e2
      exact kk
  · have e : i = xs.length := by omega
    subst e
    rw [List.drop_length] at hl
    cases hl
    exact .inl ⟨gs, kk F2 σ2 H2 a02⟩
end
end EV

/-! EvI: list comprehensions. -/
namespace EV
open PySem PySem.Spec PyProof.Rows L2
theorem set_get {α : Type} (l : List α) (i j : Nat) (a : α) : (l.set i a)[j]? = if i = j ∧ j < l.length then some a else l[j]? := by
  by_cases h : i = j
  · subst h
    by_cases hl : i < l.length
    · rw [if_pos ⟨rfl, hl⟩, List.getElem?_set_self hl]
    · rw [if_neg (fun z => hl z.2), List.getElem?_eq_none (by rw [List.length_set]; omega), List.getElem?_eq_none (by omega)]
  · rw [if_neg (fun z => h z.1), List.getElem?_set_ne h]
theorem clear_len (ρ : Ev) : ∀ own : List Nat, (clear ρ own).length = ρ.length
  | [] => rfl
  | i :: is => by show ((clear ρ is).set i none).length = _; rw [List.length_set, clear_len ρ is]
theorem clear_get (ρ : Ev) (j : Nat) : ∀ own : List Nat, (clear ρ own)[j]? = if j ∈ own ∧ j < ρ.length then some none else ρ[j]?
  | [] => by rw [if_neg (fun z => nomatch z.1)]; rfl
  | i :: is => by
    show ((clear ρ is).set i none)[j]? = _
    rw [set_get, clear_get ρ j is, clear_len]
    by_cases h1 : i = j
    · subst h1
      by_cases h2 : i < ρ.length
      · rw [if_pos ⟨rfl, h2⟩, if_pos ⟨List.mem_cons_self, h2⟩]
      · rw [if_neg (fun z => h2 z.2), if_neg (fun z => h2 z.2), if_neg (fun z => h2 z.2)]
    · rw [if_neg (fun z => h1 z.1)]
      by_cases h2 : j ∈ is ∧ j < ρ.length
      · rw [if_pos h2, if_pos ⟨List.mem_cons_of_mem _ h2.1, h2.2⟩]
      · rw [if_neg h2, if_neg]
        rintro ⟨z1, z2⟩
        rcases List.mem_cons.mp z1 with z | z
        · exact h1 z.symm
        · exact h2 ⟨z, z2⟩
theorem wipe_get (σ : L2.St) (j : Nat) : ∀ own : List Nat, (wipe σ own)[j]? = if j ∈ own ∧ j < σ.length then some none else σ[j]?
  | [] => by rw [if_neg (fun z => nomatch z.1)]; rfl
  | i :: is => by
    show ((wipe σ is).set i none)[j]? = _
    rw [set_get, wipe_get σ j is, wipe_length]
    by_cases h1 : i = j
    · subst h1
      by_cases h2 : i < σ.length
      · rw [if_pos ⟨rfl, h2⟩, if_pos ⟨List.mem_cons_self, h2⟩]
      · rw [if_neg (fun z => h2 z.2), if_neg (fun z => h2 z.2), if_neg (fun z => h2 z.2)]
    · rw [if_neg (fun z => h1 z.1)]
      by_cases h2 : j ∈ is ∧ j < σ.length
      · rw [if_pos h2, if_pos ⟨List.mem_cons_of_mem _ h2.1, h2.2⟩]
      · rw [if_neg h2, if_neg]
        rintro ⟨z1, z2⟩
        rcases List.mem_cons.mp z1 with z | z
        · exact h1 z.symm
        · exact h2 ⟨z, z2⟩
theorem back_len (ρ ρ' : Ev) : ∀ own : List Nat, (back ρ ρ' own).length = ρ'.length
  | [] => rfl
  | i :: is => by show ((back ρ ρ' is).set i _).length = _; rw [List.length_set, back_len ρ ρ' is]
theorem back_get (ρ ρ' : Ev) (j : Nat) : ∀ own : List Nat, (back ρ ρ' own)[j]? = if j ∈ own ∧ j < ρ'.length then some ((ρ[j]?).getD none) else ρ'[j]?
  | [] => by rw [if_neg (fun z => nomatch z.1)]; rfl
  | i :: is => by
    show ((back ρ ρ' is).set i ((ρ[i]?).getD none))[j]? = _
    rw [set_get, back_get ρ ρ' j is, back_len]
    by_cases h1 : i = j
    · subst h1
      by_cases h2 : i < ρ'.length
      · rw [if_pos ⟨rfl, h2⟩, if_pos ⟨List.mem_cons_self, h2⟩]
      · rw [if_neg (fun z => h2 z.2), if_neg (fun z => h2 z.2), if_neg (fun z => h2 z.2)]
    · rw [if_neg (fun z => h1 z.1)]
      by_cases h2 : j ∈ is ∧ j < ρ'.length
      · rw [if_pos h2, if_pos ⟨List.mem_cons_of_mem _ h2.1, h2.2⟩]
      · rw [if_neg h2, if_neg]
        rintro ⟨z1, z2⟩
        rcases List.mem_cons.mp z1 with z | z
        · exact h1 z.symm
        · exact h2 ⟨z, z2⟩
theorem clear_some {ρ : Ev} {own : List Nat} {j : Nat} {s : Sl} (h : (clear ρ own)[j]? = some (some s)) : j ∉ own ∧ ρ[j]? = some (some s) := by
  rw [clear_get] at h
  by_cases hj : j ∈ own ∧ j < ρ.length
  · rw [if_pos hj] at h; cases h
  · rw [if_neg hj] at h
    exact ⟨fun z => hj ⟨z, (List.getElem?_eq_some_iff.mp h).1⟩, h⟩
theorem wipe_out {σ : L2.St} {own : List Nat} {j : Nat} (h : j ∉ own) : (wipe σ own)[j]? = σ[j]? := by rw [wipe_get, if_neg fun z => h z.1]
theorem clear_out {ρ : Ev} {own : List Nat} {j : Nat} (h : j ∉ own) : (clear ρ own)[j]? = ρ[j]? := by rw [clear_get, if_neg fun z => h z.1]
section
variable {C : Ct} {F : Addr → Prop} {ρ : Ev} {σ : L2.St} {H : Hp} {own : List Nat}
theorem own_clear {a : Addr} (h : Own (clear ρ own) (wipe σ own) a) : Own ρ σ a := by
  obtain ⟨j, s, h1, h2, h3⟩ := h
  exact ⟨j, s, (clear_some h1).2, h2, (wipe_some h3).1⟩
theorem Sim.wipe (S : Sim C F ρ σ H) (hp : ∀ i ∈ own, C.PA i = none) : Sim C F (clear ρ own) (wipe σ own) H := by
  have wo : ∀ {j : Nat} {s : Sl}, (clear ρ own)[j]? = some (some s) → ρ[j]? = some (some s) ∧ (L2.wipe σ own)[j]? = σ[j]? := fun {j s} h => ⟨(clear_some h).2, wipe_out (clear_some h).1⟩
  refine ⟨by rw [clear_len, wipe_length]; exact S.len, fun j s h1 h2 => ?_, fun j s h1 h2 => ?_, fun j l s t a h1 h2 h3 h4 h5 h6 => ?_, fun j a h => ?_, S.fdom, S.f0, S.fnew, S.fr0, S.dom0⟩
  · rw [(wo h1).2]; exact S.val j s (wo h1).1 h2
  · rw [(wo h1).2]; exact S.own j s (wo h1).1 h2
  · rw [(wo h1).2] at h5
    rw [(wo h2).2] at h6
    exact S.inj j l s t a (wo h1).1 (wo h2).1 h3 h4 h5 h6
  · have hj : j ∉ own := fun z => by rw [hp j z] at h; cases h
    rw [wipe_out hj, clear_out hj]
    exact S.par j a h
theorem Sim.updD {D : Addr} {vs ws : List V} (S : Sim C F ρ σ H) (hD : H D = some (.lst vs)) (nf : ¬ F D) (no : ¬ Own ρ σ D) (n0 : C.H0 D = none) : Sim C F ρ σ (upd H D (.lst ws)) := by
  have kp : Keep F H (upd H D (.lst ws)) := Keep.upd hD nf
  have dom : ∀ b o, H b = some o → ∃ o', upd H D (.lst ws) b = some o' := fun b o h => by
    by_cases e : b = D
    · subst e; exact ⟨_, upd_same⟩
    · exact ⟨o, by rw [upd_ne e]; exact h⟩
  refine ⟨S.len, fun j s h1 h2 => ?_, fun j s h1 h2 => ?_, S.inj, S.par, fun a h => ?_, S.f0, S.fnew, fun a o h n => ?_, fun a o h => ?_⟩
  · obtain ⟨v, e, r⟩ := S.val j s h1 h2
    exact ⟨v, e, r.mono (fun _ h => h) kp⟩
  · obtain ⟨a, e, r, q⟩ := S.own j s h1 h2
    have ha : a ≠ D := fun z => by subst z; exact no ⟨j, s, h1, h2, e⟩
    exact ⟨a, e, r.keep (fun _ h => h) kp (upd_ne ha), q⟩
  · obtain ⟨o, e⟩ := S.fdom a h
    exact dom a o e
  · have ha : a ≠ D := fun z => by subst z; rw [n0] at h; cases h
    rw [upd_ne ha]
    exact S.fr0 a o h n
  · obtain ⟨o', e⟩ := S.dom0 a o h
    exact dom a o' e
theorem Step.lift {ρa ρd ρc ρe : Ev} {σa σc : L2.St} {F' : Addr → Prop} {H' : Hp} (st : Step ρa σa F H ρd F' H') (h1 : ∀ a, Own ρa σa a → Own ρc σc a) (h2 : ∀ a, Own ρe σc a → Own ρd σa a) : Step ρc σc F H ρe F' H' :=
  ⟨st.sub, fun a o h n => st.fr a o h fun z => n (h1 a z), fun a h => (st.new a h).imp id (Or.imp (h1 a) id), fun a h => h1 a (st.own a (h2 a h)), st.dom⟩
theorem Step.updD {ρ' : Ev} {F' : Addr → Prop} {H' : Hp} {D : Addr} {o : HO} (st : Step ρ σ F H ρ' F' H') (hD : H D = none) : Step ρ σ F H ρ' F' (upd H' D o) :=
  ⟨st.sub, fun a u h n => by
    have ha : a ≠ D := fun z => by subst z; rw [hD] at h; cases h
    rw [upd_ne ha]
    exact st.fr a u h n, st.new, st.own, fun a u h => by
    have ha : a ≠ D := fun z => by subst z; rw [hD] at h; cases h
    rw [upd_ne ha]
    exact st.dom a u h⟩
theorem free_at (h : free ρ own = true) {i : Nat} (hi : i ∈ own) : i < ρ.length ∧ ∀ s, ρ[i]? = some (some s) → s.own = false ∧ s.lk = false := by
  have z := List.all_eq_true.mp h i hi
  split at z
  · rename_i s hs
    refine ⟨(List.getElem?_eq_some_iff.mp hs).1, fun t ht => ?_⟩
    rw [hs] at ht; cases ht
    simp only [Bool.and_eq_true, Bool.not_eq_true'] at z
    exact z
  · rename_i hs
    refine ⟨(List.getElem?_eq_some_iff.mp hs).1, fun t ht => ?_⟩
    rw [hs] at ht; cases ht
  · cases z
theorem free_par (S : Sim C F ρ σ H) (h : free ρ own = true) : ∀ i ∈ own, C.PA i = none := fun i hi => by
  cases e : C.PA i with
  | none => rfl
  | some a =>
    obtain ⟨_, s, h1, h2⟩ := S.par i a e
    rw [((free_at h hi).2 s h1).2] at h2
    cases h2
/-- behind the comprehension: its own names as they were -/
theorem Sim.back {F' : Addr → Prop} {ρ' : Ev} {H' : Hp} (S : Sim C F ρ σ H) (S' : Sim C F' ρ' (L2.wipe σ own) H') (sub : ∀ a, F a → F' a) (kp : Keep F H H') (hf : free ρ own = true) : Sim C F' (back ρ ρ' own) σ H' ∧ ∀ a, Own (back ρ ρ' own) σ a → Own ρ' (L2.wipe σ own) a := by
  have len : ρ'.length = ρ.length := by rw [S'.len, wipe_length, S.len]
  have look : ∀ {j : Nat} {s : Sl}, (EV.back ρ ρ' own)[j]? = some (some s) → (j ∈ own ∧ ρ[j]? = some (some s)) ∨ (j ∉ own ∧ ρ'[j]? = some (some s) ∧ (L2.wipe σ own)[j]? = σ[j]?) := fun {j s} h => by
    rw [back_get] at h
    by_cases hj : j ∈ own
    · have hl := (free_at hf hj).1
      rw [if_pos ⟨hj, by rw [len]; exact hl⟩] at h
      refine .inl ⟨hj, ?_⟩
      cases e : ρ[j]? with
      | none => rw [e] at h; cases h
      | some x => rw [e] at h; exact h
    · rw [if_neg fun z => hj z.1] at h
      exact .inr ⟨hj, h, wipe_out hj⟩
  have bown : ∀ a, Own (EV.back ρ ρ' own) σ a → Own ρ' (L2.wipe σ own) a := fun a ⟨j, s, h1, h2, h3⟩ => by
    rcases look h1 with ⟨hj, h⟩ | ⟨hj, h, e⟩
    · rw [((free_at hf hj).2 s h).1] at h2; cases h2
    · exact ⟨j, s, h, h2, by rw [e]; exact h3⟩
  refine ⟨⟨by rw [back_len, len]; exact S.len, fun j s h1 h2 => ?_, fun j s h1 h2 => ?_, fun j l s t a h1 h2 h3 h4 h5 h6 => ?_, fun j a h => ?_, S'.fdom, S'.f0, S'.fnew, S'.fr0, S'.dom0⟩, bown⟩
  · rcases look h1 with ⟨hj, h⟩ | ⟨hj, h, e⟩
    · obtain ⟨v, e, r⟩ := S.val j s h h2
      exact ⟨v, e, r.mono sub kp⟩
    · rw [← e]
      exact S'.val j s h h2
  · rcases look h1 with ⟨hj, h⟩ | ⟨hj, h, e⟩
    · rw [((free_at hf hj).2 s h).1] at h2; cases h2
    · rw [← e]
      exact S'.own j s h h2
  · rcases look h1 with ⟨hj, h⟩ | ⟨hj, h, e⟩
    · rw [((free_at hf hj).2 s h).1] at h3; cases h3
    · rcases look h2 with ⟨hl, h'⟩ | ⟨hl, h', e'⟩
      · rw [((free_at hf hl).2 t h').1] at h4; cases h4
      · rw [← e] at h5
        rw [← e'] at h6
        exact S'.inj j l s t a h h' h3 h4 h5 h6
  · have hj : j ∉ own := fun z => by rw [free_par S hf j z] at h; cases h
    obtain ⟨e, s, h1, h2⟩ := S'.par j a h
    rw [wipe_out hj] at e
    exact ⟨e, s, by rw [back_get, if_neg fun z => hj z.1]; exact h1, h2⟩
end
mutual
theorem asgT_len : ∀ (tg : Tg) {d : D} {ρ ρ' : Ev}, asgT tg d ρ = some ρ' → ρ'.length = ρ.length
  | .name i, d, ρ, ρ', h => by
    obtain ⟨rfl, _⟩ := stor_at (show stor i d false ρ = some ρ' from h)
    rw [List.length_set]
  | .tup ts, d, ρ, ρ', h => by
    cases d with
    | tuple ds => exact asgTs_lenE ts (show asgTs ts ds ρ = some ρ' from h)
    | _ => cases h
theorem asgTs_lenE : ∀ (ts : List Tg) {ds : List D} {ρ ρ' : Ev}, asgTs ts ds ρ = some ρ' → ρ'.length = ρ.length
  | [], [], _, _, h => by
    have h : some _ = some _ := h
    cases h; rfl
  | [], _ :: _, _, _, h => nomatch h
  | _ :: _, [], _, _, h => nomatch h
  | t :: ts, d :: ds, ρ, ρ', h => by
    have h : (asgT t d ρ >>= fun ρ1 => asgTs ts ds ρ1) = some ρ' := h
    obtain ⟨ρ1, h3, h4⟩ := obind h
    exact (asgTs_lenE ts h4).trans (asgT_len t h3)
end
/-! tests -/
def tTs (C : Ct) (h : Ev → Option (Bool × Ev)) : TT := fun σ H Q => ∃ F ρ b ρ', Sim C F ρ σ H ∧ h ρ = some (b, ρ') ∧ ∀ F' H', Sim C F' ρ' σ H' → Step ρ σ F H ρ' F' H' → Q b H'
section
variable {X : Cx} {C : Ct} {c : Expr}
theorem pts_mono {ifs : List Expr} {t t' : TT} (h : PTs X ifs t) (m : ∀ σ H Q, t' σ H Q → t σ H Q) : PTs X ifs t' := ⟨fun pins s σ H Q I hw => h.run pins s σ H Q I (m _ _ _ hw)⟩
theorem pts_nilD : PTs X [] (tTs C (tests [])) := pts_mono pts_nil fun σ H Q ⟨F, ρ, b, ρ', S, h, k⟩ => by
  cases h
  exact k F H S (Step.refl _ _ _ _)
theorem pts_oneD {f : EvR} (h : PT X c (tB' C f)) : PTs X [c] (tTs C (tests [f])) := pts_mono (pts_one h) fun σ H Q ⟨F, ρ, b, ρ', S, h, k⟩ => by
  have h : (match f ρ with
    | some (.bool b, _, ρ1) => if b then tests [] ρ1 else some (false, ρ1)
    | _ => none) = some (b, ρ') := h
  split at h
  · rename_i b0 fr ρ1 h1
    refine ⟨F, ρ, b0, fr, ρ1, S, h1, fun F1 H1 S1 st1 => ?_⟩
    cases b0 with
    | true =>
      rw [if_pos rfl] at h
      cases h
      exact k F1 H1 S1 st1
    | false =>
      rw [if_neg Bool.false_ne_true] at h
      cases h
      exact k F1 H1 S1 st1
  · cases h
end
theorem turns_cons {os : List Opn} {f : D → Ev → Option (Option D × Ev)} {x : D} {xs : List D} {ρ ρ' : Ev} {ys : List D} (h : turns os f (x :: xs) ρ = some (ys, ρ')) :
    ∃ y ρ1 zs, f x ρ = some (y, ρ1) ∧ stays os ρ ρ1 ∧ turns os f xs ρ1 = some (zs, ρ') ∧ ys = (match y with | some d => d :: zs | none => zs) := by
  unfold turns at h
  obtain ⟨⟨y, ρ1⟩, h1, h2⟩ := obind h
  obtain ⟨h3, h4⟩ := Option.ite_none_right_eq_some.mp h2
  obtain ⟨⟨zs, ρ2⟩, h5, h6⟩ := obind h4
  cases h6
  exact ⟨y, ρ1, zs, h1, h3, h5, rfl⟩
theorem wipe_of {σ σ2 : L2.St} {own : List Nat} (hl : σ2.length = σ.length) (h : ∀ j, j ∉ own → σ2[j]? = (wipe σ own)[j]?) : wipe σ2 own = wipe σ own := by
  apply List.ext_getElem?
  intro j
  rw [wipe_get, wipe_get, hl]
  by_cases hj : j ∈ own ∧ j < σ.length
  · rw [if_pos hj, if_pos hj]
  · rw [if_neg hj, if_neg hj]
    by_cases hm : j ∈ own
    · have : ¬ j < σ.length := fun z => hj ⟨hm, z⟩
      rw [List.getElem?_eq_none (by omega), List.getElem?_eq_none (by omega)]
    · rw [h j hm, wipe_out hm]
theorem lc_read {C : Ct} {k : ItK} {ga : EvOs} {tgt : Tg} {fs : List EvR} {fe : EvR} {own : List Nat} {σ : L2.St} {H : Hp} {Q : VK} (hb : ∀ ρ os ρ', ga ρ = some (os, ρ') → ∀ i ∈ bors os, i ∉ own) (ht : ∀ i, i ∉ own → tgHas tgt i = false)
    (h : tE C (evLc tgt k ga fs fe own) σ H Q) : tLc (tI C k ga) (tG C tgt) (tTs C (tests fs)) (tV C fe) own σ H Q := by
  obtain ⟨F, ρ, d, fr, ρ', S, hf, kk⟩ := h
  obtain ⟨⟨os, ρ1⟩, h1, hf⟩ := obind hf
  obtain ⟨ds, h2, hf⟩ := obind hf
  obtain ⟨xs, h3, hf⟩ := obind hf
  obtain ⟨hfr, hf⟩ := Option.ite_none_right_eq_some.mp hf
  obtain ⟨⟨yz, ρ2⟩, h4, hf⟩ := obind hf
  obtain ⟨hz, hf⟩ := Option.ite_none_right_eq_some.mp hf
  cases hf
  have hbo := hb ρ os ρ1 h1
  refine ⟨F, ρ, os, ρ1, ds, xs, S, h1, h2, h3, fun F1 H1 J S1 st1 good D hD => ?_⟩
  have hp := free_par S1 hfr
  have W1 : Sim C F1 (clear ρ1 own) (wipe σ own) H1 := S1.wipe hp
  have nfD : ¬ F1 D := fun z => by
    obtain ⟨o, e⟩ := S1.fdom D z
    rw [hD] at e; cases e
  have ownD : ∀ {ρx : Ev} {σx : L2.St}, Sim C F1 ρx σx H1 → ¬ Own ρx σx D := fun {ρx σx} Sx ⟨j, s, e1, e2, e3⟩ => by
    obtain ⟨a, e4, r, _⟩ := Sx.own j s e1 e2
    rw [e3] at e4; cases e4
    obtain ⟨o, e⟩ := r.dom
    rw [hD] at e; cases e
  have n0 : C.H0 D = none := S1.new0 hD
  refine ⟨fun i m Hc => m = xs.length - i ∧ i ≤ xs.length ∧ ∃ Fc ρc ys vs zs, Sim C Fc ρc (wipe σ own) Hc ∧ Step (clear ρ1 own) (wipe σ own) F1 H1 ρc Fc Hc ∧ (∀ j ∈ bors os, ρc[j]? = ρ1[j]?) ∧ Hc D = some (.lst vs) ∧ Reps C.K Fc Hc ys vs ∧ ¬ Fc D ∧ ¬ Own ρc (wipe σ own) D ∧
      turns os (turn tgt fs fe own) (xs.drop i) ρc = some (zs, ρ2) ∧ ys ++ zs = yz, ⟨xs.length, by simp, Nat.zero_le _, F1, clear ρ1 own, [], [], yz, W1.ext (Ext.new hD), Step.ext (Ext.new hD), fun j hj => clear_out (hbo j hj), upd_same, .nil, nfD, ownD W1, h4, rfl⟩, ?_⟩
  rintro i m Hc ⟨rfl, hi, Fc, ρc, ys, vs, zs, Sc, stc, hst, hDc, rys, nfc, noc, hts, hyz⟩
  have kc : Keep F1 H1 Hc := stc.keep W1
  have stay : Stay C os F1 ρ1 σ H1 Fc ρc (wipe σ own) Hc := ⟨Sc, stc.sub, kc, fun j hj => ⟨hst j hj, wipe_out (hbo j hj)⟩⟩
  obtain ⟨gi, gs⟩ := good Fc ρc (wipe σ own) Hc stay
  by_cases hlt : i < xs.length
  · rw [List.drop_eq_getElem_cons hlt] at hts
    obtain ⟨y, ρn, zs', h5, h6, h7, h8⟩ := turns_cons hts
    obtain ⟨go, yl⟩ := gi i xs[i] (List.getElem?_eq_getElem hlt)
    refine .inr ⟨go, fun Hn => i + 1 ≤ xs.length ∧ ∃ Fc ρc ys vs zs, Sim C Fc ρc (wipe σ own) Hn ∧ Step (clear ρ1 own) (wipe σ own) F1 H1 ρc Fc Hn ∧ (∀ j ∈ bors os, ρc[j]? = ρ1[j]?) ∧ Hn D = some (.lst vs) ∧ Reps C.K Fc Hn ys vs ∧ ¬ Fc D ∧ ¬ Own ρc (wipe σ own) D ∧
      turns os (turn tgt fs fe own) (xs.drop (i + 1)) ρc = some (zs, ρ2) ∧ ys ++ zs = yz, fun H' w => ⟨xs.length - (i + 1), by omega, rfl, w⟩, fun x Hx hy => ?_⟩
    obtain ⟨ex, rx⟩ := yl x Hx hy
    obtain ⟨ρa, h9, h10⟩ := obind h5
    obtain ⟨⟨b, ρb⟩, h11, h12⟩ := obind h10
    refine ⟨Fc, ρc, xs[i], ρa, Sc.ext ex, rx, h9, fun σa ⟨Sa, oa, wa⟩ => ?_⟩
    have la : σa.length = σ.length := by rw [← Sa.len, asgT_len tgt h9, Sc.len, wipe_length]
    have hw : wipe σa own = wipe σ own := wipe_of la fun j hj => (oa j (ht j hj)).1
    refine ⟨hw, Fc, ρa, b, ρb, Sa, h11, fun Fb Hb Sb stb => ?_⟩
    -- the turn's end
    have fin : ∀ (Fd : Addr → Prop) (ρd : Ev) (Hd : Hp), Sim C Fd ρd σa Hd → Step ρa σa Fc Hx ρd Fd Hd → ρn = clear ρd own →
        Sim C Fd ρn (wipe σ own) Hd ∧ Step (clear ρ1 own) (wipe σ own) F1 H1 ρn Fd Hd ∧ (∀ j ∈ bors os, ρn[j]? = ρ1[j]?) ∧ Hd D = some (.lst vs) ∧ Reps C.K Fd Hd ys vs ∧ ¬ Fd D ∧ ¬ Own ρn (wipe σ own) D := fun Fd ρd Hd Sd std e => by
      subst e
      have lf : Step ρc (wipe σ own) Fc Hx (clear ρd own) Fd Hd := std.lift wa fun a z => by rw [← hw] at z; exact own_clear z
      have Se := Sc.ext ex
      have hDx : Hx D = some (.lst vs) := ex D _ hDc
      refine ⟨by rw [← hw]; exact Sd.wipe hp, stc.trans ((Step.ext ex).trans lf), fun j hj => (stays_bors h6 j hj).trans (hst j hj), lf.fr D _ hDx noc, lf.reps Se (rys.ext ex), fun z => ?_, fun z => noc (lf.own D z)⟩
      rcases lf.new D z with z | z | z
      · exact nfc z
      · exact noc z
      · rw [hDx] at z; cases z
    cases b with
    | false =>
      dsimp only at h12 ⊢
      rw [if_neg Bool.false_ne_true] at h12 ⊢
      cases h12
      obtain ⟨q1, q2, q3, q4, q5, q6, q7⟩ := fin Fb ρb Hb Sb stb rfl
      exact ⟨hlt, Fb, _, ys, vs, zs', q1, q2, q3, q4, q5, q6, q7, h7, by rw [← hyz, h8]⟩
    | true =>
      dsimp only at h12 ⊢
      rw [if_pos rfl] at h12 ⊢
      obtain ⟨⟨yd, fy, ρd⟩, h13, h14⟩ := obind h12
      cases h14
      refine ⟨Fb, ρb, yd, fy, ρd, Sb, h13, fun Fd Hd v Sd std rv => ?_⟩
      obtain ⟨q1, q2, q3, q4, q5, q6, q7⟩ := fin Fd ρd Hd Sd (stb.trans std) rfl
      have hys : ys ++ yd :: zs' = yz := by rw [← hyz, h8]
      refine ⟨vs, q4, ?_, hlt, Fd, _, ys ++ [yd], vs ++ [v], zs', q1.updD q4 q6 q7 n0, q2.updD hD, q3, upd_same, ?_, q6, q7, h7, by rw [← hys, List.append_assoc]; rfl⟩
      · rw [← q5.length]
        have := congrArg List.length hys
        rw [List.length_append, List.length_cons] at this
        omega
      · have kp : Keep Fd Hd (upd Hd D (.lst (vs ++ [v]))) := Keep.upd q4 q6
        exact (q5.mono (fun _ h => h) kp).append (.cons (rv.mono (fun _ h => h) kp) .nil)
  · have e : i = xs.length := by omega
    subst e
    rw [List.drop_length] at hts
    cases hts
    rw [List.append_nil] at hyz
    subst hyz
    refine .inl ⟨gs, ?_⟩
    obtain ⟨Sb, bown⟩ := S1.back Sc stc.sub kc hfr
    have stb : Step ρ1 σ F1 H1 (back ρ1 ρ2 own) Fc Hc := stc.lift (fun a z => own_clear z) bown
    exact kk Fc Hc _ Sb (st1.trans stb) ⟨D, rfl, st1.non hD, ⟨vs, hDc, rys⟩, nfc, fun z => noc (bown D z)⟩
end EV

/-! EvJ: calls of defs. -/
namespace EV
open PySem PySem.Spec PyProof.Rows L2
/-- no exception leaves a def -/
def noCX : CXT := fun _ _ _ _ _ _ => False
/-- a lent list's place -/
def PArg (args : List (Option Sl)) (vs : List V) (a : Addr) : Prop := ∃ (p : Nat) (s : Sl), args[p]? = some (some s) ∧ s.own = true ∧ vs[p]? = some (.ref a)
structure ArgsOk (K : PySem.W.Frag) (F : Addr → Prop) (H : Hp) (args : List (Option Sl)) (vs : List V) : Prop where
  len : args.length = vs.length
  sm : ∀ (p : Nat) (o : Option Sl), args[p]? = some o → ∃ s, o = some s ∧ s.lk = s.own
  val : ∀ (p : Nat) (s : Sl) (v : V), args[p]? = some (some s) → s.own = false → vs[p]? = some v → Rep K F H s.d v
  own : ∀ (p : Nat) (s : Sl), args[p]? = some (some s) → s.own = true → ∃ a, vs[p]? = some (.ref a) ∧ Root K F H s.d a ∧ ¬ F a
  inj : ∀ (p q : Nat) (s t : Sl) (a : Addr), args[p]? = some (some s) → args[q]? = some (some t) → s.own = true → t.own = true → vs[p]? = some (.ref a) → vs[q]? = some (.ref a) → p = q
  fdom : ∀ a, F a → ∃ o, H a = some o
structure Post (K : PySem.W.Frag) (F : Addr → Prop) (H : Hp) (args : List (Option Sl)) (vs : List V) (outs : List (Option Sl)) (F' : Addr → Prop) (H' : Hp) (d : D) (fr : Bool) (v : V) : Prop where
  sub : ∀ a, F a → F' a
  frm : ∀ a o, H a = some o → ¬ PArg args vs a → H' a = some o
  new : ∀ a, F' a → F a ∨ PArg args vs a ∨ H a = none
  dom : ∀ a o, H a = some o → ∃ o', H' a = some o'
  fdom : ∀ a, F' a → ∃ o, H' a = some o
  outs : ∀ (p : Nat) (s : Sl) (a : Addr), args[p]? = some (some s) → s.own = true → vs[p]? = some (.ref a) → ∃ t, outs[p]? = some (some t) ∧ (t.own = true → Root K F' H' t.d a ∧ ¬ F' a) ∧ (t.own = false → Rep K F' H' t.d (.ref a))
  res : if fr = true then ∃ a, v = .ref a ∧ H a = none ∧ Root K F' H' d a ∧ ¬ F' a else Rep K F' H' d v
def spD (K : PySem.W.Frag) (Φ : Orc) (f : Nat) : Sp := fun vs H Q _ => ∃ F args d fr outs, ArgsOk K F H args vs ∧ Φ f args = some (d, fr, outs) ∧ ∀ F' H' v, Post K F H args vs outs F' H' d fr v → Q v H'
/-! a def's body: its state at the entry, at the end -/
section
variable {K : PySem.W.Frag} {F : Addr → Prop} {H : Hp} {args : List (Option Sl)} {vs : List V}
def paOf (args : List (Option Sl)) (vs : List V) (i : Nat) : Option Addr := match args[i]? with
  | some (some s) => if s.own then (match vs[i]? with
    | some (V.ref a) => some a
    | _ => none) else none
  | _ => none
theorem paOf_eq {i : Nat} {a : Addr} : paOf args vs i = some a ↔ ∃ s, args[i]? = some (some s) ∧ s.own = true ∧ vs[i]? = some (V.ref a) := by
  unfold paOf
  constructor
  · intro h
    split at h
    · rename_i s hs
      obtain ⟨ho, h⟩ := Option.ite_none_right_eq_some.mp h
      split at h
      · rename_i b hb
        cases h
        exact ⟨s, hs, ho, hb⟩
      · cases h
    · cases h
  · rintro ⟨s, h1, h2, h3⟩
    rw [h1]
    simp only [h2, if_true, h3]
def ctOf (K : PySem.W.Frag) (F : Addr → Prop) (H : Hp) (args : List (Option Sl)) (vs : List V) : Ct := ⟨K, H, F, paOf args vs⟩
theorem ctP {a : Addr} : (ctOf K F H args vs).P a ↔ PArg args vs a := by
  constructor
  · rintro ⟨i, h⟩
    obtain ⟨s, h1, h2, h3⟩ := paOf_eq.mp h
    exact ⟨i, s, h1, h2, h3⟩
  · rintro ⟨i, s, h1, h2, h3⟩
    exact ⟨i, paOf_eq.mpr ⟨s, h1, h2, h3⟩⟩
theorem app_get {α : Type} {xs ys : List (Option α)} {n i : Nat} {x : α} (h : (xs ++ List.replicate n none)[i]? = some (some x)) : xs[i]? = some (some x) := by
  by_cases hi : i < xs.length
  · rw [List.getElem?_append_left hi] at h; exact h
  · rw [List.getElem?_append_right (by omega), List.getElem?_replicate] at h
    split at h <;> cases h
theorem start_some {N : List Str} {i : Nat} {v : V} (h : vs[i]? = some v) : (L2.start N vs)[i]? = some (some v) := by
  unfold L2.start
  have hi : i < vs.length := (List.getElem?_eq_some_iff.mp h).1
  rw [List.getElem?_append_left (by rw [List.length_map]; exact hi), List.getElem?_map, h]
  rfl
theorem start_of {N : List Str} {i : Nat} {v : V} (h : (L2.start N vs)[i]? = some (some v)) : vs[i]? = some v := by
  unfold L2.start at h
  have h2 := app_get (ys := ([] : List (Option V))) h
  rw [List.getElem?_map] at h2
  cases e : vs[i]? with
  | none => rw [e] at h2; cases h2
  | some x => rw [e] at h2; cases h2; rfl
theorem Sim.start {N : List Str} {n : Nat} (A : ArgsOk K F H args vs) (hn : n = N.length - vs.length) : Sim (ctOf K F H args vs) F (args ++ List.replicate n none) (L2.start N vs) H := by
  have get : ∀ {i : Nat} {s : Sl}, (args ++ List.replicate n none)[i]? = some (some s) → args[i]? = some (some s) ∧ ∃ v, vs[i]? = some v ∧ (L2.start N vs)[i]? = some (some v) := fun {i s} h => by
    have h1 := app_get (ys := ([] : List (Option Sl))) h
    have hi : i < vs.length := by rw [← A.len]; exact (List.getElem?_eq_some_iff.mp h1).1
    exact ⟨h1, _, List.getElem?_eq_getElem hi, start_some (List.getElem?_eq_getElem hi)⟩
  refine ⟨?_, fun i s h1 h2 => ?_, fun i s h1 h2 => ?_, fun i j s t a h1 h2 h3 h4 h5 h6 => ?_, fun i a h => ?_, A.fdom, fun _ h => h, fun _ h => .inl h, fun _ _ h _ => h, fun a o h => ⟨o, h⟩⟩
  · unfold L2.start
    rw [List.length_append, List.length_append, List.length_replicate, List.length_replicate, List.length_map, A.len, hn]
  · obtain ⟨h3, v, h4, h5⟩ := get h1
    exact ⟨v, h5, A.val i s v h3 h2 h4⟩
  · obtain ⟨h3, v, h4, h5⟩ := get h1
    obtain ⟨a, e, r, nf⟩ := A.own i s h3 h2
    obtain ⟨s', e', hl⟩ := A.sm i _ h3
    cases e'
    rw [h4] at e; cases e
    refine ⟨a, h5, r, nf, fun z => ?_, fun _ => paOf_eq.mpr ⟨s, h3, h2, h4⟩⟩
    rw [hl, h2] at z; cases z
  · exact A.inj i j s t a (get h1).1 (get h2).1 h3 h4 (start_of h5) (start_of h6)
  · obtain ⟨s, h1, h2, h3⟩ := paOf_eq.mp h
    obtain ⟨s', e', hl⟩ := A.sm i _ h1
    cases e'
    refine ⟨start_some h3, s, ?_, by rw [hl, h2]⟩
    rw [List.getElem?_append_left (List.getElem?_eq_some_iff.mp h1).1]
    exact h1
theorem post_of {ρ : Ev} {σ : L2.St} {F' : Addr → Prop} {H' : Hp} {d : D} {fr : Bool} {v : V} (A : ArgsOk K F H args vs) (S : Sim (ctOf K F H args vs) F' ρ σ H') (r : ResR (ctOf K F H args vs) ρ σ F' H' d fr v) : Post K F H args vs (ρ.take args.length) F' H' d fr v := by
  refine ⟨S.f0, fun a o h n => S.fr0 a o h fun z => n (ctP.mp z), fun a h => (S.fnew a h).imp id (Or.imp ctP.mp id), S.dom0, S.fdom, fun p s a h1 h2 h3 => ?_, ?_⟩
  · obtain ⟨e, t, h4, h5⟩ := S.par p a (paOf_eq.mpr ⟨s, h1, h2, h3⟩)
    refine ⟨t, by rw [List.getElem?_take_of_lt (List.getElem?_eq_some_iff.mp h1).1]; exact h4, fun ho => ?_, fun ho => ?_⟩
    · obtain ⟨b, e2, r2, nf, _⟩ := S.own p t h4 ho
      rw [e] at e2; cases e2
      exact ⟨r2, nf⟩
    · obtain ⟨w, e2, r2⟩ := S.val p t h4 ho
      rw [e] at e2; cases e2
      exact r2
  · cases fr with
    | false => exact r
    | true =>
      obtain ⟨a, e, n0, q1, q2, _⟩ := r
      exact ⟨a, e, n0, q1, q2⟩
end
/-! the caller -/
section
variable {C : Ct} {F : Addr → Prop} {ρ : Ev} {σ : L2.St} {H : Hp} {os : List Opn} {vs : List V} {args outs : List (Option Sl)}
theorem ResOs.at {K : PySem.W.Frag} : ∀ {os : List Opn} {vs : List V} {p : Nat} {o : Opn}, ResOs K F H σ os vs → os[p]? = some o → ∃ v, vs[p]? = some v ∧ ResO K F H σ o v
  | _, _, _, _, .nil, h => by simp at h
  | _, _, 0, _, .cons r _, h => by simp at h; subst h; exact ⟨_, rfl, r⟩
  | _, _, p + 1, o, .cons _ t, h => by
    obtain ⟨v, h1, h2⟩ := ResOs.at (p := p) (o := o) t (by simpa using h)
    exact ⟨v, by simpa using h1, h2⟩
theorem ResOs.len {K : PySem.W.Frag} : ∀ {os : List Opn} {vs : List V}, ResOs K F H σ os vs → os.length = vs.length
  | _, _, .nil => rfl
  | _, _, .cons _ t => congrArg (· + 1) (ResOs.len t)
theorem argsOf_at : ∀ {os : List Opn} {args : List (Option Sl)} {p : Nat} {o : Option Sl}, argsOf ρ os = some args → args[p]? = some o → ∃ q s, os[p]? = some q ∧ o = some s ∧ argOf ρ q = some s
  | [], _, _, _, h, h2 => by
    have h : some [] = some _ := h
    cases h
    simp at h2
  | q :: os, args, p, o, h, h2 => by
    obtain ⟨s, h3, h4⟩ := obind (show (argOf ρ q >>= _) = some args from h)
    obtain ⟨ss, h5, h6⟩ := obind h4
    cases h6
    cases p with
    | zero =>
      simp at h2
      exact ⟨q, s, rfl, h2.symm, h3⟩
    | succ p =>
      obtain ⟨q', s', h7, h8, h9⟩ := argsOf_at (p := p) (o := o) h5 (by simpa using h2)
      exact ⟨q', s', by simpa using h7, h8, h9⟩
theorem argsOf_len : ∀ {os : List Opn} {args : List (Option Sl)}, argsOf ρ os = some args → args.length = os.length
  | [], _, h => by
    have h : some [] = some _ := h
    cases h; rfl
  | q :: os, args, h => by
    obtain ⟨s, h3, h4⟩ := obind (show (argOf ρ q >>= _) = some args from h)
    obtain ⟨ss, h5, h6⟩ := obind h4
    cases h6
    rw [List.length_cons, List.length_cons, argsOf_len h5]
theorem argOf_own {q : Opn} {s : Sl} (h : argOf ρ q = some s) : s.lk = s.own ∧ ((∃ d, q = .val d ∧ s = ⟨d, false, false⟩) ∨ ∃ i t, q = .bor i ∧ ρ[i]? = some (some t) ∧ s = ⟨t.d, t.own, t.own⟩) := by
  cases q with
  | val d => cases h; exact ⟨rfl, .inl ⟨d, rfl, rfl⟩⟩
  | bor i =>
    have h : (match ρ[i]? with | some (some s) => some ⟨s.d, s.own, s.own⟩ | _ => none) = some s := h
    split at h
    · rename_i t ht
      cases h
      exact ⟨rfl, .inr ⟨i, t, rfl, ht, rfl⟩⟩
    · cases h
theorem bors_at : ∀ {os : List Opn} {p q i : Nat}, (bors os).Nodup → os[p]? = some (.bor i) → os[q]? = some (.bor i) → p = q
  | [], _, _, _, _, h, _ => by simp at h
  | .val d :: os, 0, _, _, _, h, _ => by simp at h
  | .val d :: os, _ + 1, 0, _, _, _, h => by simp at h
  | .val d :: os, p + 1, q + 1, i, hn, h1, h2 => congrArg (· + 1) (bors_at (os := os) hn (by simpa using h1) (by simpa using h2))
  | .bor j :: os, 0, 0, _, _, _, _ => rfl
  | .bor j :: os, 0, q + 1, i, hn, h1, h2 => by
    simp at h1; subst h1
    have : Opn.bor j ∈ os := List.mem_of_getElem? (by simpa using h2)
    exact absurd (mem_bors this) (List.nodup_cons.mp hn).1
  | .bor j :: os, p + 1, 0, i, hn, h1, h2 => by
    simp at h2; subst h2
    have : Opn.bor j ∈ os := List.mem_of_getElem? (by simpa using h1)
    exact absurd (mem_bors this) (List.nodup_cons.mp hn).1
  | .bor j :: os, p + 1, q + 1, i, hn, h1, h2 => congrArg (· + 1) (bors_at (os := os) (List.nodup_cons.mp hn).2 (by simpa using h1) (by simpa using h2))
/-- one lent list comes back -/
def back1 (i : Nat) (s : Sl) (ρ : Ev) : Ev := match ρ[i]? with
  | some (some t) => if t.own then ρ.set i (some ⟨s.d, s.own, t.lk⟩) else ρ
  | _ => ρ
theorem back1_len {i : Nat} {s : Sl} {ρ : Ev} : (back1 i s ρ).length = ρ.length := by
  unfold back1
  split
  · split
    · rw [List.length_set]
    · rfl
  · rfl
theorem back1_ne {i j : Nat} {s : Sl} {ρ : Ev} (h : j ≠ i) : (back1 i s ρ)[j]? = ρ[j]? := by
  unfold back1
  split
  · split
    · rw [List.getElem?_set_ne (Ne.symm h)]
    · rfl
  · rfl
theorem back1_own {i : Nat} {s t : Sl} {ρ : Ev} (h : ρ[i]? = some (some t)) (ho : t.own = true) : (back1 i s ρ)[i]? = some (some ⟨s.d, s.own, t.lk⟩) := by
  unfold back1
  rw [h]
  simp only [ho, if_true]
  exact List.getElem?_set_self (List.getElem?_eq_some_iff.mp h).1
theorem back1_no {i j : Nat} {s : Sl} {ρ : Ev} (h : ∀ t, ρ[j]? = some (some t) → t.own = false) : (back1 i s ρ)[j]? = ρ[j]? := by
  by_cases hj : j = i
  · subst hj
    unfold back1
    split
    · rename_i t ht
      rw [h t ht]
      rfl
    · rfl
  · exact back1_ne hj
theorem backs_len : ∀ (os : List Opn) (outs : List (Option Sl)) (ρ : Ev), (backs os outs ρ).length = ρ.length
  | [], _, _ => rfl
  | .val _ :: os, [], _ => rfl
  | .val _ :: os, _ :: ss, ρ => backs_len os ss ρ
  | .bor i :: os, [], _ => rfl
  | .bor i :: os, none :: ss, ρ => backs_len os ss ρ
  | .bor i :: os, some s :: ss, ρ => (backs_len os ss (back1 i s ρ)).trans back1_len
theorem backs_no : ∀ (os : List Opn) (outs : List (Option Sl)) (ρ : Ev) {j : Nat}, (∀ t, ρ[j]? = some (some t) → t.own = false) → (backs os outs ρ)[j]? = ρ[j]?
  | [], _, _, _, _ => rfl
  | .val _ :: os, [], _, _, _ => rfl
  | .val _ :: os, _ :: ss, ρ, j, h => backs_no os ss ρ h
  | .bor i :: os, [], _, _, _ => rfl
  | .bor i :: os, none :: ss, ρ, j, h => backs_no os ss ρ h
  | .bor i :: os, some s :: ss, ρ, j, h => (backs_no os ss (back1 i s ρ) (by rw [back1_no h]; exact h)).trans (back1_no h)
theorem backs_out : ∀ (os : List Opn) (outs : List (Option Sl)) (ρ : Ev) {j : Nat}, j ∉ bors os → (backs os outs ρ)[j]? = ρ[j]?
  | [], _, _, _, _ => rfl
  | .val _ :: os, [], _, _, _ => rfl
  | .val _ :: os, _ :: ss, ρ, j, h => backs_out os ss ρ h
  | .bor i :: os, [], _, _, _ => rfl
  | .bor i :: os, none :: ss, ρ, j, h => backs_out os ss ρ fun z => h (List.mem_cons_of_mem _ z)
  | .bor i :: os, some s :: ss, ρ, j, h => (backs_out os ss (back1 i s ρ) fun z => h (List.mem_cons_of_mem _ z)).trans (back1_ne fun z => h (by rw [z]; exact List.mem_cons_self))
theorem backs_at : ∀ (os : List Opn) (outs : List (Option Sl)) (ρ : Ev) {p j : Nat} {s t : Sl}, (bors os).Nodup → os[p]? = some (.bor j) → outs[p]? = some (some s) → ρ[j]? = some (some t) → t.own = true → (backs os outs ρ)[j]? = some (some ⟨s.d, s.own, t.lk⟩)
  | [], _, _, _, _, _, _, _, h, _, _, _ => by simp at h
  | _ :: _, [], _, _, _, _, _, _, _, h, _, _ => by simp at h
  | .val _ :: os, _ :: ss, ρ, 0, j, s, t, hn, h1, h2, h3, h4 => by simp at h1
  | .val _ :: os, _ :: ss, ρ, p + 1, j, s, t, hn, h1, h2, h3, h4 => backs_at os ss ρ hn (by simpa using h1) (by simpa using h2) h3 h4
  | .bor i :: os, x :: ss, ρ, 0, j, s, t, hn, h1, h2, h3, h4 => by
    simp at h1 h2
    subst h1 h2
    exact (backs_out os ss (back1 i s ρ) (List.nodup_cons.mp hn).1).trans (back1_own h3 h4)
  | .bor i :: os, none :: ss, ρ, p + 1, j, s, t, hn, h1, h2, h3, h4 => backs_at os ss ρ (List.nodup_cons.mp hn).2 (by simpa using h1) (by simpa using h2) h3 h4
  | .bor i :: os, some x :: ss, ρ, p + 1, j, s, t, hn, h1, h2, h3, h4 => by
    have hj : j ≠ i := fun z => by
      subst z
      have : Opn.bor j ∈ os := List.mem_of_getElem? (by simpa using h1)
      exact (List.nodup_cons.mp hn).1 (mem_bors this)
    exact backs_at os ss (back1 i x ρ) (List.nodup_cons.mp hn).2 (by simpa using h1) (by simpa using h2) ((back1_ne hj).trans h3) h4
theorem argsOk_of (S : Sim C F ρ σ H) (r : ResOs C.K F H σ os vs) (h : argsOf ρ os = some args) (hn : (bors os).Nodup) : ArgsOk C.K F H args vs := by
  have own : ∀ {p : Nat} {s : Sl}, args[p]? = some (some s) → s.own = true → ∃ (i : Nat) (t : Sl) (a : Addr), os[p]? = some (.bor i) ∧ ρ[i]? = some (some t) ∧ t.own = true ∧ s = ⟨t.d, true, true⟩ ∧ σ[i]? = some (some (.ref a)) ∧ vs[p]? = some (.ref a) ∧ Root C.K F H t.d a ∧ ¬ F a := fun {p s} h1 h2 => by
    obtain ⟨q, s', h3, h4, h5⟩ := argsOf_at h h1
    cases h4
    obtain ⟨_, ⟨d, rfl, rfl⟩ | ⟨i, t, rfl, h6, rfl⟩⟩ := argOf_own h5
    · cases h2
    · obtain ⟨a, e, r1, nf, _⟩ := S.own i t h6 h2
      obtain ⟨v, e2, r2⟩ := r.at h3
      have r2 : σ[i]? = some (some v) := r2
      rw [e] at r2; cases r2
      exact ⟨i, t, a, h3, h6, h2, by rw [show t.own = true from h2], e, e2, r1, nf⟩
  refine ⟨by rw [argsOf_len h, r.len], fun p o h1 => ?_, fun p s v h1 h2 h3 => ?_, fun p s h1 h2 => ?_, fun p q s t a h1 h2 h3 h4 h5 h6 => ?_, S.fdom⟩
  · obtain ⟨q, s', h3, h4, h5⟩ := argsOf_at h h1
    exact ⟨s', h4, (argOf_own h5).1⟩
  · obtain ⟨q, s', h4, h5, h6⟩ := argsOf_at h h1
    cases h5
    obtain ⟨w, e2, r2⟩ := r.at h4
    rw [h3] at e2; cases e2
    obtain ⟨_, ⟨d, rfl, rfl⟩ | ⟨i, t, rfl, h7, rfl⟩⟩ := argOf_own h6
    · exact r2
    · obtain ⟨u, e, q⟩ := S.val i t h7 h2
      have r2 : σ[i]? = some (some v) := r2
      rw [e] at r2; cases r2
      exact q
  · obtain ⟨i, t, a, _, _, _, rfl, _, e, r1, nf⟩ := own h1 h2
    exact ⟨a, e, r1, nf⟩
  · obtain ⟨i, u, b, e1, e2, e3, _, e4, e5, _⟩ := own h1 h3
    obtain ⟨i', u', b', e1', e2', e3', _, e4', e5', _⟩ := own h2 h4
    rw [h5] at e5; cases e5
    rw [h6] at e5'; cases e5'
    have := S.inj i i' u u' a e2 e2' e3 e3' e4 e4'
    subst this
    exact bors_at hn e1 e1'
theorem call_end {F' : Addr → Prop} {H' : Hp} {d : D} {fr : Bool} {v : V} (S : Sim C F ρ σ H) (r : ResOs C.K F H σ os vs) (h : argsOf ρ os = some args) (hn : (bors os).Nodup) (P : Post C.K F H args vs outs F' H' d fr v) :
    Sim C F' (backs os outs ρ) σ H' ∧ Step ρ σ F H (backs os outs ρ) F' H' ∧ ResV C.K H (backs os outs ρ) σ F' H' d fr v := by
  -- a lent list: its name
  have parg : ∀ {a : Addr}, PArg args vs a → ∃ (p i : Nat) (t : Sl), os[p]? = some (.bor i) ∧ args[p]? = some (some ⟨t.d, true, true⟩) ∧ vs[p]? = some (.ref a) ∧ ρ[i]? = some (some t) ∧ t.own = true ∧ σ[i]? = some (some (.ref a)) := fun {a} ⟨p, s, h1, h2, h3⟩ => by
    obtain ⟨q, s', h4, h5, h6⟩ := argsOf_at h h1
    cases h5
    obtain ⟨_, ⟨d, rfl, rfl⟩ | ⟨i, t, rfl, h7, rfl⟩⟩ := argOf_own h6
    · cases h2
    · obtain ⟨w, e2, r2⟩ := r.at h4
      rw [h3] at e2; cases e2
      have h2 : t.own = true := h2
      exact ⟨p, i, t, h4, by rw [h1, h2], h3, h7, h2, r2⟩
  have pown : ∀ {a : Addr}, PArg args vs a → Own ρ σ a := fun z => let ⟨_, i, t, _, _, _, h1, h2, h3⟩ := parg z; ⟨i, t, h1, h2, h3⟩
  have kp : Keep F H H' := fun a o e hf => P.frm a o e fun z => by
    rcases hf with hf | hf
    · exact S.ownF (pown z) hf
    · exact S.ownTup (pown z) e hf
  -- an owned slot: lent or not
  have slot : ∀ {j : Nat} {s : Sl}, (backs os outs ρ)[j]? = some (some s) → (∃ t, ρ[j]? = some (some t) ∧ t.own = false ∧ s = t) ∨ (j ∉ bors os ∧ ρ[j]? = some (some s) ∧ s.own = true) ∨
      (∃ (p : Nat) (t x : Sl) (a : Addr), os[p]? = some (.bor j) ∧ ρ[j]? = some (some t) ∧ t.own = true ∧ outs[p]? = some (some x) ∧ s = ⟨x.d, x.own, t.lk⟩ ∧ σ[j]? = some (some (.ref a)) ∧ (x.own = true → Root C.K F' H' x.d a ∧ ¬ F' a) ∧ (x.own = false → Rep C.K F' H' x.d (.ref a))) := fun {j s} hs => by
    by_cases hj : j ∈ bors os
    · cases e : ρ[j]? with
      | none => rw [backs_no os outs ρ (fun t ht => by rw [e] at ht; cases ht), e] at hs; cases hs
      | some ot =>
        cases ot with
        | none => rw [backs_no os outs ρ (fun t ht => by rw [e] at ht; cases ht), e] at hs; cases hs
        | some t =>
          cases ho : t.own with
          | false =>
            rw [backs_no os outs ρ (fun u hu => by rw [e] at hu; cases hu; exact ho), e] at hs
            cases hs
            exact .inl ⟨s, rfl, ho, rfl⟩
          | true =>
            obtain ⟨p, hp⟩ := List.getElem?_of_mem (of_bors hj)
            have hargs : args[p]? = some (some ⟨t.d, true, true⟩) := by
              have hl : p < args.length := by rw [argsOf_len h]; exact (List.getElem?_eq_some_iff.mp hp).1
              obtain ⟨q, s', h3, h4, h5⟩ := argsOf_at h (List.getElem?_eq_getElem hl)
              rw [hp] at h3; cases h3
              rw [List.getElem?_eq_getElem hl, h4]
              obtain ⟨_, ⟨d, z, _⟩ | ⟨i, t', z, h6, rfl⟩⟩ := argOf_own h5
              · cases z
              · cases z
                rw [e] at h6; cases h6
                rw [ho]
            obtain ⟨a, ea, _⟩ := S.own j t e ho
            obtain ⟨w, e2, r2⟩ := r.at hp
            have r2 : σ[j]? = some (some w) := r2
            rw [ea] at r2; cases r2
            obtain ⟨x, hx, q1, q2⟩ := P.outs p _ a hargs rfl e2
            rw [backs_at os outs ρ hn hp hx e ho] at hs
            cases hs
            exact .inr (.inr ⟨p, t, x, a, hp, rfl, ho, hx, rfl, ea, q1, q2⟩)
    · rw [backs_out os outs ρ hj] at hs
      cases ho : s.own with
      | false => exact .inl ⟨s, hs, ho, rfl⟩
      | true => exact .inr (.inl ⟨hj, hs, rfl⟩)
  -- a list that was not lent
  have other : ∀ {j : Nat} {s : Sl} {a : Addr}, j ∉ bors os → ρ[j]? = some (some s) → s.own = true → σ[j]? = some (some (.ref a)) → ¬ PArg args vs a := fun {j s a} hj h1 h2 h3 z => by
    obtain ⟨p, i, t, h4, _, _, h5, h6, h7⟩ := parg z
    have := S.inj j i s t a h1 h5 h2 h6 h3 h7
    subst this
    exact hj (mem_bors (List.mem_of_getElem? h4))
  have bown : ∀ a, Own (backs os outs ρ) σ a → Own ρ σ a := fun a ⟨j, s, h1, h2, h3⟩ => by
    rcases slot h1 with ⟨t, q1, q2, q3⟩ | ⟨_, q1, q2⟩ | ⟨p, t, x, b, q1, q2, q3, q4, q5, q6, _⟩
    · subst q3; rw [q2] at h2; cases h2
    · exact ⟨j, s, q1, h2, h3⟩
    · exact ⟨j, t, q2, q3, h3⟩
  have c0 : ∀ {a : Addr}, PArg args vs a → C.P a ∨ C.H0 a = none := fun z => by
    obtain ⟨_, i, t, _, _, _, h1, h2, h3⟩ := parg z
    obtain ⟨b, e, _, _, k1, k2⟩ := S.own i t h1 h2
    rw [h3] at e; cases e
    cases hl : t.lk with
    | false => exact .inr (k1 hl)
    | true => exact .inl ⟨i, k2 hl⟩
  have Sim' : Sim C F' (backs os outs ρ) σ H' := by
    refine ⟨by rw [backs_len]; exact S.len, fun j s h1 h2 => ?_, fun j s h1 h2 => ?_, fun j l s t a h1 h2 h3 h4 h5 h6 => ?_, fun j a hp => ?_, P.fdom, fun a h0 => P.sub a (S.f0 a h0), fun a ha => ?_, fun a o h0 hnp => ?_, fun a o h0 => ?_⟩
    · rcases slot h1 with ⟨t, q1, q2, q3⟩ | ⟨_, q1, q2⟩ | ⟨p, t, x, b, q1, q2, q3, q4, q5, q6, q7, q8⟩
      · subst q3
        obtain ⟨w, e, q⟩ := S.val j s q1 q2
        exact ⟨w, e, q.mono P.sub kp⟩
      · rw [q2] at h2; cases h2
      · subst q5
        exact ⟨.ref b, q6, q8 h2⟩
    · rcases slot h1 with ⟨t, q1, q2, q3⟩ | ⟨hj, q1, q2⟩ | ⟨p, t, x, b, q1, q2, q3, q4, q5, q6, q7, q8⟩
      · subst q3; rw [q2] at h2; cases h2
      · obtain ⟨a, e, q, nf, k⟩ := S.own j s q1 h2
        have np := other hj q1 h2 e
        obtain ⟨o, eo⟩ := q.dom
        refine ⟨a, e, q.keep P.sub kp ((P.frm a o eo np).trans eo.symm), fun z => ?_, k⟩
        rcases P.new a z with z | z | z
        · exact nf z
        · exact np z
        · rw [eo] at z; cases z
      · subst q5
        obtain ⟨a, e, _, _, k1, k2⟩ := S.own j t q2 q3
        rw [q6] at e; cases e
        exact ⟨b, q6, (q7 h2).1, (q7 h2).2, k1, k2⟩
    · have lft : ∀ {j : Nat} {s : Sl}, (backs os outs ρ)[j]? = some (some s) → s.own = true → ∃ t, ρ[j]? = some (some t) ∧ t.own = true := fun {j s} h1 h2 => by
        rcases slot h1 with ⟨t, q1, q2, q3⟩ | ⟨hj, q1, q2⟩ | ⟨p, t, x, b, q1, q2, q3, _⟩
        · subst q3; rw [q2] at h2; cases h2
        · exact ⟨s, q1, h2⟩
        · exact ⟨t, q2, q3⟩
      obtain ⟨s', e1, e2⟩ := lft h1 h3
      obtain ⟨t', e3, e4⟩ := lft h2 h4
      exact S.inj j l s' t' a e1 e3 e2 e4 h5 h6
    · obtain ⟨e, t, h1, h2⟩ := S.par j a hp
      refine ⟨e, ?_⟩
      by_cases hj : j ∈ bors os
      · cases ho : t.own with
        | false => exact ⟨t, by rw [backs_no os outs ρ (fun u hu => by rw [h1] at hu; cases hu; exact ho)]; exact h1, h2⟩
        | true =>
          have ex : ∃ s, (backs os outs ρ)[j]? = some (some s) ∧ s.lk = t.lk := by
            obtain ⟨p, hp2⟩ := List.getElem?_of_mem (of_bors hj)
            have hl : p < args.length := by rw [argsOf_len h]; exact (List.getElem?_eq_some_iff.mp hp2).1
            obtain ⟨q, s', h3, h4, h5⟩ := argsOf_at h (List.getElem?_eq_getElem hl)
            rw [hp2] at h3; cases h3
            obtain ⟨_, ⟨d, z, _⟩ | ⟨i, t', z, h6, rfl⟩⟩ := argOf_own h5
            · cases z
            · cases z
              rw [h1] at h6; cases h6
              obtain ⟨w, e2, r2⟩ := r.at hp2
              have r2 : σ[j]? = some (some w) := r2
              rw [e] at r2; cases r2
              obtain ⟨x, hx, _⟩ := P.outs p _ a ((List.getElem?_eq_getElem hl).trans (congrArg some h4)) ho e2
              exact ⟨_, backs_at os outs ρ hn hp2 hx h1 ho, rfl⟩
          obtain ⟨s, e1, e2⟩ := ex
          exact ⟨s, e1, e2.trans h2⟩
      · exact ⟨t, by rw [backs_out os outs ρ hj]; exact h1, h2⟩
    · rcases P.new a ha with z | z | z
      · exact S.fnew a z
      · exact .inr (c0 z)
      · exact .inr (.inr (S.new0 z))
    · refine P.frm a o (S.fr0 a o h0 hnp) fun z => ?_
      rcases c0 z with z | z
      · exact hnp z
      · rw [z] at h0; cases h0
    · obtain ⟨o', e⟩ := S.dom0 a o h0
      exact P.dom a o' e
  refine ⟨Sim', ⟨P.sub, fun a o e n => P.frm a o e fun z => n (pown z), fun a ha => (P.new a ha).imp id (Or.imp pown id), bown, P.dom⟩, ?_⟩
  have q := P.res
  cases fr with
  | false => exact q
  | true =>
    obtain ⟨a, e, hn0, q1, q2⟩ := q
    refine ⟨a, e, hn0, q1, q2, fun z => ?_⟩
    obtain ⟨j, s, h1, h2, h3⟩ := bown a z
    obtain ⟨b, e2, q3, _⟩ := S.own j s h1 h2
    rw [h3] at e2; cases e2
    obtain ⟨o, eo⟩ := q3.dom
    rw [hn0] at eo; cases eo
end
theorem fn_read {C : Ct} {Φ : Orc} {f : Nat} {ga : EvOs} {σ : L2.St} {H : Hp} {Q : VK} {E : XK} (h : tE C (evFn Φ f ga) σ H Q) : tCall (spD C.K Φ f) [] E (tOs C ga) σ H Q := by
  obtain ⟨F, ρ, d, fr, ρ', S, hf, k⟩ := h
  obtain ⟨⟨os, ρ1⟩, h1, hf⟩ := obind hf
  obtain ⟨args, h2, hf⟩ := obind hf
  obtain ⟨hn, hf⟩ := Option.ite_none_right_eq_some.mp hf
  obtain ⟨⟨d', fr', outs⟩, h3, hf⟩ := obind hf
  cases hf
  refine ⟨F, ρ, os, ρ1, S, h1, fun F1 H1 vs S1 st1 r1 => ?_⟩
  show spD C.K Φ f (vs ++ []) H1 Q E
  rw [List.append_nil]
  refine ⟨F1, args, d, fr, outs, argsOk_of S1 r1 h2 hn, h3, fun F2 H2 v P => ?_⟩
  obtain ⟨S2, st2, r2⟩ := call_end S1 r1 h2 hn P
  exact k F2 H2 v S2 (st1.trans st2) (r2.base st1)
end EV

/-! EvK: defs that may ask repr (the guards empty); max of four. -/
namespace EV
open PySem PySem.Spec PyProof.Rows L2
/-- a def's promise where no repr is under way -/
structure FnG (P : Program) (w : World) (K : PySem.W.Frag) (mg : Str → Option Value) (base : Heap) (k : Nat) (f : Addr) (fd : FuncData) (ps : List Str) (sp : Sp) : Prop where
  len : ∀ vs H Q E, sp vs H Q E → vs.length = ps.length
  go : ∀ {A : Around} {outer : List Env} {s : Shared} {H : Hp} {args : Args} {us : List Value} {vs : List V} {Q : VK} {E : XK}, Room k A → A.guards = some [] → Env0 P w K mg base A outer s H → BindsTo s fd args (ps.zip us) → Vals vs us → sp vs H Q E →
    codeAny (model P w) A (.call (.ref f) args) (CR noCX outer P w H s Q E) s
section
variable {P : Program} {w : World} {K : PySem.W.Frag} {mg : Str → Option Value} {base : Heap} {k : Nat} {f : Addr} {fd : FuncData} {ps : List Str} {sp : Sp}
/-- a def by its body: fn_of with the guards -/
theorem fnG_of {name qual : Str} {params : Arguments} {body : List Stmt} {scope : Scope} {N : List Str} {dvs : List V} {kws : List (Str × V)} (D : FunD K name qual params body scope dvs kws f fd) (S : FnScope N ps scope) (len : ∀ vs H Q E, sp vs H Q E → vs.length = ps.length)
    (hbody : ∀ (cdv : Value) (A : Around) (outer : List Env) (s : Shared) (H : Hp) (vs : List V) (Q : VK) (E : XK), Room k (A.deeper (envOfC qual scope s.heap.objs.size f cdv)) → (A.deeper (envOfC qual scope s.heap.objs.size f cdv)).guards = some [] → sp vs H Q E →
      ∃ t, PSs (cxOf noCX P w K mg base N qual scope f cdv A outer s H E).nox body t ∧ t { nx := fun _ H' => Q .non H', rt := Q } (start N vs) H) : FnG P w K mg base (k + 1) f fd ps sp := by
  obtain ⟨oc, od, dV, kV, doc, pm, an, cdv, ct, osl, rfl, lk, hcd, _, _⟩ := D.ex
  refine ⟨len, ?_⟩
  intro A outer s H args us vs Q E hr hgd e0 hb rv hsp
  have lenV := len _ _ _ _ hsp
  have inK : K.In s.heap := e0.mod.kin.keeps fun b o e => (e0.bs b o e).1
  have noLim : s.heap.NoLimit := e0.mod.nolimit.keeps fun b o e => (e0.bs b o e).1
  have kinds : ∀ z ∈ ps.zip us, scope.names.lookup z.1 = some .local ∨ (scope.names.lookup z.1 = some .cell ∧ ((cellsFrom (s.heap.objs.size + 1) scope.names []).lookup z.1).isSome = true) := by
    rintro ⟨n, v⟩ hz
    rcases S.par n (List.of_mem_zip hz).1 with q | q
    · exact .inl q
    · exact .inr ⟨q, PySem.W.cellsFrom_some _ _ _ (.inl q)⟩
  refine codeAny_call_function hr.depth (inK _ _ lk) rfl S.co S.gen rfl (PySem.W.codeRec_of inK hcd) (hb _ _ _ _ ?_)
  refine wpAny_newFunctionEnv_cells S.kind kinds fun env he s1 hc => ?_
  subst he
  refine ⟨noLim.keeps hc.toInCall.keep, codeAny_func ?_⟩
  obtain ⟨t, ht, hq⟩ := hbody cdv A outer s H vs Q E (hr.deeper _) hgd hsp
  have I0 := inv_start (CX := noCX) (E := E) S hr.hd e0 lenV rv hc
  refine wpAny_mono (ht.nox.run [] s1 (start N vs) H _ I0 hq) ?_ fun _ _ z => z
  intro fl s' hs
  cases fl with
  | ret u => exact let ⟨v, σ', H', J, r, q⟩ := hs; ⟨v, H', J.os, J.bare, J.base, J.hok, r, q⟩
  | next => exact let ⟨σ', H', J, q⟩ := hs; ⟨V.non, H', J.os, J.bare, J.base, J.hok, rfl, q⟩
  | brk => exact let ⟨_, _, _, q⟩ := hs; q.elim
  | cont => exact let ⟨_, _, _, q⟩ := hs; q.elim
end
section
variable {X : Cx} {k : Nat} {f : Addr} {fd : FuncData} {ps : List Str} {sp : Sp} {E : XK} {x : Str} {p pos : Pos} {e : Expr} {es : List Expr} {t : TA}
theorem run_fnG {pins : List (Addr × Obj)} {σ : L2.St} {H : Hp} {s : Shared} {Q : VK} {us : List Value} {vs : List V} (G : FnG X.prog X.w X.K X.mg X.base k f fd ps sp) (hr : Room k X.A) (hgd : X.A.guards = some []) (hb : Binds X.K fd ps []) (I : Inv X pins σ H s) (r : Vals vs us) (h : sp vs H Q E) :
    wpAny (model X.prog X.w) X.A (call (.ref f) us) (EP X pins σ Q) X.xe s := by
  have lenU : us.length = ps.length := by rw [← r.length]; exact G.len _ _ _ _ h
  have hbd := hb s us I.kIn (by rw [List.append_nil]; exact lenU)
  rw [List.append_nil] at hbd
  refine wpAny_call (codeAny_mono (G.go hr hgd I.env0 hbd r h) ?_)
  intro res s' hq
  cases res with
  | error z => exact (show False from hq).elim
  | ok fl =>
    cases fl with
    | ret u => exact I.after hq
    | _ => exact (show False from hq).elim
theorem pe_fnG (G : FnG X.prog X.w X.K X.mg X.base k f fd ps sp) (hr : Room k X.A) (hgd : X.A.guards = some []) (hg : Gl X x) (hm : X.mg x = some (.ref f)) (hk : PySem.W.keepIn X.K (.ref f) = true) (hb : Binds X.K fd ps [])
    (ha : PA X (e :: es) t) (hdb : (x == ("__debug__" : Str)) = false) (hs : (e :: es).all noStar = true) : PE X (.Call (.Name x p) (e :: es) [] pos) (fun σ H Q => t σ H fun vs H1 => sp vs H1 Q E) := by
  rw [List.all_cons, Bool.and_eq_true] at hs
  refine ⟨fun pins s σ H Q I h => wpAny_Call_Name_kw (ld_glob I hg hm ?_ hdb)⟩
  exact PySem.W.callWith_K (h₀ := X.base) I.ok.mod.kin hk (thn (ha.run pos pins s σ H _ I h) fun us s1 ⟨vs, H1, I1, r, q⟩ => ⟨I1.kIn, run_fnG G hr hgd hb I1 r q⟩) (star_no hs.1) (star_plain hs.2)
theorem pe_fnG0 (G : FnG X.prog X.w X.K X.mg X.base k f fd ps sp) (hr : Room k X.A) (hgd : X.A.guards = some []) (hg : Gl X x) (hm : X.mg x = some (.ref f)) (hk : PySem.W.keepIn X.K (.ref f) = true) (hb : Binds X.K fd ps [])
    (hdb : (x == ("__debug__" : Str)) = false) : PE X (.Call (.Name x p) [] [] pos) (fun σ H Q => sp [] H Q E) :=
  ⟨fun pins s σ H Q I h => wpAny_Call_Name_kw (ld_glob I hg hm (PySem.W.callWith_K0 I.kIn hk (run_fnG (us := []) G hr hgd hb I .nil h)) hdb)⟩
end
/-! ### max(a, b, c, d) -/
section
variable {prog : Program} {w : World} {A : Around} {E : Value → Shared → Prop} {s : Shared}
theorem args_max4 (a b c d : Value) : argsOk "max" ⟨[a, b, c, d], []⟩ := by unfold argsOk; kernel_rfl
theorem four_bests {a b c d : Int} {t u x y : Tok} : ∃ i, argBest (fun i j => decide (numAt #[(a, t), (b, u), (c, x), (d, y)] i > numAt #[(a, t), (b, u), (c, x), (d, y)] j)) 3 = i ∧ ∃ v z, (intItems #[(a, t), (b, u), (c, x), (d, y)])[i]? = some (.int v z) ∧ v = maxL [a, b, c, d] := by
  have best := argBest_gt (numAt #[(a, t), (b, u), (c, x), (d, y)]) 3
  obtain ⟨h1, h2⟩ := best
  refine ⟨_, rfl, ?_⟩
  generalize argBest (fun i j => decide (numAt #[(a, t), (b, u), (c, x), (d, y)] i > numAt #[(a, t), (b, u), (c, x), (d, y)] j)) 3 = i at h1 h2
  have m := maxL_mem (ns := [a, b, c, d]) (by simp)
  have q0 := h2 0 (by omega)
  have q1 := h2 1 (by omega)
  have q2 := h2 2 (by omega)
  have q3 := h2 3 (by omega)
  have n0 : numAt #[(a, t), (b, u), (c, x), (d, y)] 0 = a := rfl
  have n1 : numAt #[(a, t), (b, u), (c, x), (d, y)] 1 = b := rfl
  have n2 : numAt #[(a, t), (b, u), (c, x), (d, y)] 2 = c := rfl
  have n3 : numAt #[(a, t), (b, u), (c, x), (d, y)] 3 = d := rfl
  rw [n0] at q0
  rw [n1] at q1
  rw [n2] at q2
  rw [n3] at q3
  have fin : ∀ v, v ∈ [a, b, c, d] → (∀ z ∈ [a, b, c, d], z ≤ v) → v = maxL [a, b, c, d] := fun v hv hz => Int.le_antisymm (m.2 v hv) (hz _ m.1)
  have all : ∀ v, a ≤ v → b ≤ v → c ≤ v → d ≤ v → ∀ z ∈ [a, b, c, d], z ≤ v := fun v e0 e1 e2 e3 z hz => by
    simp only [List.mem_cons, List.not_mem_nil, or_false] at hz
    rcases hz with rfl | rfl | rfl | rfl <;> assumption
  match i, h1 with
  | 0, _ => exact ⟨a, t, by simp [intItems], fin a (by simp) (all a q0 q1 q2 q3)⟩
  | 1, _ => exact ⟨b, u, by simp [intItems], fin b (by simp) (all b q0 q1 q2 q3)⟩
  | 2, _ => exact ⟨c, x, by simp [intItems], fin c (by simp) (all c q0 q1 q2 q3)⟩
  | 3, _ => exact ⟨d, y, by simp [intItems], fin d (by simp) (all d q0 q1 q2 q3)⟩
  | n + 4, h => exact absurd h (by omega)
theorem max_four {a b c d : Int} {t u x y : Tok} {Q : Value → Shared → Prop} (hh : A.handled = none)
    (h : ∀ h' tk z, (∀ c o, s.heap.get? c = some o → h'.get? c = some o) → Q (.int (maxL [a, b, c, d]) z) { s with heap := h', toks := tk }) :
    wpAny (model prog w) A (call (.builtin "max") [.int a t, .int b u, .int c x, .int d y]) Q E s := by
  have nm : (toString "max" ++ toString ".loop" : String) = "max.loop" := by decide
  have hT : (s.heap.push { cls := .type "tuple", data := .seq #[.int a t, .int b u, .int c x, .int d y] }).IsTuple s.heap.objs.size (intItems #[(a, t), (b, u), (c, x), (d, y)]) := ⟨_, Heap.get?_push_size _ rfl, rfl, 0, by simp [intItems]⟩
  have hsz : (s.heap.push { cls := .type "tuple", data := .seq #[.int a t, .int b u, .int c x, .int d y] }).objs.size = s.heap.objs.size + 1 := Heap.size_push ..
  refine call_function_tree F.kind_max F.plain_max F.entry_max (args_max4 _ _ _ _) ?_
  show wpAny _ A.in1 (Builtin.Builtins.bindParams "max" ["key", "default"] 0 ⟨[], []⟩ >>= _) _ _ s
  refine wpAny_bind (wpAny_of_eq (a := [none, none]) rfl ?_)
  show wpAny _ A.in1 (newTuple [.int a t, .int b u, .int c x, .int d y] >>= _) _ _ s
  refine wpAny_bind (wpAny_newObj_type ?_)
  refine wpAny_bind (wpAny_pyIter_tuple hT ?_)
  refine wpAny_bind (wpAny_newObj_type ?_)
  have W := Walks.tuple (prog := prog) (w := w) (A := A.in1) hh (s.heap.push { cls := .type "tuple", data := .seq #[.int a t, .int b u, .int c x, .int d y] }).objs.size s.heap.objs.size (by rw [hsz]; exact Nat.ne_of_lt (Nat.lt_succ_self _)) (intItems #[(a, t), (b, u), (c, x), (d, y)])
  rw [nm]
  refine wpAny_pure ⟨plainId_quiet F.plain_max_loop _, codeAny_max_loop_first W (fun i j => decide (numAt #[(a, t), (b, u), (c, x), (d, y)] i > numAt #[(a, t), (b, u), (c, x), (d, y)] j)) (CmpOf.ints_gt (numAt #[(a, t), (b, u), (c, x), (d, y)]) (fun _ _ => intItems_at)) _ ?_ (by simp [intItems]) ?_ (Heap.get?_push_size _ rfl) fun v h' tk hP hk => ?_⟩
  · simp only [List.mem_cons, List.not_mem_nil, or_false, not_or]
    rw [Heap.size_push, hsz]
    exact ⟨Nat.ne_of_gt (Nat.lt_succ_self _), Nat.ne_of_gt (Nat.lt_succ_of_lt (Nat.lt_succ_self _))⟩
  · refine W.frame _ _ _ ⟨⟨_, Heap.get?_push_size _ rfl, rfl, rfl⟩, hT.push _⟩ fun b _ o e => Heap.get?_push_of_some _ e
  · have hP' : (intItems #[(a, t), (b, u), (c, x), (d, y)])[argBest (fun i j => decide (numAt #[(a, t), (b, u), (c, x), (d, y)] i > numAt #[(a, t), (b, u), (c, x), (d, y)] j)) 3]? = some v := by
      have hsz2 : (intItems #[(a, t), (b, u), (c, x), (d, y)]).size - 1 = 3 := by simp [intItems]
      rw [← hsz2]
      exact hP
    obtain ⟨i, e1, m, z, e2, e3⟩ := four_bests (a := a) (b := b) (c := c) (d := d) (t := t) (u := u) (x := x) (y := y)
    rw [e1, e2] at hP'
    cases hP'
    rw [e3]
    refine h h' tk z fun b' o e => hk b' o ?_ ?_ ?_
    · intro hm
      have := Heap.lt_size e
      rcases List.mem_cons.mp hm with e1 | hm
      · rw [e1, hsz] at this
        exact Nat.lt_irrefl _ (Nat.lt_of_succ_lt this)
      · cases hm
    · have := Heap.lt_size e
      rw [Heap.size_push, hsz]
      exact Nat.ne_of_lt (Nat.lt_succ_of_lt (Nat.lt_succ_of_lt this))
    · exact Heap.get?_push_of_some _ (Heap.get?_push_of_some _ (Heap.get?_push_of_some _ e))
end
theorem RepWs.ints4 {K : PySem.W.Frag} {F : Addr → Prop} {H : Hp} {i j l m : Int} {vs : List V} (r : RepWs K F H [.int i, .int j, .int l, .int m] vs) : vs = [.int i, .int j, .int l, .int m] := by
  cases r with
  | cons h t =>
    cases h.int
    rw [t.ints3]
theorem bi_max {X : Cx} (hc : X.calm = true) : CallR X (.builtin "max") (rBi X.K (biD .max)) := by
  intro pins s σ H xs us Q I rs h
  obtain ⟨F, ds, d, fr, r, hg, k⟩ := h
  unfold biD at hg
  split at hg <;> try contradiction
  · cases hg
    cases r.ints2
    exact call_max2 hc pins s σ H _ us Q I rs ⟨_, _, rfl, k H _ (Ext.refl H) (.int _)⟩
  · cases hg
    cases r.ints4
    cases rs with
    | cons r1 rs =>
      cases rs with
      | cons r2 rs =>
        cases rs with
        | cons r3 rs =>
          cases rs with
          | cons r4 rs =>
            cases rs
            obtain ⟨t1, rfl⟩ := r1
            obtain ⟨t2, rfl⟩ := r2
            obtain ⟨t3, rfl⟩ := r3
            obtain ⟨t4, rfl⟩ := r4
            exact max_four (I.ok.hd hc) fun h' tk z hk => ⟨.int _, H, I.kept hk, ⟨_, rfl⟩, k H _ (Ext.refl H) (.int _)⟩
  · obtain ⟨ns, h2, hg⟩ := Option.bind_eq_some_iff.mp hg
    obtain ⟨hz, hg⟩ := Option.ite_none_left_eq_some.mp hg
    cases hg
    obtain ⟨v, rfl, w⟩ := r.one
    obtain ⟨a, vs, rfl, h1, q⟩ := w.lst
    cases ints_rep q h2
    obtain ⟨m1, m2⟩ := maxL_mem hz
    refine cr_max hc pins s σ H _ us Q I rs ⟨_, _, rfl, h1.sq, List.length_pos_iff.mpr hz, fun m h3 h4 => ?_⟩
    cases Int.le_antisymm (m2 _ h3) (h4 _ m1)
    exact k H _ (Ext.refl H) (.int _)
end EV

/-! EvS: len(set(xs)), xs a list of ints, texts, bools, None. -/
namespace EV
open PySem PySem.Spec PyProof.Rows L2
theorem firstL_snoc (ks : List Leaf) (k : Leaf) : firstL (ks ++ [k]) = stepL (firstL ks) k := by
  unfold firstL
  rw [List.foldl_append]
  rfl
theorem stepL_any (acc : List Leaf) (k j : Leaf) : (stepL acc k).any (fun z => decide (z = j)) = (acc.any (fun z => decide (z = j)) || decide (j = k)) := by
  unfold stepL
  by_cases h : acc.any (fun z => decide (z = k)) = true
  · rw [if_pos h]
    by_cases e : j = k
    · subst e; rw [h]; rfl
    · rw [decide_eq_false e, Bool.or_false]
  · rw [if_neg h, List.any_append]
    congr 1
    show (decide (k = j) || false) = decide (j = k)
    rw [Bool.or_false]
    by_cases e : j = k
    · subst e; rfl
    · rw [decide_eq_false e, decide_eq_false fun z => e z.symm]
theorem stepL_len (acc : List Leaf) (k : Leaf) : (stepL acc k).length = if acc.any (fun z => decide (z = k)) then acc.length else acc.length + 1 := by
  unfold stepL
  split
  · rfl
  · rw [List.length_append]; rfl
theorem firstL_len : ∀ ks : List Leaf, (firstL ks).length ≤ ks.length := fun ks => by
  have g : ∀ (l : List Leaf) (acc : List Leaf), (l.foldl stepL acc).length ≤ acc.length + l.length := fun l => by
    induction l with
    | nil => intro acc; exact Nat.le_refl _
    | cons k l ih =>
      intro acc
      have h1 := ih (stepL acc k)
      have h2 := stepL_len acc k
      rw [List.foldl_cons, List.length_cons]
      split at h2 <;> omega
  have := g ks []
  rw [List.length_nil, Nat.zero_add] at this
  exact this
theorem leaf_rel {K : PySem.W.Frag} {F : Addr → Prop} {H : Hp} {d : D} {v : V} {k : Leaf} {u : Value} (r : Rep K F H d v) (h : leafD d = some k) (ru : RelV v u) : Leaf.isOf k u = true ∧ u.scannable = true := by
  cases r with
  | non => cases h; cases ru; exact ⟨rfl, rfl⟩
  | bl b => cases h; cases ru; exact ⟨by unfold Leaf.isOf; exact decide_eq_true rfl, rfl⟩
  | int i => cases h; obtain ⟨t, rfl⟩ := ru; exact ⟨by unfold Leaf.isOf; exact decide_eq_true rfl, rfl⟩
  | str x => cases h; obtain ⟨t, rfl⟩ := ru; exact ⟨by unfold Leaf.isOf Value.isStrOf; simp, rfl⟩
  | _ => cases h

/-- the values and their keys -/
def LeafAt (us : List Value) (ks : List Leaf) : Prop := us.length = ks.length ∧ ∀ (i : Nat) (u : Value), us[i]? = some u → ∃ k, ks[i]? = some k ∧ Leaf.isOf k u = true ∧ u.scannable = true
theorem leavesD_at {K : PySem.W.Frag} {F : Addr → Prop} {H : Hp} : ∀ {ds : List D} {vs : List V} {us : List Value} {ks : List Leaf}, Reps K F H ds vs → Vals vs us → leavesD ds = some ks → LeafAt us ks
  | [], _, _, _, .nil, .nil, h => by
    have h : some [] = some _ := h
    cases h
    exact ⟨rfl, fun i u e => by simp at e⟩
  | d :: ds, _, _, ks, .cons r t, .cons ru tu, h => by
    obtain ⟨k, h1, h2⟩ := obind (show (leafD d >>= _) = some ks from h)
    obtain ⟨ks', h3, h4⟩ := obind h2
    cases h4
    obtain ⟨l, at_⟩ := leavesD_at t tu h3
    refine ⟨by rw [List.length_cons, List.length_cons, l], fun i u e => ?_⟩
    cases i with
    | zero =>
      simp at e
      subst e
      exact ⟨k, rfl, leaf_rel r h1 ru⟩
    | succ i =>
      obtain ⟨k', q1, q2⟩ := at_ i u (by simpa using e)
      exact ⟨k', by simpa using q1, q2⟩
section
variable {prog : Program} {w : World} {A : Around} {R : Result → Shared → Prop} {I : Addr} {fp wr : List Addr} {G : Array GenState → Array GenState → Prop} {n : Nat} {P : Nat → Value → Prop} {St : Nat → Shared → Prop}
abbrev SetL (prog : Program) (w : World) (h : Heap) (a : Addr) (ks : List Leaf) : Prop := h.SetOf (leafKind prog w) a (fun j => (firstL ks).any fun z => decide (z = j)) (firstL ks).length
theorem setOf_move {prog : Program} {w : World} {h h' : Heap} {a : Addr} {ks : List Leaf} (R : SetL prog w h a ks) (k : ∀ o, h.get? a = some o → h'.get? a = some o) : SetL prog w h' a ks := by
  obtain ⟨o, es, ep, t, ho, r⟩ := R
  exact ⟨o, es, ep, t, k o ho, r⟩
theorem loopLeaf (W : WalksS prog w A.in1 I fp wr G n P St) (a : Addr) (haf : a ∉ fp) (ks : List Leaf) (hn : ks.length = n) (hv : ∀ i v, P i v → ∃ k, ks[i]? = some k ∧ Leaf.isOf k v = true ∧ v.scannable = true) (hb : n + 1 < scanBound) :
    ∀ (m i : Nat) (s : Shared), n - i = m → i ≤ n → St i s → SetL prog w s.heap a (ks.take i) → (∀ s', Moved (a :: wr) G s s' → SetL prog w s'.heap a ks → R (.ok (.ret .none)) s') →
      codeAny (model prog w) A (.builtin "set.update.loop" ⟨[.ref a, .ref I], []⟩) R s := by
  have haw : a ∉ wr := fun z => haf (W.sub _ z)
  have more : ∀ b ∈ wr, b ∈ a :: wr := fun b hb => List.mem_cons_of_mem _ hb
  intro m
  induction m with
  | zero =>
    intro i s hm hi hst hS hR
    obtain rfl : i = n := by omega
    refine codeAny_builtin PyProof.Rows.F.entry_set_update_loop ?_
    rw [Around.under_plainId PyProof.Rows.F.plain_set_update_loop _]
    show wpAny _ A.in1 (pyNext (.ref I) >>= _) _ _ s
    refine wpAny_bind (W.done s _ _ hst fun s' mv => ?_)
    show wpAny _ A.in1 (ret Value.none) _ _ s'
    rw [← hn, List.take_length] at hS
    exact wpAny_pure (hR s' (mv.mono more) (setOf_move hS fun o e => mv.heap a o haw e))
  | succ m ih =>
    intro i s hm hi hst hS hR
    have hlt : i < n := by omega
    refine codeAny_builtin PyProof.Rows.F.entry_set_update_loop ?_
    rw [Around.under_plainId PyProof.Rows.F.plain_set_update_loop _]
    show wpAny _ A.in1 (pyNext (.ref I) >>= _) _ _ s
    refine wpAny_bind (W.item i s _ _ hlt hst fun v s' hP hst' mv => ?_)
    obtain ⟨k, hk, hkv, hsc⟩ := hv i v hP
    have hS' : SetL prog w s'.heap a (ks.take i) := setOf_move hS fun o e => mv.heap a o haw e
    show wpAny _ A.in1 (holding [v] (setAdd a v) >>= _) _ _ s'
    refine wpAny_bind (wpAny_holding ?_)
    unfold setAdd
    refine wpAny_holding (wpAny_bind ((leafKind prog w).pyHash hkv ?_))
    have room : (firstL (ks.take i)).length + 1 < scanBound := by
      have h1 := firstL_len (ks.take i)
      have h2 := List.length_take_le i ks
      omega
    refine wpAny_setAddHashed_of (knd := leafKind prog w) (s := { s' with toks := s'.toks + 1 }) hkv hsc hS' room fun h' sb hS2 => ?_
    have et : ks.take (i + 1) = ks.take i ++ [k] := by
      rw [List.take_add_one, hk]
      rfl
    have hSi : SetL prog w h' a (ks.take (i + 1)) := by
      rw [et]
      show Heap.SetOf _ _ _ (fun j => (firstL (ks.take i ++ [k])).any fun z => decide (z = j)) (firstL (ks.take i ++ [k])).length
      rw [firstL_snoc]
      have e1 : (fun j => (stepL (firstL (ks.take i)) k).any fun z => decide (z = j)) = fun j => (firstL (ks.take i)).any (fun z => decide (z = j)) || decide (j = k) := funext fun j => stepL_any _ _ _
      rw [e1, stepL_len]
      exact hS2
    refine wpAny_pure ⟨plainId_quiet PyProof.Rows.F.plain_set_update_loop _, ih (i + 1) _ (by omega) hlt (W.frame _ s' _ _ hst' (Nat.le_succ _) fun b hb o e => ?_) hSi fun s'' mv2 hS'' => ?_⟩
    · rw [sb.2 b (fun z : b = a => haf (z ▸ hb))]
      exact e
    · refine hR s'' (Moved.trans W.gtrans ((mv.mono more).then_heap (Nat.le_succ _) fun b o hb e => ?_) mv2) hS''
      rw [sb.2 b (fun z : b = a => hb (z ▸ List.mem_cons_self))]
      exact e
end
section
variable {prog : Program} {w : World} {A : Around} {E : Value → Shared → Prop} {s : Shared}
set_option maxHeartbeats 3200000 in
theorem call_set_leaves {l : Addr} {items : Array Value} {ks : List Leaf} {Q : Value → Shared → Prop} (hh : A.handled = none) (hl : s.heap.IsList l items) (hi : LeafAt items.toList ks) (hb : ks.length + 1 < scanBound)
    (h : ∀ (h' : Heap) (tk : Nat), SetL prog w h' s.heap.objs.size ks → (∀ b o, b < s.heap.objs.size → s.heap.get? b = some o → h'.get? b = some o) → Q (.ref s.heap.objs.size) { s with heap := h', toks := tk }) :
    wpAny (model prog w) A (call (.type "set") [.ref l]) Q E s := by
  obtain ⟨c, tl, hmro⟩ := PySem.F.called_set.mro
  have hmade := PySem.F.called_set.made
  have hsub := PySem.F.called_set.sub
  refine wpAny_call (codeAny_of_tree ?_)
  show wpAny _ _ (callAny (.type "set") _) _ _ _
  refine wpAny_pure ⟨Code.quiet_builtin _ (by decide +kernel), codeAny_builtin PySem.F.entry_type_call ?_⟩
  rw [Around.under_plain (weight_type_call_type "set" [.ref l] []) rfl]
  have h1 := PySem.F.called_set.notType
  have h2 := PySem.F.called_set.canCreate
  have hct := PySem.F.typeCall_set_1 (.ref l)
  repeat (any_goals (first | assumption | wp_step))
  refine codeAny_mono (code_set_new_1 (.ref l) (E := E) (Q₁ := fun obj s₁ => ∃ led : Bool, obj = .ref s.heap.objs.size ∧ s₁ = { s with heap := s.heap.push { cls := .type "set", dict := none, data := .set #[] 0 (.fresh 0 0 led) } }) fun led => ⟨led, rfl, rfl⟩) ?_
  intro r s₁ hr
  cases r with
  | error e => exact hr
  | ok fl =>
    cases fl with
    | ret obj =>
      obtain ⟨led, rfl, rfl⟩ := hr
      have hS : (s.heap.push { cls := .type "set", dict := none, data := .set #[] 0 (.fresh 0 0 led) }).get? s.heap.objs.size = some { cls := .type "set", dict := none, data := .set #[] 0 (.fresh 0 0 led) } := Heap.get?_push_size _ rfl
      have hT : Shared.TypeIs { s with heap := s.heap.push { cls := .type "set", dict := none, data := .set #[] 0 (.fresh 0 0 led) } } (.ref s.heap.objs.size) "set" := ⟨_, hS, rfl⟩
      have hli := PySem.F.called_set.init.lookup
      have hbi := PySem.F.called_set.init.bind (.ref s.heap.objs.size)
      repeat (any_goals (first | assumption | wp_step))
      refine codeAny_mono (codeAny_call_builtin (R := wants (fun r s₂ => r = .none ∧ ∃ h' tk, s₂ = { s with heap := h', toks := tk } ∧ SetL prog w h' s.heap.objs.size ks ∧ ∀ b o, b < s.heap.objs.size → s.heap.get? b = some o → h'.get? b = some o) E)
        PySem.F.called_set.init.plain PySem.F.entry_set_init (check_set_init_1 hT ?_)) ?_
      · obtain ⟨⟨ocls, odict, odata, oslots⟩, hol, hcl, nl, hdl⟩ := hl
        simp only at hcl hdl
        subst hcl hdl
        have hol' : (s.heap.push { cls := .type "set", dict := none, data := .set #[] 0 (.fresh 0 0 led) }).get? l = some { cls := .type "list", dict := odict, data := .seq items nl, slots := oslots } := Heap.get?_push_of_some _ hol
        have hsls := PySem.F.sub_list_set
        have hslf := PySem.F.sub_list_frozenset
        have hne : (Value.type "list" == Value.type "dict") = false := by decide
        have hl1 : (s.heap.push { cls := .type "set", dict := none, data := .set #[] 0 (.fresh 0 0 led) }).IsList l items := ⟨_, hol', rfl, nl, rfl⟩
        unfold Builtin.«set.__init__» noKeywords Builtin.Frozenset.updateFrom
        generalize hPI : pyIter = PI
        wp_walk
        subst hPI
        refine wpAny_pyIter_list hl1 ?_
        refine wpAny_bind (wpAny_runValue ?_)
        have hlS : l < s.heap.objs.size := Heap.lt_size hol
        have hh3 : A.in1.in1.in1.handled = none := by simp [hh]
        have apart : l ≠ (s.heap.push { cls := .type "set", dict := none, data := .set #[] 0 (.fresh 0 0 led) }).objs.size := by
          rw [Heap.size_push]
          exact Nat.ne_of_lt (Nat.lt_succ_of_lt hlS)
        have hSf : s.heap.objs.size ∉ [(s.heap.push { cls := .type "set", dict := none, data := .set #[] 0 (.fresh 0 0 led) }).objs.size, l] := fun z => by
          rcases List.mem_cons.mp z with z | z
          · rw [Heap.size_push] at z
            exact absurd z (Nat.ne_of_lt (Nat.lt_succ_self _))
          · exact absurd (List.mem_singleton.mp z) (Nat.ne_of_gt hlS)
        have hsz : ks.length = items.size := by rw [← hi.1, Array.length_toList]
        refine loopLeaf ((Walks.list hh3 _ l apart items).toS) s.heap.objs.size hSf ks hsz (fun i v hv => hi.2 i v (by rw [Array.getElem?_toList]; exact hv)) (by omega) (items.size - 0) 0 _ (by omega) (Nat.zero_le _) ⟨⟨_, Heap.get?_push_size _ rfl, rfl, rfl⟩, hl1.push _⟩ ?hS0 ?hR
        case hS0 =>
          have hget : ((s.heap.push { cls := .type "set", dict := none, data := .set #[] 0 (.fresh 0 0 led) }).push { cls := .type "list_iterator", data := .fields #[.ref l, .int 0 0] }).get? s.heap.objs.size = some { cls := .type "set", dict := none, data := .set #[] 0 (.fresh 0 0 led) } := Heap.get?_push_of_some _ hS
          exact PyProof.Rows.SetOf_congr ((PyProof.Rows.setObjOf_fresh (knd := leafKind prog w) led).setOf hget (by unfold scanBound; omega)) (fun _ => rfl) rfl
        case hR =>
          intro s' mv hS'
          obtain ⟨h', g', d', tk', os'⟩ := s'
          obtain rfl : g' = s.gens := mv.gens
          obtain rfl : d' = s.drawn := mv.drawn
          obtain rfl : os' = s.os := mv.os
          show wpAny _ _ _ _ _ _
          refine wpAny_pure ?_
          show wpAny _ _ (ret Value.none) _ _ _
          refine wpAny_pure ⟨rfl, h', tk', rfl, hS', fun b o hb e => mv.heap b o ?_ (Heap.get?_push_of_some _ (Heap.get?_push_of_some _ e))⟩
          intro z
          rcases List.mem_cons.mp z with z | z
          · exact Nat.ne_of_lt hb z
          · have z := List.mem_singleton.mp z
            rw [Heap.size_push] at z
            exact Nat.ne_of_lt (Nat.lt_succ_of_lt hb) z
      · intro r₂ s₂ hr₂
        cases r₂ with
        | error e => exact hr₂
        | ok fl₂ =>
          cases fl₂ with
          | ret r =>
            obtain ⟨rfl, h', tk, rfl, hS', hk'⟩ := hr₂
            repeat (any_goals (first | assumption | wp_step))
            exact h _ _ hS' hk'
          | _ => exact hr₂.elim
    | _ => exact hr.elim
end
theorem pe_lenSetD {X : Cx} {C : Ct} {a : Expr} {f : EvO} {p p2 q pos : Pos} (hc : X.calm = true) (hg : Gl X "len") (hm : X.mg "len" = none) (hg2 : Gl X "set") (hm2 : X.mg "set" = none) (ha : PE X a (tO C f)) (hn : noStar a = true) (hK : C.K = X.K) :
    PE X (.Call (.Name "len" p) [.Call (.Name "set" p2) [a] [] q] [] pos) (tE C (evBi (biD .lenset) (evConsO f evNilO))) := ⟨fun pins s σ H Q I h => by
  obtain ⟨F, ρ, d, fr, ρ', S, hf, k⟩ := h
  obtain ⟨⟨os, ρ1⟩, h1, hf⟩ := obind hf
  obtain ⟨ds, h2, hf⟩ := obind hf
  obtain ⟨⟨d', fr'⟩, h3, hf⟩ := obind hf
  cases hf
  obtain ⟨o, dx, rfl, h4, rfl, h5⟩ := ops1 h1 h2
  have h3 : lenset [dx] = some (d, fr) := h3
  unfold lenset at h3
  split at h3 <;> try contradiction
  rename_i xs hxs
  cases hxs
  obtain ⟨ks, h6, h7⟩ := Option.bind_eq_some_iff.mp h3
  obtain ⟨hb, h7⟩ := Option.ite_none_right_eq_some.mp h7
  cases h7
  refine Call_ (ld_blt I hg hm PySem.boot_len ?_)
  refine PyProof.Rows.callWith_builtin1 (PyProof.Rows.args_cons ?_ rfl) rfl rfl
  refine Call_ (ld_blt I hg2 hm2 PyProof.Rows.boot_set ?_)
  refine PyProof.Rows.callWith_type1 (PyProof.Rows.args_cons (thn (ha.run pins s σ H (fun x H1 => ∃ F1, Sim C F1 ρ' σ H1 ∧ Step ρ σ F H ρ' F1 H1 ∧ ResO C.K F1 H1 σ o x) I ⟨F, ρ, o, ρ', S, h4, fun F1 H1 v S1 st1 r1 => ⟨F1, S1, st1, r1⟩⟩)
    fun v s1 ⟨x, H1, I1, r1, F1, S1, st1, q1⟩ => PyProof.Rows.args_nil ?_) (star_no hn)) (star_no hn) rfl
  have w := q1.get S1 h5
  obtain ⟨a, vs, rfl, hrd, hrep⟩ := w.lst
  cases r1
  obtain ⟨its, rv, pl, hz⟩ := I1.list (show SqL X.K H1 a vs from hK ▸ hrd.sq)
  refine call_set_leaves (I1.ok.hd hc) pl.isList (by simpa using leavesD_at hrep rv h6) hb fun h' tk hS hk => ?_
  refine PyProof.Rows.args_nil ?_
  obtain ⟨oo, es, ep, t, ho, hex, hd, _, _, _, hft, hn2⟩ := hS
  have I2 : Inv X pins σ H1 { s1 with heap := h', toks := tk } := I1.kept fun b o e => hk b o (Heap.lt_size e) e
  have hfl := firstL_len ks
  have hsc : scanBound = 4096 := rfl
  refine call_len_set ho hex hd hft (by rw [hn2]; omega) ⟨.int (firstL ks).length, H1, I2.tok _, ⟨_, by rw [hn2]⟩, k F1 H1 _ S1 st1 (.int _)⟩⟩
end EV

/-! EvL: the translation from the text to the small language; each answer comes with its proof. Expressions. -/
namespace EV
open PySem PySem.Spec PyProof.Rows L2
structure Pr where
  defs : List (Str × List Bool)
  consts : List (Str × D)
  free : List Str
structure SC where
  N : List Str
  sc : Scope
  fs : Option Scope
def SC.fn (c : SC) (x : Str) : Bool := match c.fs with
  | none => true
  | some s => s.names.lookup x == some .cell
structure GOk (pr : Pr) (Φ : Orc) (k : Nat) (P : Program) (w : World) (K : PySem.W.Frag) (mg : Str → Option Value) (base : Heap) : Prop where
  fns : ∀ f x bs, pr.defs[f]? = some (x, bs) → ∃ (a : Addr) (fd : FuncData) (ps : List Str), mg x = some (.ref a) ∧ PySem.W.keepIn K (.ref a) = true ∧ Binds K fd ps [] ∧ FnG P w K mg base k a fd ps (spD K Φ f)
  cst : ∀ x d, pr.consts.lookup x = some d → ∃ u v, mg x = some u ∧ RelV v u ∧ ∀ F H, Rep K F H d v
  free : ∀ x, x ∈ pr.free → mg x = none
structure XOk (c : SC) (k : Nat) (X : Cx) : Prop where
  N : X.N = c.N
  sc : X.env.scope = c.sc
  nd : X.N.Nodup
  calm : X.calm = true
  fn : ∀ x, c.fn x = true → X.fn x = true
  room : Room k X.A
  guards : X.A.guards = some []
  xe : X.xe = fun _ _ => False
  kind : X.env.scope.kind = .function
structure Hy (pr : Pr) (c : SC) (Φ : Orc) (k : Nat) (X : Cx) (C : Ct) : Prop where
  g : GOk pr Φ k X.prog X.w X.K X.mg X.base
  x : XOk c k X
  K : C.K = X.K
theorem Hy.u {pr : Pr} {c : SC} {Φ : Orc} {k : Nat} {X : Cx} {C : Ct} (h : Hy pr c Φ k X C) : X.A.units + 128 < cLine := by have := h.x.room.un; omega
def GoodE (pr : Pr) (c : SC) (e : Expr) (e' : Ex) : Prop := ∀ {Φ : Orc} {k : Nat} {X : Cx} {C : Ct}, Hy pr c Φ k X C → PE X e (tE C (evE Φ e')) ∧ ∀ i, e' = .var i → PE X e (tVar i)
abbrev CE (pr : Pr) (c : SC) (e : Expr) := Option {e' : Ex // GoodE pr c e e'}
def GoodT (pr : Pr) (c : SC) (e : Expr) (e' : Ex) : Prop := ∀ {Φ : Orc} {k : Nat} {X : Cx} {C : Ct}, Hy pr c Φ k X C → PT X e (tB' C (evE Φ e'))
abbrev CT (pr : Pr) (c : SC) (e : Expr) := Option {e' : Ex // GoodT pr c e e'}
theorem opnd_of {X : Cx} {C : Ct} {e : Expr} {e' : Ex} {f : EvR} (h : PE X e (tE C f)) (hv : ∀ i, e' = .var i → PE X e (tVar i)) : PE X e (tO C (opnd e' f)) := by
  cases e' with
  | var i => exact pe_varO (hv i rfl)
  | _ => exact pe_O h
def isVar : Ex → Bool
  | .var _ => true
  | _ => false
section
variable {pr : Pr} {c : SC} {e a b : Expr} {es : List Expr} {e' a' b' : Ex} {es' : List Ex} {pos p2 p3 : Pos}
/-- of anything but a name -/
theorem GoodE.of (hv : isVar e' = false) (h : ∀ {Φ : Orc} {k : Nat} {X : Cx} {C : Ct}, Hy pr c Φ k X C → PE X e (tE C (evE Φ e'))) : GoodE pr c e e' := fun hy => ⟨h hy, fun i z => by rw [z] at hv; cases hv⟩
theorem GoodE.o (h : GoodE pr c e e') {Φ : Orc} {k : Nat} {X : Cx} {C : Ct} (hy : Hy pr c Φ k X C) : PE X e (tO C (opnd e' (evE Φ e'))) := opnd_of (h hy).1 (h hy).2
theorem good_cst {d : D} {v : V} (h : ∀ X : Cx, PE X e (tC v)) (r : ∀ K F H, Rep K F H d v) : GoodE pr c e (.cst d) := GoodE.of rfl fun {Φ k X C} hy => pe_C (h X) (fun F H => r C.K F H) (fun ρ => rfl)
def cConst (pr : Pr) (c : SC) (v : Const) (j : Nat) (pos : Pos) : CE pr c (.Constant v j pos) := match v with
  | .int i => some ⟨.cst (.int i), good_cst (fun _ => pe_int) fun _ _ _ => .int i⟩
  | .str x => some ⟨.cst (.str x), good_cst (fun _ => pe_str) fun _ _ _ => .str x⟩
  | .bool b => some ⟨.cst (.bool b), good_cst (fun _ => pe_bl) fun _ _ _ => .bl b⟩
  | .none => some ⟨.cst .none, good_cst (fun _ => pe_non) fun _ _ _ => .non⟩
  | _ => none
/-! names -/
def visB (sc : Scope) (x : Str) : Bool := match sc.names.lookup x with
  | some .local => true
  | some .cell => true
  | some .free => true
  | _ => false
def locB (sc : Scope) (x : Str) : Bool := match sc.names.lookup x with
  | some .local => true
  | some .cell => true
  | _ => false
def isLoc (sc : Scope) (x : Str) : Bool := match sc.names.lookup x with
  | some .local => true
  | _ => false
def glB (sc : Scope) (x : Str) : Bool := match sc.names.lookup x with
  | some .globalImplicit => true
  | _ => false
def plainN (x : Str) : Bool := !(x == ("__debug__" : Str)) && (!(x == ("__classdict__" : Str)) && !(x == ("__name__" : Str)))
theorem plainN_of {x : Str} (h : plainN x = true) : (x == ("__debug__" : Str)) = false ∧ (x == ("__classdict__" : Str)) = false ∧ x ≠ "__name__" := by
  unfold plainN at h
  simp only [Bool.and_eq_true, Bool.not_eq_true'] at h
  exact ⟨h.1, h.2.1, fun z => by rw [z] at h; simp at h⟩
theorem visB_of {sc : Scope} {x : Str} (h : visB sc x = true) : Vis sc x := by
  unfold visB at h
  split at h
  · rename_i e; exact .inl e
  · rename_i e; exact .inr (.inl e)
  · rename_i e; exact .inr (.inr e)
  · cases h
theorem locB_of {sc : Scope} {x : Str} (h : locB sc x = true) : Loc sc x := by
  unfold locB at h
  split at h
  · rename_i e; exact .inl e
  · rename_i e; exact .inr e
  · cases h
theorem isLoc_of {sc : Scope} {x : Str} (h : isLoc sc x = true) : sc.names.lookup x = some .local := by
  unfold isLoc at h
  split at h
  · rename_i e; exact e
  · cases h
theorem glB_of {sc : Scope} {x : Str} (h : glB sc x = true) : sc.names.lookup x = some .globalImplicit := by
  unfold glB at h
  split at h
  · rename_i e; exact e
  · cases h
theorem Hy.gl {Φ : Orc} {k : Nat} {X : Cx} {C : Ct} (hy : Hy pr c Φ k X C) {x : Str} (h : glB c.sc x = true) : Gl X x := by
  have := glB_of h
  rw [← hy.x.sc] at this
  exact this
theorem Hy.vis {Φ : Orc} {k : Nat} {X : Cx} {C : Ct} (hy : Hy pr c Φ k X C) {x : Str} (h : visB c.sc x = true) : Vis X.env.scope x := by rw [hy.x.sc]; exact visB_of h
theorem Hy.loc {Φ : Orc} {k : Nat} {X : Cx} {C : Ct} (hy : Hy pr c Φ k X C) {x : Str} (h : locB c.sc x = true) : Loc X.env.scope x := by rw [hy.x.sc]; exact locB_of h
theorem Hy.at {Φ : Orc} {k : Nat} {X : Cx} {C : Ct} (hy : Hy pr c Φ k X C) {x : Str} {i : Nat} (h : c.N[i]? = some x) : X.N[i]? = some x := by rw [hy.x.N]; exact h
def placeOf (c : SC) (x : Str) : Nat := c.N.findIdx (· == x)
theorem good_var {x : Str} {i : Nat} (h1 : c.N[i]? = some x) (h2 : visB c.sc x = true) (h3 : plainN x = true) : GoodE pr c (.Name x pos) (.var i) := fun {Φ k X C} hy => by
  have h : PE X (.Name x pos) (tVar i) := pe_var (hy.at h1) (hy.vis h2) (plainN_of h3).1 (plainN_of h3).2.1
  exact ⟨pe_varE h, fun j z => by cases z; exact h⟩
theorem good_glo {x : Str} {d : D} (h1 : glB c.sc x = true) (h2 : plainN x = true) (h3 : pr.consts.lookup x = some d) : GoodE pr c (.Name x pos) (.glo x d) := GoodE.of rfl fun {Φ k X C} hy => by
  obtain ⟨u, v, q1, q2, q3⟩ := hy.g.cst x d h3
  exact pe_C (pe_glob (hy.gl h1) q1 q2 (plainN_of h2).1) (fun F H => by rw [hy.K]; exact q3 F H) fun ρ => rfl
def cName (pr : Pr) (c : SC) (x : Str) (pos : Pos) : CE pr c (.Name x pos) :=
  if h : c.N[placeOf c x]? = some x ∧ visB c.sc x = true ∧ plainN x = true then some ⟨.var (placeOf c x), good_var h.1 h.2.1 h.2.2⟩
  else if h : glB c.sc x = true ∧ plainN x = true then (match hd : pr.consts.lookup x with
    | some d => some ⟨.glo x d, good_glo h.1 h.2 hd⟩
    | none => none)
  else none
/-! lists of expressions -/
inductive Goods (pr : Pr) (c : SC) : List Expr → List Ex → Prop
  | nil : Goods pr c [] []
  | cons {e : Expr} {e' : Ex} {es : List Expr} {es' : List Ex} : GoodE pr c e e' → noStar e = true → Goods pr c es es' → Goods pr c (e :: es) (e' :: es')
def cEs (pr : Pr) (c : SC) (f : (e : Expr) → CE pr c e) : (es : List Expr) → Option {es' : List Ex // Goods pr c es es'}
  | [] => some ⟨[], .nil⟩
  | e :: es => match f e with
    | none => none
    | some e' => match cEs pr c f es with
      | none => none
      | some es' => if h : noStar e = true then some ⟨e'.1 :: es'.1, .cons e'.2 h es'.2⟩ else none
theorem Goods.no : ∀ {es : List Expr} {es' : List Ex}, Goods pr c es es' → es.all noStar = true
  | _, _, .nil => rfl
  | _, _, .cons _ h t => by rw [List.all_cons, h, Goods.no t]; rfl
theorem Goods.vs {Φ : Orc} {k : Nat} {X : Cx} {C : Ct} (hy : Hy pr c Φ k X C) : ∀ {es : List Expr} {es' : List Ex}, Goods pr c es es' → PA X es (tVs C (evVs Φ es'))
  | _, _, .nil => pa_nilV
  | _, _, .cons h hn t => pa_consV (h hy).1 (Goods.vs hy t) hn
theorem Goods.os {Φ : Orc} {k : Nat} {X : Cx} {C : Ct} (hy : Hy pr c Φ k X C) : ∀ {es : List Expr} {es' : List Ex}, Goods pr c es es' → PA X es (tOs C (evOs Φ es'))
  | _, _, .nil => pa_nilO
  | _, _, .cons h hn t => pa_consO (GoodE.o h hy) (Goods.os hy t) hn
theorem Goods.ps {Φ : Orc} {k : Nat} {X : Cx} {C : Ct} (hy : Hy pr c Φ k X C) : ∀ {es : List Expr} {es' : List Ex}, Goods pr c es es' → PA X es (tPs C (evPs Φ es'))
  | _, _, .nil => pa_nilP
  | _, _, .cons h hn t => pa_consP (h hy).1 (Goods.ps hy t) hn
theorem Goods.as {Φ : Orc} {k : Nat} {X : Cx} {C : Ct} (hy : Hy pr c Φ k X C) : ∀ {es : List Expr} {es' : List Ex} (bs : List Bool), Goods pr c es es' → PA X es (tOs C (evAs Φ bs es'))
  | _, _, bs, .nil => by cases bs <;> exact pa_nilO
  | _, _, bs, .cons (e := e) (e' := e') h hn t => by
    have q : PE X e (tO C (if bs.headD false then opnd e' (evE Φ e') else evFrz (evE Φ e'))) := by
      cases bs.headD false with
      | true => exact GoodE.o h hy
      | false => exact pe_O (h hy).1
    have z := pa_consO q (Goods.as hy bs.tail t) hn
    cases bs <;> exact z
/-! lists with stars -/
def isStar : Expr → Bool
  | .Starred _ _ => true
  | _ => false
inductive GoodSs (pr : Pr) (c : SC) : List Expr → List Bool → List Ex → Prop
  | nil : GoodSs pr c [] [] []
  | cons {e : Expr} {e' : Ex} {es : List Expr} {bs : List Bool} {es' : List Ex} : GoodE pr c e e' → noStar e = true → GoodSs pr c es bs es' → GoodSs pr c (e :: es) (false :: bs) (e' :: es')
  | star {e : Expr} {e' : Ex} {p : Pos} {es : List Expr} {bs : List Bool} {es' : List Ex} : GoodE pr c e e' → GoodSs pr c es bs es' → GoodSs pr c (.Starred e p :: es) (true :: bs) (e' :: es')
def cSs (pr : Pr) (c : SC) (f : (e : Expr) → CE pr c e) : (es : List Expr) → Option {x : List Bool × List Ex // GoodSs pr c es x.1 x.2}
  | [] => some ⟨([], []), .nil⟩
  | .Starred e p :: es => match f e with
    | none => none
    | some e' => match cSs pr c f es with
      | none => none
      | some es' => some ⟨(true :: es'.1.1, e'.1 :: es'.1.2), .star e'.2 es'.2⟩
  | e :: es => match f e with
    | none => none
    | some e' => match cSs pr c f es with
      | none => none
      | some es' => if h : noStar e = true then some ⟨(false :: es'.1.1, e'.1 :: es'.1.2), .cons e'.2 h es'.2⟩ else none
theorem GoodSs.pa {Φ : Orc} {k : Nat} {X : Cx} {C : Ct} (hy : Hy pr c Φ k X C) : ∀ {es : List Expr} {bs : List Bool} {es' : List Ex}, GoodSs pr c es bs es' → PA X es (tSs C bs (evVs Φ es'))
  | _, _, _, .nil => pa_nilS
  | _, _, _, .cons h hn t => pa_consS (h hy).1 (GoodSs.pa hy t) hn
  | _, _, _, .star h t => pa_starS hy.K (h hy).1 (GoodSs.pa hy t)
def cTuple (pr : Pr) (c : SC) (f : (e : Expr) → CE pr c e) (es : List Expr) (j : Nat) (pos : Pos) : CE pr c (.Tuple es j pos) :=
  if es.any isStar then (match cSs pr c f es with
    | none => none
    | some x => some ⟨.star x.1.1 x.1.2, GoodE.of rfl fun hy => pe_starD (x.2.pa hy)⟩)
  else match cEs pr c f es with
    | none => none
    | some x => some ⟨.tup x.1, GoodE.of rfl fun hy => pe_tupD (x.2.vs hy)⟩
def cList (pr : Pr) (c : SC) (f : (e : Expr) → CE pr c e) (es : List Expr) (pos : Pos) : CE pr c (.List es pos) :=
  match cEs pr c f es with
    | none => none
    | some x => some ⟨.lst x.1, GoodE.of rfl fun hy => pe_lstD (x.2.vs hy)⟩
/-! operators -/
def opTo : (op : Operator) → Option {o : Op2 // opOf o = op}
  | .Add => some ⟨.add, rfl⟩
  | .Sub => some ⟨.sub, rfl⟩
  | .Mult => some ⟨.mul, rfl⟩
  | .FloorDiv => some ⟨.fdiv, rfl⟩
  | .Mod => some ⟨.mod, rfl⟩
  | .Pow => some ⟨.pow, rfl⟩
  | _ => none
def cpTo : (op : CmpOp) → {o : Cp // cpOf o = op}
  | .Eq => ⟨.eq, rfl⟩
  | .NotEq => ⟨.ne, rfl⟩
  | .Lt => ⟨.lt, rfl⟩
  | .LtE => ⟨.le, rfl⟩
  | .Gt => ⟨.gt, rfl⟩
  | .GtE => ⟨.ge, rfl⟩
  | .Is => ⟨.is, rfl⟩
  | .IsNot => ⟨.isNot, rfl⟩
  | .In => ⟨.isin, rfl⟩
  | .NotIn => ⟨.notIn, rfl⟩
theorem good_bin {op : Operator} (o : {o : Op2 // opOf o = op}) (ha : GoodE pr c a a') (hb : GoodE pr c b b') : GoodE pr c (.BinOp a op b pos) (.bin o.1 a' b') := GoodE.of rfl fun {Φ k X C} hy => by
  have r := op_binD (X := X) o.1
  rw [o.2, ← hy.K] at r
  exact pe_bin r (GoodE.o ha hy) (GoodE.o hb hy)
theorem good_cmp {op : CmpOp} (ha : GoodE pr c a a') (hb : GoodE pr c b b') (hm : behindInMarks op b = false) : GoodE pr c (.Compare a [op] [b] pos) (.cmp (cpTo op).1 a' b') := GoodE.of rfl fun {Φ k X C} hy => by
  have r := op_cmpD (X := X) hy.u (cpTo op).1
  rw [(cpTo op).2, ← hy.K] at r
  exact pe_cmpD r (GoodE.o ha hy) (GoodE.o hb hy) hm
theorem goodT_cmp {op : CmpOp} (ha : GoodE pr c a a') (hb : GoodE pr c b b') (hm : behindInMarks op b = false) : GoodT pr c (.Compare a [op] [b] pos) (.cmp (cpTo op).1 a' b') := fun {Φ k X C} hy => by
  have r := op_cmpD (X := X) hy.u (cpTo op).1
  rw [(cpTo op).2, ← hy.K] at r
  exact pt_cmpD r (GoodE.o ha hy) (GoodE.o hb hy) hm
variable {e3 : Expr} {e3' : Ex}
theorem good_chn {op op2 : CmpOp} (ha : GoodE pr c a a') (hb : GoodE pr c b b') (h3 : GoodE pr c e3 e3') (hm : lastMarks [op, op2] [b, e3] = false) : GoodE pr c (.Compare a [op, op2] [b, e3] pos) (.chn (cpTo op).1 (cpTo op2).1 a' b' e3') := GoodE.of rfl fun {Φ k X C} hy => by
  have r := op_cmpD (X := X) hy.u (cpTo op).1
  have r2 := op_cmpD (X := X) hy.u (cpTo op2).1
  rw [(cpTo op).2] at r
  rw [(cpTo op2).2] at r2
  exact pe_chnD r r2 (ha hy).1 (hb hy).1 (h3 hy).1 hm hy.K
theorem goodT_chn {op op2 : CmpOp} (ha : GoodE pr c a a') (hb : GoodE pr c b b') (h3 : GoodE pr c e3 e3') (hm : lastMarks [op, op2] [b, e3] = false) : GoodT pr c (.Compare a [op, op2] [b, e3] pos) (.chn (cpTo op).1 (cpTo op2).1 a' b' e3') := fun {Φ k X C} hy => by
  have r := op_cmpD (X := X) hy.u (cpTo op).1
  have r2 := op_cmpD (X := X) hy.u (cpTo op2).1
  rw [(cpTo op).2] at r
  rw [(cpTo op2).2] at r2
  exact pt_chnD r r2 (ha hy).1 (hb hy).1 (h3 hy).1 hm hy.K
def cCmp (pr : Pr) (c : SC) (f : (e : Expr) → CE pr c e) (a : Expr) (ops : List CmpOp) (bs : List Expr) (pos : Pos) : CE pr c (.Compare a ops bs pos) := match ops, bs with
  | [op], [b] => match f a with
    | none => none
    | some a' => match f b with
      | none => none
      | some b' => if h : behindInMarks op b = false then some ⟨.cmp (cpTo op).1 a'.1 b'.1, good_cmp a'.2 b'.2 h⟩ else none
  | [op, op2], [b, e3] => match f a with
    | none => none
    | some a' => match f b with
      | none => none
      | some b' => match f e3 with
        | none => none
        | some c' => if h : lastMarks [op, op2] [b, e3] = false then some ⟨.chn (cpTo op).1 (cpTo op2).1 a'.1 b'.1 c'.1, good_chn a'.2 b'.2 c'.2 h⟩ else none
  | _, _ => none
def cCmpT (pr : Pr) (c : SC) (f : (e : Expr) → CE pr c e) (a : Expr) (ops : List CmpOp) (bs : List Expr) (pos : Pos) : CT pr c (.Compare a ops bs pos) := match ops, bs with
  | [op], [b] => match f a with
    | none => none
    | some a' => match f b with
      | none => none
      | some b' => if h : behindInMarks op b = false then some ⟨.cmp (cpTo op).1 a'.1 b'.1, goodT_cmp a'.2 b'.2 h⟩ else none
  | [op, op2], [b, e3] => match f a with
    | none => none
    | some a' => match f b with
      | none => none
      | some b' => match f e3 with
        | none => none
        | some c' => if h : lastMarks [op, op2] [b, e3] = false then some ⟨.chn (cpTo op).1 (cpTo op2).1 a'.1 b'.1 c'.1, goodT_chn a'.2 b'.2 c'.2 h⟩ else none
  | _, _ => none
/-! and, or, not, if else -/
def cBool (pr : Pr) (c : SC) (f : (e : Expr) → CE pr c e) (op : BoolOp) (pos : Pos) : (vs : List Expr) → CE pr c (.BoolOp op vs pos)
  | [] => none
  | [a] => match f a with
    | none => none
    | some a' => some ⟨a'.1, fun hy => ⟨pe_one (a'.2 hy).1, fun i z => pe_one ((a'.2 hy).2 i z)⟩⟩
  | a :: b :: rest => match f a with
    | none => none
    | some a' => match cBool pr c f op pos (b :: rest) with
      | none => none
      | some r => match op, r with
        | .And, r => some ⟨.and a'.1 r.1, GoodE.of rfl fun hy => pe_andD (a'.2 hy).1 (r.2 hy).1⟩
        | .Or, r => some ⟨.or a'.1 r.1, GoodE.of rfl fun hy => pe_orD (a'.2 hy).1 (r.2 hy).1⟩
def GoodW (pr : Pr) (c : SC) (e : Expr) (e' : Ex) : Prop := ∀ {Φ : Orc} {k : Nat} {X : Cx} {C : Ct}, Hy pr c Φ k X C → PW X e (tB' C (evE Φ e'))
def cBoolW (pr : Pr) (c : SC) (f : (e : Expr) → CT pr c e) (op : BoolOp) (pos : Pos) : (vs : List Expr) → Option {e' : Ex // GoodW pr c (.BoolOp op vs pos) e'}
  | [] => none
  | [a] => match f a with
    | none => none
    | some a' => match op with
      | .And => some ⟨a'.1, fun hy => pw_and1 (a'.2 hy)⟩
      | .Or => some ⟨a'.1, fun hy => pw_or1 (a'.2 hy)⟩
  | a :: b :: rest => match f a with
    | none => none
    | some a' => match cBoolW pr c f op pos (b :: rest) with
      | none => none
      | some r => match op, r with
        | .And, r => some ⟨.and a'.1 r.1, fun hy => pw_andD (a'.2 hy) (r.2 hy)⟩
        | .Or, r => some ⟨.or a'.1 r.1, fun hy => pw_orD (a'.2 hy) (r.2 hy)⟩
def cUn (pr : Pr) (c : SC) (f : (e : Expr) → CE pr c e) (op : UnaryOp) (a : Expr) (pos : Pos) : CE pr c (.UnaryOp op a pos) := match op with
  | .Not => match f a with
    | none => none
    | some a' => some ⟨.not a'.1, GoodE.of rfl fun hy => pe_notD (a'.2 hy).1⟩
  | .USub => match f a with
    | none => none
    | some a' => some ⟨.neg a'.1, GoodE.of rfl fun hy => pe_negD (a'.2 hy).1⟩
  | _ => none
def cIf (pr : Pr) (c : SC) (f : (e : Expr) → CE pr c e) (g : (e : Expr) → CT pr c e) (t a b : Expr) (pos : Pos) : CE pr c (.IfExp t a b pos) := match g t with
  | none => none
  | some t' => match f a with
    | none => none
    | some a' => match f b with
      | none => none
      | some b' => some ⟨.ite t'.1 a'.1 b'.1, GoodE.of rfl fun hy => pe_iteD (t'.2 hy) (a'.2 hy).1 (b'.2 hy).1⟩
/-! subscripts -/
def plainIxB : Expr → Bool
  | .Slice _ _ none _ => false
  | _ => true
theorem plainIx_of (h : plainIxB b = true) : PlainIx b := by
  intro o i
  cases b with
  | Slice lo hi st p => cases st with
    | none => cases h
    | some _ => rfl
  | _ => rfl
def GoodP (pr : Pr) (c : SC) (o : Option Expr) (bl : Bool) (e' : Ex) : Prop := ∀ {Φ : Orc} {k : Nat} {X : Cx} {C : Ct}, Hy pr c Φ k X C → PO X o (tP C (evPart bl (evE Φ e')))
def cPart (pr : Pr) (c : SC) (f : (e : Expr) → CE pr c e) : (o : Option Expr) → Option {x : Bool × Ex // GoodP pr c o x.1 x.2}
  | none => some ⟨(false, .cst .none), fun hy => po_noneD⟩
  | some e => match f e with
    | none => none
    | some e' => some ⟨(true, e'.1), fun hy => po_someD (e'.2 hy).1⟩
def cSlice (pr : Pr) (c : SC) (f : (e : Expr) → CE pr c e) (a : Expr) (lo hi : Option Expr) (p2 pos : Pos) : CE pr c (.Subscript a (.Slice lo hi none p2) pos) := match f a with
  | none => none
  | some a' => match cPart pr c f lo with
    | none => none
    | some l => match cPart pr c f hi with
      | none => none
      | some h => some ⟨.sl l.1.1 h.1.1 a'.1 l.1.2 h.1.2, GoodE.of rfl fun hy => pe_slD (GoodE.o a'.2 hy) (l.2 hy) (h.2 hy) hy.K⟩
def cIx (pr : Pr) (c : SC) (f : (e : Expr) → CE pr c e) (a i : Expr) (pos : Pos) : CE pr c (.Subscript a i pos) := match f a with
  | none => none
  | some a' => match f i with
    | none => none
    | some i' => if h : plainIxB i = true then some ⟨.ix a'.1 i'.1, GoodE.of rfl fun hy => pe_ixD (GoodE.o a'.2 hy) (GoodE.o i'.2 hy) (plainIx_of h) hy.K⟩ else none
/-! calls -/
structure BiOk (x : Str) (p : Bi) : Prop where
  ok : (∃ id : String, bootBuiltins x = some (.builtin id) ∧ ∀ X : Cx, X.calm = true → X.A.guards = some [] → X.A.units + 128 < cLine → CallR X (.builtin id) (rBi X.K (biD p))) ∨
    ∃ T : String, bootBuiltins x = some (.type T) ∧ ∀ X : Cx, X.calm = true → X.A.guards = some [] → X.A.units + 128 < cLine → CallR X (.type T) (rBi X.K (biD p))
def biTab (x : Str) : Option {p : Bi // BiOk x p} :=
  if h : x = ("len" : Str) then some ⟨.len, ⟨.inl ⟨"len", by rw [h]; exact PySem.boot_len, fun X _ _ _ => bi_len⟩⟩⟩
  else if h : x = ("abs" : Str) then some ⟨.abs, ⟨.inl ⟨"abs", by rw [h]; decide +kernel, fun X _ _ _ => bi_abs⟩⟩⟩
  else if h : x = ("int" : Str) then some ⟨.int, ⟨.inr ⟨"int", by rw [h]; decide +kernel, fun X _ _ _ => bi_int⟩⟩⟩
  else if h : x = ("tuple" : Str) then some ⟨.tuple, ⟨.inr ⟨"tuple", by rw [h]; decide +kernel, fun X _ _ _ => bi_tuple⟩⟩⟩
  else if h : x = ("list" : Str) then some ⟨.list, ⟨.inr ⟨"list", by rw [h]; decide +kernel, fun X _ _ _ => bi_list⟩⟩⟩
  else if h : x = ("sum" : Str) then some ⟨.sum, ⟨.inl ⟨"sum", by rw [h]; decide +kernel, fun X hc _ _ => bi_sum hc⟩⟩⟩
  else if h : x = ("all" : Str) then some ⟨.all, ⟨.inl ⟨"all", by rw [h]; decide +kernel, fun X hc _ _ => bi_all hc⟩⟩⟩
  else if h : x = ("any" : Str) then some ⟨.any, ⟨.inl ⟨"any", by rw [h]; decide +kernel, fun X hc _ _ => bi_any hc⟩⟩⟩
  else if h : x = ("max" : Str) then some ⟨.max, ⟨.inl ⟨"max", by rw [h]; decide +kernel, fun X hc _ _ => bi_max hc⟩⟩⟩
  else if h : x = ("min" : Str) then some ⟨.min, ⟨.inl ⟨"min", by rw [h]; decide +kernel, fun X hc _ _ => bi_min hc⟩⟩⟩
  else if h : x = ("repr" : Str) then some ⟨.repr, ⟨.inl ⟨"repr", by rw [h]; decide +kernel, fun X _ hg hu => bi_repr hg hu⟩⟩⟩
  else none
theorem good_bi {x : Str} (hg : glB c.sc x = true) (hn : plainN x = true) (hf : x ∈ pr.free) (p : {p : Bi // BiOk x p}) (hs : Goods pr c (e :: es) es') : GoodE pr c (.Call (.Name x p2) (e :: es) [] pos) (.bi p.1 es') := GoodE.of rfl fun {Φ k X C} hy => by
  obtain ⟨n1, n2, n3⟩ := plainN_of hn
  rcases p.2.ok with ⟨id, q1, q2⟩ | ⟨T, q1, q2⟩
  · exact pe_biF (q2 X hy.x.calm hy.x.guards hy.u) (hy.gl hg) (hy.g.free x hf) q1 (hs.os hy) n3 n1 hs.no hy.K
  · exact pe_biT (q2 X hy.x.calm hy.x.guards hy.u) (hy.gl hg) (hy.g.free x hf) q1 (hs.os hy) n3 n1 hs.no hy.K
theorem good_fn {x : Str} {f : Nat} {bs : List Bool} (hg : glB c.sc x = true) (hn : plainN x = true) (hf : pr.defs[f]? = some (x, bs)) (hs : Goods pr c (e :: es) es') : GoodE pr c (.Call (.Name x p2) (e :: es) [] pos) (.fn f bs es') := GoodE.of rfl fun {Φ k X C} hy => by
  obtain ⟨a, fd, ps, q1, q2, q3, q4⟩ := hy.g.fns f x bs hf
  exact pe_mono (pe_fnG (E := fun _ _ _ => False) q4 hy.x.room hy.x.guards (hy.gl hg) q1 q2 q3 (hs.as hy bs) (plainN_of hn).1 hs.no) fun σ H Q h => by
    have z := fn_read (E := fun _ _ _ => False) h
    rw [hy.K] at z
    unfold tCall at z
    simp only [List.append_nil] at z
    exact z
/-! isinstance -/
theorem kit_int (x : D) : kitB (tyD x) "int" = some (match x with | .int _ => true | .bool _ => true | _ => false) := by
  cases x with
  | none => exact (by decide +kernel : kitB "NoneType" "int" = some false)
  | bool _ => exact (by decide +kernel : kitB "bool" "int" = some true)
  | int _ => exact (by decide +kernel : kitB "int" "int" = some true)
  | str _ => exact (by decide +kernel : kitB "str" "int" = some false)
  | list _ => exact (by decide +kernel : kitB "list" "int" = some false)
  | tuple _ => exact (by decide +kernel : kitB "tuple" "int" = some false)
  | dict _ => exact (by decide +kernel : kitB "dict" "int" = some false)
theorem kit_bool (x : D) : kitB (tyD x) "bool" = some (match x with | .bool _ => true | _ => false) := by
  cases x with
  | none => exact (by decide +kernel : kitB "NoneType" "bool" = some false)
  | bool _ => exact (by decide +kernel : kitB "bool" "bool" = some true)
  | int _ => exact (by decide +kernel : kitB "int" "bool" = some false)
  | str _ => exact (by decide +kernel : kitB "str" "bool" = some false)
  | list _ => exact (by decide +kernel : kitB "list" "bool" = some false)
  | tuple _ => exact (by decide +kernel : kitB "tuple" "bool" = some false)
  | dict _ => exact (by decide +kernel : kitB "dict" "bool" = some false)
theorem kit_str (x : D) : kitB (tyD x) "str" = some (match x with | .str _ => true | _ => false) := by
  cases x with
  | none => exact (by decide +kernel : kitB "NoneType" "str" = some false)
  | bool _ => exact (by decide +kernel : kitB "bool" "str" = some false)
  | int _ => exact (by decide +kernel : kitB "int" "str" = some false)
  | str _ => exact (by decide +kernel : kitB "str" "str" = some true)
  | list _ => exact (by decide +kernel : kitB "list" "str" = some false)
  | tuple _ => exact (by decide +kernel : kitB "tuple" "str" = some false)
  | dict _ => exact (by decide +kernel : kitB "dict" "str" = some false)
theorem kit_tuple (x : D) : kitB (tyD x) "tuple" = some (match x with | .tuple _ => true | _ => false) := by
  cases x with
  | none => exact (by decide +kernel : kitB "NoneType" "tuple" = some false)
  | bool _ => exact (by decide +kernel : kitB "bool" "tuple" = some false)
  | int _ => exact (by decide +kernel : kitB "int" "tuple" = some false)
  | str _ => exact (by decide +kernel : kitB "str" "tuple" = some false)
  | list _ => exact (by decide +kernel : kitB "list" "tuple" = some false)
  | tuple _ => exact (by decide +kernel : kitB "tuple" "tuple" = some true)
  | dict _ => exact (by decide +kernel : kitB "dict" "tuple" = some false)
structure IsOk (T : Str) (p : Bi) : Prop where
  ok : ∃ (n : String) (g : D → Bool), bootBuiltins T = some (.type n) ∧ T ≠ "__name__" ∧ (T == ("__debug__" : Str)) = false ∧ (∀ d, biD p [d] = some (.bool (g d), false)) ∧ ∀ d, kitB (tyD d) n = some (g d)
def isTab (T : Str) : Option {p : Bi // IsOk T p} :=
  if h : T = ("int" : Str) then some ⟨.isInt, ⟨"int", fun x => (match x with | .int _ => true | .bool _ => true | _ => false), by rw [h]; decide +kernel, by rw [h]; decide, by rw [h]; decide, fun d => rfl, kit_int⟩⟩
  else if h : T = ("bool" : Str) then some ⟨.isBool, ⟨"bool", fun x => (match x with | .bool _ => true | _ => false), by rw [h]; decide +kernel, by rw [h]; decide, by rw [h]; decide, fun d => rfl, kit_bool⟩⟩
  else if h : T = ("str" : Str) then some ⟨.isStr, ⟨"str", fun x => (match x with | .str _ => true | _ => false), by rw [h]; decide +kernel, by rw [h]; decide, by rw [h]; decide, fun d => rfl, kit_str⟩⟩
  else if h : T = ("tuple" : Str) then some ⟨.isTuple, ⟨"tuple", fun x => (match x with | .tuple _ => true | _ => false), by rw [h]; decide +kernel, by rw [h]; decide, by rw [h]; decide, fun d => rfl, kit_tuple⟩⟩
  else none
theorem good_is {T : Str} (p : {p : Bi // IsOk T p}) (h1 : glB c.sc "isinstance" = true) (h2 : ("isinstance" : Str) ∈ pr.free) (h3 : glB c.sc T = true) (h4 : T ∈ pr.free) (he : GoodE pr c e e') (hn : noStar e = true) :
    GoodE pr c (.Call (.Name "isinstance" p2) [e, .Name T p3] [] pos) (.bi p.1 [e']) := GoodE.of rfl fun {Φ k X C} hy => by
  obtain ⟨n, g, q1, q2, q3, q4, q5⟩ := p.2.ok
  exact pe_isiD (hy.gl h1) (hy.g.free _ h2) (hy.gl h3) (hy.g.free _ h4) q1 q2 q3 q4 q5 (GoodE.o he hy) hn hy.K
def fnAt (pr : Pr) (x : Str) : Nat := pr.defs.findIdx (·.1 == x)
def cIs (pr : Pr) (c : SC) (f : (e : Expr) → CE pr c e) (x : Str) (p2 : Pos) (args : List Expr) (pos : Pos) : CE pr c (.Call (.Name x p2) args [] pos) :=
  if hx : x = ("isinstance" : Str) then (match args with
    | [e, .Name T p3] => match f e with
      | none => none
      | some e' => match isTab T with
        | none => none
        | some p => if h : glB c.sc "isinstance" = true ∧ ("isinstance" : Str) ∈ pr.free ∧ glB c.sc T = true ∧ T ∈ pr.free ∧ noStar e = true then some ⟨.bi p.1 [e'.1], by rw [hx]; exact good_is p h.1 h.2.1 h.2.2.1 h.2.2.2.1 e'.2 h.2.2.2.2⟩ else none
    | _ => none)
  else none
def cLenSet (pr : Pr) (c : SC) (f : (e : Expr) → CE pr c e) (x : Str) (p2 : Pos) (args : List Expr) (pos : Pos) : CE pr c (.Call (.Name x p2) args [] pos) :=
  if hx : x = ("len" : Str) then (match args with
    | [.Call (.Name y p3) [a] [] q] => if hy : y = ("set" : Str) then (match f a with
      | none => none
      | some a' => if h : glB c.sc "len" = true ∧ ("len" : Str) ∈ pr.free ∧ glB c.sc "set" = true ∧ ("set" : Str) ∈ pr.free ∧ noStar a = true then
          some ⟨.bi .lenset [a'.1], by rw [hx, hy]; exact GoodE.of rfl fun hy => pe_lenSetD hy.x.calm (hy.gl h.1) (hy.g.free _ h.2.1) (hy.gl h.2.2.1) (hy.g.free _ h.2.2.2.1) (GoodE.o a'.2 hy) h.2.2.2.2 hy.K⟩ else none)
      else none
    | _ => none)
  else none
def isLenSet : Expr → Bool
  | .Call (.Name x _) [.Call (.Name y _) [_] [] _] [] _ => decide (x = ("len" : Str)) && decide (y = ("set" : Str))
  | _ => false
def cCall (pr : Pr) (c : SC) (f : (e : Expr) → CE pr c e) (x : Str) (p2 : Pos) (args : List Expr) (pos : Pos) : CE pr c (.Call (.Name x p2) args [] pos) :=
  if x = ("isinstance" : Str) then cIs pr c f x p2 args pos
  else if isLenSet (.Call (.Name x p2) args [] pos) then cLenSet pr c f x p2 args pos
  else if hg : glB c.sc x = true ∧ plainN x = true then (match args with
    | [] => none
    | e :: es => match cEs pr c f (e :: es) with
      | none => none
      | some es' => match hf : pr.defs[fnAt pr x]? with
        | some (y, bs) => if h : y = x then some ⟨.fn (fnAt pr x) bs es'.1, good_fn hg.1 hg.2 (by rw [hf, h]) es'.2⟩ else none
        | none => match biTab x with
          | none => none
          | some p => if h : x ∈ pr.free then some ⟨.bi p.1 es'.1, good_bi hg.1 hg.2 h p es'.2⟩ else none)
  else none
/-! methods of a name's list -/
theorem noStar1 (h : Goods pr c [e] es') : noStar e = true := by cases h with | cons _ h _ => exact h
theorem noStar2 (h : Goods pr c [a, b] es') : noStar a = true ∧ noStar b = true := by cases h with | cons _ h t => exact ⟨h, noStar1 t⟩
def cMeth (pr : Pr) (c : SC) (f : (e : Expr) → CE pr c e) (x : Str) (p2 : Pos) (m : Str) (apos : Pos) (args : List Expr) (pos : Pos) : CE pr c (.Call (.Attribute (.Name x p2) m apos) args [] pos) :=
  match f (.Name x p2) with
  | some ⟨.var i, ho⟩ => if hl : (apos.endLine == pos.line) = true then (match args with
    | [] => if h : m = ("pop" : Str) then some ⟨.mu .pop i [], by rw [h]; exact GoodE.of rfl fun hy => pe_pop0D ((ho hy).2 i rfl) hy.K rfl hl⟩ else none
    | [e] => match cEs pr c f [e] with
      | none => none
      | some es' =>
        if h : m = ("append" : Str) then some ⟨.mu .append i es'.1, by rw [h]; exact GoodE.of rfl fun hy => pe_appendD ((ho hy).2 i rfl) (es'.2.vs hy) hy.K rfl hl (noStar1 es'.2)⟩
        else if h : m = ("extend" : Str) then some ⟨.mu .extend i es'.1, by rw [h]; exact GoodE.of rfl fun hy => pe_extendD ((ho hy).2 i rfl) (es'.2.os hy) hy.K rfl hl (noStar1 es'.2)⟩
        else if h : m = ("pop" : Str) then some ⟨.mu .pop i es'.1, by rw [h]; exact GoodE.of rfl fun hy => pe_popD ((ho hy).2 i rfl) (es'.2.vs hy) hy.K rfl hl (noStar1 es'.2)⟩
        else none
    | [e, e2] => match cEs pr c f [e, e2] with
      | none => none
      | some es' => if h : m = ("insert" : Str) then some ⟨.mu .insert i es'.1, by rw [h]; exact GoodE.of rfl fun hy => pe_insertD ((ho hy).2 i rfl) (es'.2.vs hy) hy.K rfl hl (noStar2 es'.2).1 (noStar2 es'.2).2⟩ else none
    | _ => none)
    else none
  | _ => none
end
end EV

/-! EvM: the translation: comprehensions, statements, defs. -/
namespace EV
open PySem PySem.Spec PyProof.Rows L2
section
variable {pr : Pr} {c : SC}
/-! targets -/
def TgOk (pr : Pr) (c : SC) (e : Expr) (t : Tg) : Prop := ∀ {Φ : Orc} {k : Nat} {X : Cx} {C : Ct}, Hy pr c Φ k X C → PG X e (tG C t)
structure TgsOk (pr : Pr) (c : SC) (es : List Expr) (ts : List Tg) : Prop where
  no : es.all noStar = true
  len : es.length = ts.length
  ok : ∀ {Φ : Orc} {k : Nat} {X : Cx} {C : Ct}, Hy pr c Φ k X C → PGs X es (tGs C ts)
theorem assign_no {e : Expr} {es : List Expr} {env : Env} (h : noStar e = true) : assignEach (e :: es) env = (false, assign e env) :: assignEach es env := by
  cases e with
  | Starred _ _ => exact absurd h Bool.false_ne_true
  | _ => rfl
theorem assign_len {env : Env} : ∀ {es : List Expr}, es.all noStar = true → (assignEach es env).length = es.length ∧ (assignEach es env).findIdx? (·.1) = none
  | [], _ => ⟨rfl, rfl⟩
  | e :: es, h => by
    rw [List.all_cons, Bool.and_eq_true] at h
    obtain ⟨h1, h2⟩ := assign_len (env := env) h.2
    rw [assign_no h.1, List.length_cons, List.length_cons, h1, List.findIdx?_cons]
    simp [h2]
def cTgs (pr : Pr) (c : SC) (f : (e : Expr) → Option {t : Tg // TgOk pr c e t}) : (es : List Expr) → Option {ts : List Tg // TgsOk pr c es ts}
  | [] => some ⟨[], ⟨rfl, rfl, fun hy => pgs_nilD⟩⟩
  | e :: es => match f e with
    | none => none
    | some t => match cTgs pr c f es with
      | none => none
      | some ts => if h : noStar e = true then some ⟨t.1 :: ts.1, ⟨by rw [List.all_cons, h, ts.2.no]; rfl, by rw [List.length_cons, List.length_cons, ts.2.len], fun hy => pgs_consD (t.2 hy) (ts.2.ok hy) (by rw [assign_no h]; rfl)⟩⟩ else none
theorem ok_name {x : Str} {p : Pos} {i : Nat} (h1 : c.N[i]? = some x) (h2 : locB c.sc x = true) (h3 : (c.fn x || isLoc c.sc x) = true) : TgOk pr c (.Name x p) (.name i) := fun {Φ k X C} hy => by
  refine pg_nameD (pg_name hy.x.nd (hy.at h1) (hy.loc h2) ?_)
  rcases Bool.or_eq_true_iff.mp h3 with h | h
  · exact .inl (hy.x.fn x h)
  · exact .inr (by rw [hy.x.sc]; exact isLoc_of h)
def cTg (pr : Pr) (c : SC) : Nat → (e : Expr) → Option {t : Tg // TgOk pr c e t}
  | 0, _ => none
  | n + 1, .Name x p => if h : c.N[placeOf c x]? = some x ∧ locB c.sc x = true ∧ (c.fn x || isLoc c.sc x) = true then some ⟨.name (placeOf c x), ok_name h.1 h.2.1 h.2.2⟩ else none
  | n + 1, .Tuple es j p => match cTgs pr c (cTg pr c n) es with
    | none => none
    | some ts => some ⟨.tup ts.1, fun hy => pg_tupD hy.x.calm hy.K (ts.2.ok hy) ((assign_len ts.2.no).1.trans ts.2.len) (assign_len ts.2.no).2⟩
  | _ + 1, _ => none
/-! what is walked -/
def ItOk (pr : Pr) (c : SC) (tg iter : Expr) (k : ItK) (es' : List Ex) : Prop := ∀ {Φ : Orc} {n : Nat} {X : Cx} {C : Ct}, Hy pr c Φ n X C → PI X tg iter (tI C k (evOs Φ es'))
def cSeq (pr : Pr) (c : SC) (f : (e : Expr) → CE pr c e) (tg iter : Expr) : Option {x : ItK × List Ex // ItOk pr c tg iter x.1 x.2} := match f iter with
  | none => none
  | some e' => some ⟨(.seq, [e'.1]), fun hy => pi_seqD (GoodE.o e'.2 hy) hy.K⟩
def cRng (pr : Pr) (c : SC) (f : (e : Expr) → CE pr c e) (tg : Expr) (p : Pos) (args : List Expr) (pos : Pos) : Option {x : ItK × List Ex // ItOk pr c tg (.Call (.Name "range" p) args [] pos) x.1 x.2} :=
  if hg : glB c.sc "range" = true ∧ ("range" : Str) ∈ pr.free then (match args with
    | [a] => match f a with
      | none => none
      | some a' => if h : noStar a = true then some ⟨(.rng, [a'.1]), fun hy => pi_rng1 (hy.gl hg.1) (hy.g.free _ hg.2) (GoodE.o a'.2 hy) h⟩ else none
    | [a, b] => match f a with
      | none => none
      | some a' => match f b with
        | none => none
        | some b' => if h : noStar a = true ∧ noStar b = true then some ⟨(.rng, [a'.1, b'.1]), fun hy => pi_rng2 (hy.gl hg.1) (hy.g.free _ hg.2) (GoodE.o a'.2 hy) (GoodE.o b'.2 hy) h.1 h.2⟩ else none
    | [a, b, d] => match f a with
      | none => none
      | some a' => match f b with
        | none => none
        | some b' => match f d with
          | none => none
          | some d' => if h : noStar a = true ∧ noStar b = true ∧ noStar d = true then some ⟨(.rng, [a'.1, b'.1, d'.1]), fun hy => pi_rng3 (hy.gl hg.1) (hy.g.free _ hg.2) (GoodE.o a'.2 hy) (GoodE.o b'.2 hy) (GoodE.o d'.2 hy) h.1 h.2.1 h.2.2⟩ else none
    | _ => none)
  else none
def cEnm (pr : Pr) (c : SC) (f : (e : Expr) → CE pr c e) (tg : Expr) (p : Pos) (args : List Expr) (pos : Pos) : Option {x : ItK × List Ex // ItOk pr c tg (.Call (.Name "enumerate" p) args [] pos) x.1 x.2} :=
  if hg : glB c.sc "enumerate" = true ∧ ("enumerate" : Str) ∈ pr.free then (match tg, args with
    | .Tuple elts kk tp, [a] => match f a with
      | none => none
      | some a' => if h : noStar a = true then some ⟨(.enm, [a'.1]), fun hy => pi_enumD (hy.gl hg.1) (hy.g.free _ hg.2) (GoodE.o a'.2 hy) h hy.K⟩ else none
    | _, _ => none)
  else none
def cIter (pr : Pr) (c : SC) (f : (e : Expr) → CE pr c e) (tg : Expr) : (iter : Expr) → Option {x : ItK × List Ex // ItOk pr c tg iter x.1 x.2}
  | .Call (.Name x p) args [] pos => if hx : x = ("range" : Str) then (match cRng pr c f tg p args pos with
      | none => none
      | some r => some ⟨r.1, by rw [hx]; exact r.2⟩)
    else if hx : x = ("enumerate" : Str) then (match cEnm pr c f tg p args pos with
      | none => none
      | some r => some ⟨r.1, by rw [hx]; exact r.2⟩)
    else cSeq pr c f tg (.Call (.Name x p) args [] pos)
  | iter => cSeq pr c f tg iter
def foldB : Expr → Bool
  | .Set _ _ _ => false
  | _ => true
theorem fold_of {iter : Expr} (h : foldB iter = true) {env : Env} : ∀ x, foldedSetIterable iter env x = pure x := by
  intro x
  cases iter with
  | Set _ _ _ => cases h
  | _ => rfl
/-! which names the walk leaves as they are -/
def varsOf : List Ex → List Nat
  | [] => []
  | .var i :: es => i :: varsOf es
  | _ :: es => varsOf es
theorem opnd_bor {e : Ex} {r : EvR} {ρ ρ' : Ev} {i : Nat} (h : opnd e r ρ = some (.bor i, ρ')) : e = .var i := by
  cases e with
  | var j =>
    have h : (match ρ[j]? with | some (some s) => if s.own then some (Opn.bor j, ρ) else some (Opn.val s.d, ρ) | _ => none) = some (.bor i, ρ') := h
    split at h
    · split at h
      · cases h; rfl
      · cases h
    · cases h
  | _ =>
    obtain ⟨x, _, h2⟩ := omap h
    cases h2
theorem mem_vars {i : Nat} : ∀ {es : List Ex}, Ex.var i ∈ es → i ∈ varsOf es
  | e :: es, h => by
    rcases List.mem_cons.mp h with h | h
    · subst h; exact List.mem_cons_self
    · have z := mem_vars h
      cases e with
      | var j => exact List.mem_cons_of_mem _ z
      | _ => exact z
theorem evOs_bors {Φ : Orc} : ∀ {es : List Ex} {ρ ρ' : Ev} {os : List Opn}, evOs Φ es ρ = some (os, ρ') → ∀ i ∈ bors os, i ∈ varsOf es
  | [], ρ, ρ', os, h, i, hi => by cases h; cases hi
  | e :: es, ρ, ρ', os, h, i, hi => by
    obtain ⟨⟨o, ρ1⟩, h1, h2⟩ := obind (show (opnd e (evE Φ e) ρ >>= _) = some (os, ρ') from h)
    obtain ⟨⟨os', ρ2⟩, h3, h4⟩ := obind h2
    cases h4
    have ih : i ∈ bors os' → i ∈ varsOf (e :: es) := fun z => by
      have q := evOs_bors h3 i z
      cases e with
      | var j => exact List.mem_cons_of_mem _ q
      | _ => exact q
    cases o with
    | val d => exact ih hi
    | bor j =>
      rcases List.mem_cons.mp hi with hi | hi
      · subst hi
        exact mem_vars (by rw [opnd_bor h1]; exact List.mem_cons_self)
      · exact ih hi
mutual
def tgVars : Tg → List Nat
  | .name i => [i]
  | .tup ts => tgsVars ts
def tgsVars : List Tg → List Nat
  | [] => []
  | t :: ts => tgVars t ++ tgsVars ts
end
mutual
theorem tgHas_mem {j : Nat} : ∀ (t : Tg), tgHas t j = true → j ∈ tgVars t
  | .name i, h => by
    have h : (i == j) = true := h
    rw [beq_iff_eq] at h
    subst h
    exact List.mem_cons_self
  | .tup ts, h => tgsHas_mem ts h
theorem tgsHas_mem {j : Nat} : ∀ (ts : List Tg), tgsHas ts j = true → j ∈ tgsVars ts
  | [], h => nomatch h
  | t :: ts, h => by
    rcases Bool.or_eq_true_iff.mp (show (tgHas t j || tgsHas ts j) = true from h) with h | h
    · exact List.mem_append_left _ (tgHas_mem t h)
    · exact List.mem_append_right _ (tgsHas_mem ts h)
end
/-! comprehensions -/
theorem XOk.blk {k : Nat} {X : Cx} (x : XOk c k X) {scope : Scope} {s : Shared} {H : Hp} {A : Addr} {cl : List (Str × Addr)} {fp : List Addr} (hk : scope.kind = .function) : XOk ⟨c.N, relS scope c.sc, some scope⟩ k (X.blk s H scope (compEnvC scope cl A X.env) fp) :=
  ⟨x.N, by
    show relS scope X.env.scope = relS scope c.sc
    rw [x.sc], x.nd, x.calm, fun y h => h, x.room, x.guards, rfl, hk⟩
theorem Hy.blk {Φ : Orc} {k : Nat} {X : Cx} {C : Ct} (hy : Hy pr c Φ k X C) {scope : Scope} {s : Shared} {H : Hp} {A : Addr} {cl : List (Str × Addr)} {fp : List Addr} (hk : scope.kind = .function) :
    Hy pr ⟨c.N, relS scope c.sc, some scope⟩ Φ k (X.blk s H scope (compEnvC scope cl A X.env) fp) C := ⟨hy.g, hy.x.blk hk, hy.K⟩
def IfsOk (pr : Pr) (c : SC) (ifs : List Expr) (fs : List Ex) : Prop := ∀ {Φ : Orc} {k : Nat} {X : Cx} {C : Ct}, Hy pr c Φ k X C → PTs X ifs (tTs C (tests (evFs Φ fs)))
def cIfs (pr : Pr) (c : SC) (g : (e : Expr) → CT pr c e) : (ifs : List Expr) → Option {fs : List Ex // IfsOk pr c ifs fs}
  | [] => some ⟨[], fun hy => pts_nilD⟩
  | [t] => match g t with
    | none => none
    | some t' => some ⟨[t'.1], fun hy => pts_oneD (t'.2 hy)⟩
  | _ => none
/-- a comprehension as a value, and in name = [..] -/
def LcOk (pr : Pr) (c : SC) (e : Expr) (e' : Ex) : Prop := ∀ {Φ : Orc} {k : Nat} {X : Cx} {C : Ct}, Hy pr c Φ k X C → PE X e (tE C (evE Φ e')) ∧
  ∀ {i : Nat} {y : Str} {py spos : Pos}, X.N[i]? = some y → X.env.scope.names.lookup y = some .local → swapsWith e (some (.Name y py)) spos.line X.env = pure true → PS X (.Assign [.Name y py] e spos) (tAsg (tE C (evE Φ e')) (gName i))
def ownOf (c : SC) (scope : Scope) : List (Str × Nat) := scope.names.filterMap fun y => match y.2 with
  | .local => if c.N[placeOf c y.1]? = some y.1 then some (y.1, placeOf c y.1) else none
  | .cell => if c.N[placeOf c y.1]? = some y.1 then some (y.1, placeOf c y.1) else none
  | _ => none
theorem ok_lc {elt tg iter : Expr} {ifs : List Expr} {scope : Scope} {pos : Pos} {own : List (Str × Nat)} {elt' : Ex} {t : Tg} {fs es' : List Ex} {k : ItK} (hb : blkC c.N c.sc scope own = true) (he : GoodE pr ⟨c.N, relS scope c.sc, some scope⟩ elt elt') (ht : TgOk pr ⟨c.N, relS scope c.sc, some scope⟩ tg t)
    (hf : IfsOk pr ⟨c.N, relS scope c.sc, some scope⟩ ifs fs) (hi : ItOk pr c tg iter k es') (h1 : (varsOf es').all (fun i => !(own.map (·.2)).contains i) = true) (h2 : (tgVars t).all (fun i => (own.map (·.2)).contains i) = true) (h3 : foldB iter = true) :
    LcOk pr c (.ListComp elt [⟨tg, iter, ifs, 0⟩] scope pos) (.lc elt' t k es' fs (own.map (·.2))) := fun {Φ n X C} hy => by
  have ok : BlkOk X.N X.env.scope scope own := by
    rw [hy.x.N, hy.x.sc]
    exact blkOk_by hb
  have hbo : ∀ ρ os ρ', evOs Φ es' ρ = some (os, ρ') → ∀ i ∈ bors os, i ∉ own.map (·.2) := fun ρ os ρ' h i hi2 hm => by
    have z := List.all_eq_true.mp h1 i (evOs_bors h i hi2)
    rw [Bool.not_eq_true', List.contains_eq_mem, decide_eq_false_iff_not] at z
    exact z hm
  have hto : ∀ i, i ∉ own.map (·.2) → tgHas t i = false := fun i hm => by
    cases e : tgHas t i with
    | false => rfl
    | true =>
      have z := List.all_eq_true.mp h2 i (tgHas_mem t e)
      rw [List.contains_eq_mem, decide_eq_true_eq] at z
      exact absurd z hm
  have read : ∀ {σ : L2.St} {H : Hp} {Q : VK}, tE C (evE Φ (.lc elt' t k es' fs (own.map (·.2)))) σ H Q → tLc (tI C k (evOs Φ es')) (tG C t) (tTs C (tests (evFs Φ fs))) (tV C (evE Φ elt')) (own.map (·.2)) σ H Q := fun h => lc_read hbo hto h
  have bg := fun (s : Shared) (H : Hp) (A : Addr) (cl : List (Str × Addr)) (fp : List Addr) => ht (hy.blk (s := s) (H := H) (A := A) (cl := cl) (fp := fp) ok.kind)
  have bt := fun (s : Shared) (H : Hp) (A : Addr) (cl : List (Str × Addr)) (fp : List Addr) => hf (hy.blk (s := s) (H := H) (A := A) (cl := cl) (fp := fp) ok.kind)
  have be := fun (s : Shared) (H : Hp) (A : Addr) (cl : List (Str × Addr)) (fp : List Addr) => pe_V (he (hy.blk (s := s) (H := H) (A := A) (cl := cl) (fp := fp) ok.kind)).1
  exact ⟨pe_mono (pe_lc hy.x.calm hy.x.nd (hi hy) ok bg bt be (fold_of h3)) fun σ H Q h => read h,
    fun {i y py spos} q1 q2 q3 => ps_mono (ps_setLc hy.x.calm hy.x.nd q1 q2 q3 (hi hy) ok bg bt be (fold_of h3)) fun D σ H h => read h⟩
def cLc (pr : Pr) (c : SC) (f : (c : SC) → (e : Expr) → CE pr c e) (g : (c : SC) → (e : Expr) → CT pr c e) (elt : Expr) (gs : List Comprehension) (scope : Scope) (pos : Pos) : Option {e' : Ex // LcOk pr c (.ListComp elt gs scope pos) e'} := match gs with
  | [⟨tg, iter, ifs, z⟩] => if hz : z = 0 then (match f ⟨c.N, relS scope c.sc, some scope⟩ elt with
    | none => none
    | some elt' => match cTg pr ⟨c.N, relS scope c.sc, some scope⟩ 8 tg with
      | none => none
      | some t => match cIfs pr ⟨c.N, relS scope c.sc, some scope⟩ (g ⟨c.N, relS scope c.sc, some scope⟩) ifs with
        | none => none
        | some fs => match cIter pr c (f c) tg iter with
          | none => none
          | some it => if h : blkC c.N c.sc scope (ownOf c scope) = true ∧ (varsOf it.1.2).all (fun i => !((ownOf c scope).map (·.2)).contains i) = true ∧ (tgVars t.1).all (fun i => ((ownOf c scope).map (·.2)).contains i) = true ∧ foldB iter = true then
              some ⟨.lc elt'.1 t.1 it.1.1 it.1.2 fs.1 ((ownOf c scope).map (·.2)), by rw [hz]; exact ok_lc h.1 elt'.2 t.2 fs.2 it.2 h.2.1 h.2.2.1 h.2.2.2⟩
            else none)
    else none
  | _ => none
/-! the expressions together -/
def plainT : Expr → Bool
  | .UnaryOp .Not _ _ => false
  | .BoolOp _ _ _ => false
  | .IfExp _ _ _ _ => false
  | .Compare _ _ _ _ => false
  | _ => true
theorem plainT_of {e : Expr} {env : Env} (h : plainT e = true) : ∀ whole, isTrue e env whole = (do let v ← whole; standAt e.pos; holding [v] (truthy v)) := by
  intro whole
  cases e with
  | UnaryOp op a p => cases op with
    | Not => cases h
    | _ => rfl
  | BoolOp _ _ _ => cases h
  | IfExp _ _ _ _ => cases h
  | Compare _ _ _ _ => cases h
  | _ => rfl
def cE1 (pr : Pr) (f : (c : SC) → (e : Expr) → CE pr c e) (g : (c : SC) → (e : Expr) → CT pr c e) (c : SC) : (e : Expr) → CE pr c e
  | .Constant v j pos => cConst pr c v j pos
  | .Name x pos => cName pr c x pos
  | .Tuple es j pos => cTuple pr c (f c) es j pos
  | .List es pos => cList pr c (f c) es pos
  | .BinOp a op b pos => match opTo op with
    | none => none
    | some o => match f c a with
      | none => none
      | some a' => match f c b with
        | none => none
        | some b' => some ⟨.bin o.1 a'.1 b'.1, good_bin o a'.2 b'.2⟩
  | .Compare a ops bs pos => cCmp pr c (f c) a ops bs pos
  | .BoolOp op vs pos => cBool pr c (f c) op pos vs
  | .UnaryOp op a pos => cUn pr c (f c) op a pos
  | .IfExp t a b pos => cIf pr c (f c) (g c) t a b pos
  | .Subscript a (.Slice lo hi none p2) pos => cSlice pr c (f c) a lo hi p2 pos
  | .Subscript a i pos => cIx pr c (f c) a i pos
  | .Call (.Name x p2) args [] pos => cCall pr c (f c) x p2 args pos
  | .Call (.Attribute (.Name x p2) m apos) args [] pos => cMeth pr c (f c) x p2 m apos args pos
  | .ListComp elt gs scope pos => match cLc pr c f g elt gs scope pos with
    | none => none
    | some e' => if h : isVar e'.1 = false then some ⟨e'.1, GoodE.of h fun hy => (e'.2 hy).1⟩ else none
  | _ => none
def cT1 (pr : Pr) (f : (c : SC) → (e : Expr) → CE pr c e) (g : (c : SC) → (e : Expr) → CT pr c e) (c : SC) : (e : Expr) → CT pr c e
  | .UnaryOp .Not a pos => match g c a with
    | none => none
    | some a' => some ⟨.not a'.1, fun hy => pt_notD (a'.2 hy)⟩
  | .BoolOp op vs pos => match cBoolW pr c (g c) op pos vs with
    | none => none
    | some r => some ⟨r.1, fun hy => (r.2 hy).pt⟩
  | .Compare a ops bs pos => cCmpT pr c (f c) a ops bs pos
  | e => match f c e with
    | none => none
    | some e' => if h : plainT e = true then some ⟨e'.1, fun hy => pt_valD (e'.2 hy).1 (plainT_of h)⟩ else none
def cA (pr : Pr) : Nat → ((c : SC) → (e : Expr) → CE pr c e) × ((c : SC) → (e : Expr) → CT pr c e)
  | 0 => (fun _ _ => none, fun _ _ => none)
  | n + 1 => (cE1 pr (cA pr n).1 (cA pr n).2, cT1 pr (cA pr n).1 (cA pr n).2)
end
end EV

/-! EvN: the translation of statements and defs; the levels. -/
namespace EV
open PySem PySem.Spec PyProof.Rows L2
section
variable {pr : Pr} {c : SC} {e a b : Expr} {e' a' b' : Ex} {pos p p2 p3 : Pos} {x y z : Str} {i j l : Nat}
def SmOk (pr : Pr) (c : SC) (s : Stmt) (s' : Sm) : Prop := ∀ {Φ : Orc} {k : Nat} {X : Cx} {C : Ct}, Hy pr c Φ k X C → PS X s (tS C (asS s') (exS Φ s'))
def BlOk (pr : Pr) (c : SC) (ss : List Stmt) (ss' : List Sm) : Prop := ∀ {Φ : Orc} {k : Nat} {X : Cx} {C : Ct}, Hy pr c Φ k X C → PSs X ss (tS C (asB ss') (exB Φ ss'))
abbrev CS (pr : Pr) (c : SC) (s : Stmt) := Option {s' : Sm // SmOk pr c s s'}
abbrev CB (pr : Pr) (c : SC) (s : List Stmt) := Option {s' : List Sm // BlOk pr c s s'}
/-! assignments -/
def swF : Expr → Bool
  | .ListComp _ _ _ _ => false
  | .SetComp _ _ _ _ => false
  | .DictComp _ _ _ _ _ => false
  | _ => true
theorem sw_no (h : swF e = true) {t : Option Expr} {n : Nat} {env : Env} : swapsWith e t n env = pure false := by
  cases e <;> first | rfl | cases h
theorem sw_cell {elt : Expr} {gs : List Comprehension} {scope : Scope} {py : Pos} {n : Nat} {env : Env} (h : env.scope.names.lookup y = some .cell) : swapsWith (.ListComp elt gs scope pos) (some (.Name y py)) n env = pure false := by
  have ky : env.kindOf y = some .cell := h
  unfold swapsWith
  simp only [ky]
  have : ((some NameKind.cell : Option NameKind) == some .local) = false := by decide
  rw [this]
  simp only [Bool.and_false, Bool.false_and]
structure NmOk (c : SC) (x : Str) (i : Nat) : Prop where
  at_ : c.N[i]? = some x
  loc : locB c.sc x = true
  fn : (c.fn x || isLoc c.sc x) = true
theorem NmOk.hf (n : NmOk c x i) {Φ : Orc} {k : Nat} {X : Cx} {C : Ct} (hy : Hy pr c Φ k X C) : X.fn x = true ∨ X.env.scope.names.lookup x = some .local := by
  rcases Bool.or_eq_true_iff.mp n.fn with h | h
  · exact .inl (hy.x.fn x h)
  · exact .inr (by rw [hy.x.sc]; exact isLoc_of h)
def nmB (c : SC) (x : Str) (i : Nat) : Bool := decide (c.N[i]? = some x) && (locB c.sc x && (c.fn x || isLoc c.sc x))
theorem nmB_of (h : nmB c x i = true) : NmOk c x i := by
  unfold nmB at h
  simp only [Bool.and_eq_true, decide_eq_true_eq] at h
  exact ⟨h.1, h.2.1, h.2.2⟩
theorem Hy.isLoc {Φ : Orc} {k : Nat} {X : Cx} {C : Ct} (hy : Hy pr c Φ k X C) (h : isLoc c.sc x = true) : X.env.scope.names.lookup x = some .local := by rw [hy.x.sc]; exact isLoc_of h
theorem ok_asg (n : NmOk c x i) (he : GoodE pr c e e') (hs : swF e = true) : SmOk pr c (.Assign [.Name x p] e pos) (.asg i e') := fun {Φ k X C} hy =>
  ps_mono (ps_set hy.x.nd (hy.at n.at_) (hy.loc n.loc) (he hy).1 (sw_no hs) (n.hf hy)) fun D σ H h => asg_read h
def isCell (sc : Scope) (x : Str) : Bool := match sc.names.lookup x with
  | some .cell => true
  | _ => false
theorem isCell_of {sc : Scope} (h : isCell sc x = true) : sc.names.lookup x = some .cell := by
  unfold isCell at h
  split at h
  · rename_i e; exact e
  · cases h
def innerB (scope : Scope) (y : Str) : Bool := scope.names.any fun (n, k) => n == y && (k == .local || k == .cell)
def asgLcB (c : SC) (x : Str) (p : Pos) (scope : Scope) (lp : Pos) : Bool := isCell c.sc x || (isLoc c.sc x && ((p.line == lp.line) && !innerB scope x))
theorem ok_asgLc {elt : Expr} {gs : List Comprehension} {scope : Scope} {lp : Pos} (n : NmOk c x i) (he : LcOk pr c (.ListComp elt gs scope lp) e') (h : asgLcB c x p scope lp = true) : SmOk pr c (.Assign [.Name x p] (.ListComp elt gs scope lp) pos) (.asg i e') := fun {Φ k X C} hy => by
  rcases Bool.or_eq_true_iff.mp h with h | h
  · exact ps_mono (ps_set hy.x.nd (hy.at n.at_) (hy.loc n.loc) (he hy).1 (sw_cell (by rw [hy.x.sc]; exact isCell_of h)) (n.hf hy)) fun D σ H h => asg_read h
  · simp only [Bool.and_eq_true, Bool.not_eq_true'] at h
    obtain ⟨h1, h2, h3⟩ := h
    exact ps_mono ((he hy).2 (hy.at n.at_) (hy.isLoc h1) (sw_true hy.x.kind (hy.isLoc h1) h2 h3)) fun D σ H h => asg_read h
/-! several names -/
def isTup : Expr → Bool
  | .Tuple _ _ _ => true
  | _ => false
theorem st_none {t : Expr} {env : Env} (h : isTup e = false) : swappedStores [t] e env = pure none := by
  cases e with
  | Tuple _ _ _ => cases h
  | _ => cases t <;> rfl
theorem st_sub {o k : Expr} {env : Env} : swappedStores [.Subscript o k p] e env = pure none := by cases e <;> rfl
theorem st_long {ts vs : List Expr} {kt k2 : Nat} {env : Env} (h : (!(ts.length == 2 || ts.length == 3)) = true) : swappedStores [.Tuple ts kt p] (.Tuple vs k2 p2) env = pure none := by
  unfold swappedStores
  show (if (!(ts.length == 2 || ts.length == 3) || vs.length != ts.length || env.blockKind != .function) = true then pure none else _) = _
  rw [h, Bool.true_or, Bool.true_or]
  rfl
def cellName (sc : Scope) : Expr → Bool
  | .Name x _ => isCell sc x
  | _ => false
theorem filterMap_short {α β : Type} (f : α → Option β) : ∀ l : List α, (∃ a ∈ l, f a = none) → (l.filterMap f).length < l.length
  | [], ⟨a, h, _⟩ => nomatch h
  | a :: l, ⟨b, h, e⟩ => by
    have le : (l.filterMap f).length ≤ l.length := List.length_filterMap_le f l
    rcases List.mem_cons.mp h with z | z
    · rw [← z, List.filterMap_cons, e, List.length_cons]
      exact Nat.lt_succ_of_le le
    · have ih := filterMap_short f l ⟨b, z, e⟩
      rw [List.filterMap_cons, List.length_cons]
      split
      · omega
      · rw [List.length_cons]; omega
def locN (env : Env) (line : Nat) : Expr → Option Str
  | .Name id pos => if (env.kindOf id == some .local && pos.line == line) = true then some id else none
  | _ => none
theorem st_cell {ts vs : List Expr} {kt k2 : Nat} {env : Env} (h : ts.any (cellName env.scope) = true) : swappedStores [.Tuple ts kt p] (.Tuple vs k2 p2) env = pure none := by
  obtain ⟨t, ht, hc⟩ := List.any_eq_true.mp h
  have hn : locN env ((ts.head?.map (·.pos.line)).getD 0) t = none := by
    cases t with
    | Name x px =>
      have e : env.kindOf x = some .cell := isCell_of hc
      have e2 : ((some NameKind.cell : Option NameKind) == some .local) = false := by decide
      unfold locN
      simp only [e, e2, Bool.false_and]
      rfl
    | _ => cases hc
  have sh := filterMap_short _ ts ⟨t, ht, hn⟩
  unfold swappedStores
  show (if _ then pure none else if _ then pure none else (if (_ != _ || _) = true then pure none else _)) = _
  split
  · rfl
  · split
    · rfl
    · rw [if_pos]
      rw [Bool.or_eq_true]
      exact .inl (bne_iff_ne.mpr (Nat.ne_of_lt sh))
def noStars (vs : List Expr) : Bool := !(vs.any fun | .Starred .. => true | _ => false)
def foldOk (vs : List Expr) : Bool := !(vs.all (foldedForSure 8)) && !(vs.all (constantsAlone 8))
theorem bk_fn {env : Env} (h : env.scope.kind = .function) : env.blockKind = .function := by
  unfold Env.blockKind
  rw [h]
  rfl
theorem st_two {px py : Pos} {kt k2 : Nat} {env : Env} (hk : env.scope.kind = .function) (hx : env.scope.names.lookup x = some .local) (hy : env.scope.names.lookup y = some .local) (hxy : x ≠ y) (hl : (py.line == px.line) = true) (hn : noStars [a, b] = true) (hf : foldOk [a, b] = true) :
    swappedStores [.Tuple [.Name x px, .Name y py] kt p] (.Tuple [a, b] k2 p2) env = pure (some [x, y]) := by
  have kx : env.kindOf x = some .local := hx
  have ky : env.kindOf y = some .local := hy
  have bk := bk_fn hk
  have bk2 : (ScopeKind.function != ScopeKind.function) = false := by decide
  have ll : (px.line == px.line) = true := by simp
  have lc : ((some NameKind.local : Option NameKind) == some .local) = true := by decide
  have e1 : (y == x) = false := by simpa using fun z : y = x => hxy z.symm
  have e2 : (x == y) = false := by simpa using hxy
  unfold noStars at hn
  unfold foldOk at hf
  simp only [Bool.and_eq_true, Bool.not_eq_true'] at hn hf
  unfold swappedStores
  simp only [List.length_cons, List.length_nil, bk, bk2, hn, hf.1, hf.2, kx, ky, lc, ll, hl, List.head?_cons, Option.map_some, Option.getD_some, List.filterMap_cons, List.filterMap_nil, Expr.pos, Bool.and_true, if_true]
  have e3 : ([x, y].eraseDups).length = 2 := by
    rw [List.eraseDups_cons, List.filter_cons, e1]
    simp [List.eraseDups_cons]
  simp [e3]
  intro h
  simp at hn
  rcases h with h | h
  · exact Bool.noConfusion (h.symm.trans hn.1)
  · exact Bool.noConfusion (h.symm.trans hn.2)
theorem st_three {px py pz : Pos} {kt k2 : Nat} {env : Env} {d : Expr} (hk : env.scope.kind = .function) (hx : env.scope.names.lookup x = some .local) (hy : env.scope.names.lookup y = some .local) (hz : env.scope.names.lookup z = some .local) (hxy : x ≠ y) (hxz : x ≠ z) (hyz : y ≠ z)
    (hl : (py.line == px.line) = true) (hl2 : (pz.line == px.line) = true) (hn : noStars [a, b, d] = true) (hf : foldOk [a, b, d] = true) :
    swappedStores [.Tuple [.Name x px, .Name y py, .Name z pz] kt p] (.Tuple [a, b, d] k2 p2) env = pure (some [x, y, z]) := by
  have kx : env.kindOf x = some .local := hx
  have ky : env.kindOf y = some .local := hy
  have kz : env.kindOf z = some .local := hz
  have bk := bk_fn hk
  have bk2 : (ScopeKind.function != ScopeKind.function) = false := by decide
  have ll : (px.line == px.line) = true := by simp
  have lc : ((some NameKind.local : Option NameKind) == some .local) = true := by decide
  have e1 : (y == x) = false := by simpa using fun w : y = x => hxy w.symm
  have e2 : (z == x) = false := by simpa using fun w : z = x => hxz w.symm
  have e4 : (z == y) = false := by simpa using fun w : z = y => hyz w.symm
  unfold noStars at hn
  unfold foldOk at hf
  simp only [Bool.and_eq_true, Bool.not_eq_true'] at hn hf
  unfold swappedStores
  simp only [List.length_cons, List.length_nil, bk, bk2, hn, hf.1, hf.2, kx, ky, kz, lc, ll, hl, hl2, List.head?_cons, Option.map_some, Option.getD_some, List.filterMap_cons, List.filterMap_nil, Expr.pos, Bool.and_true, if_true]
  have e3 : ([x, y, z].eraseDups).length = 3 := by
    rw [List.eraseDups_cons, List.filter_cons, e1, List.filter_cons, e2]
    simp [List.eraseDups_cons, e4]
  simp [e3]
  intro h
  simp at hn
  rcases h with h | h | h
  · exact Bool.noConfusion (h.symm.trans hn.1)
  · exact Bool.noConfusion (h.symm.trans hn.2.1)
  · exact Bool.noConfusion (h.symm.trans hn.2.2)

theorem ok_asgT {t : Expr} {tg : Tg} (ht : TgOk pr c t tg) (he : GoodE pr c e e') (hs : swF e = true) (hw : ∀ env, swappedStores [t] e env = pure none) (hn : noStar t = true) : SmOk pr c (.Assign [t] e pos) (.asgT tg e') := fun {Φ k X C} hy =>
  ps_mono (ps_asg (pe_V (he hy).1) (ht hy) (by
    show swapsWith e (some t) pos.line X.env = pure false
    exact sw_no hs) (hw X.env) (by rw [assign_no hn]; rfl)) fun D σ H h => asgT_read h
theorem ok_par2 {kt k2 : Nat} {px py : Pos} {es' : List Ex} (hs : Goods pr c [a, b] es') (n1 : NmOk c x i) (n2 : NmOk c y j) (hij : i ≠ j) (l1 : isLoc c.sc x = true) (l2 : isLoc c.sc y = true) (hxy : x ≠ y) (hl : (py.line == px.line) = true) (hn : noStars [a, b] = true) (hf : foldOk [a, b] = true) :
    SmOk pr c (.Assign [.Tuple [.Name x px, .Name y py] kt p] (.Tuple [a, b] k2 p2) pos) (.par [i, j] es') := fun {Φ k X C} hy =>
  ps_mono (ps_par hy.x.calm hy.x.nd (hy.at n1.at_) (hy.at n2.at_) hij (hy.isLoc l1) (hy.isLoc l2) (hs.ps hy) (st_two hy.x.kind (hy.isLoc l1) (hy.isLoc l2) hxy hl hn hf) rfl) fun D σ H h => par2_read h
theorem ok_par3 {kt k2 : Nat} {px py pz : Pos} {d : Expr} {es' : List Ex} (hs : Goods pr c [a, b, d] es') (n1 : NmOk c x i) (n2 : NmOk c y j) (n3 : NmOk c z l) (hij : i ≠ j) (hil : i ≠ l) (hjl : j ≠ l) (l1 : isLoc c.sc x = true) (l2 : isLoc c.sc y = true) (l3 : isLoc c.sc z = true)
    (hxy : x ≠ y) (hxz : x ≠ z) (hyz : y ≠ z) (hl : (py.line == px.line) = true) (hl2 : (pz.line == px.line) = true) (hn : noStars [a, b, d] = true) (hf : foldOk [a, b, d] = true) :
    SmOk pr c (.Assign [.Tuple [.Name x px, .Name y py, .Name z pz] kt p] (.Tuple [a, b, d] k2 p2) pos) (.par [i, j, l] es') := fun {Φ k X C} hy =>
  ps_mono (ps_par3 hy.x.calm hy.x.nd (hy.at n1.at_) (hy.at n2.at_) (hy.at n3.at_) hij hil hjl (hy.isLoc l1) (hy.isLoc l2) (hy.isLoc l3) (hs.ps hy) (st_three hy.x.kind (hy.isLoc l1) (hy.isLoc l2) (hy.isLoc l3) hxy hxz hyz hl hl2 hn hf) rfl) fun D σ H h => par3_read h
theorem ok_set {o kx : Expr} {k' : Ex} (ho : GoodE pr c o (.var i)) (hk : GoodE pr c kx k') (he : GoodE pr c e e') (hp : plainIxB kx = true) : SmOk pr c (.Assign [.Subscript o kx p] e pos) (.setix i k' e') := fun {Φ k X C} hy =>
  ps_setD ((ho hy).2 i rfl) (hk hy).1 (he hy).1 (by cases e <;> rfl) st_sub rfl (fun v => by
    cases kx with
    | Slice lo hi st q => cases st with
      | none => cases hp
      | some _ => rfl
    | _ => rfl)
def augTo : (op : Operator) → Option {o : Op2 // (o = .add ∧ op = .Add) ∨ (o = .sub ∧ op = .Sub)}
  | .Add => some ⟨.add, .inl ⟨rfl, rfl⟩⟩
  | .Sub => some ⟨.sub, .inr ⟨rfl, rfl⟩⟩
  | _ => none
theorem ok_aug {op : Operator} (o : {o : Op2 // (o = .add ∧ op = .Add) ∨ (o = .sub ∧ op = .Sub)}) (n : NmOk c x i) (he : GoodE pr c e e') : SmOk pr c (.AugAssign (.Name x p) op e pos) (.aug i o.1 e') := fun {Φ k X C} hy =>
  ps_augD o.2 hy.x.nd (hy.at n.at_) (hy.loc n.loc) (he hy).1 (n.hf hy)
theorem ok_augix {op : Operator} {ox kx : Expr} {k' : Ex} (o : {o : Op2 // (o = .add ∧ op = .Add) ∨ (o = .sub ∧ op = .Sub)}) (ho : GoodE pr c ox (.var i)) (hk : GoodE pr c kx k') (he : GoodE pr c e e') (hp : plainIxB kx = true) : SmOk pr c (.AugAssign (.Subscript ox kx p) op e pos) (.augix i k' o.1 e') := fun {Φ k X C} hy =>
  ps_augixD o.2 ((ho hy).2 i rfl) (hk hy).1 (he hy).1 hy.K (fun ov iv new => by
    cases kx with
    | Slice lo hi st q => cases st with
      | none => cases hp
      | some _ => rfl
    | _ => rfl)
theorem ok_ret (he : GoodE pr c e e') : SmOk pr c (.Return (some e) pos) (.ret e') := fun {Φ k X C} hy => by
  have hx := (he hy).1
  have hv := (he hy).2
  clear he
  cases e' with
  | var i => exact ps_retVD (hv i rfl)
  | _ => exact ps_retD hx
theorem or_false {a b : Bool} (h : (a || b) = false) : a = false ∧ b = false := Bool.or_eq_false_iff.mp h
theorem bl_nil : BlOk pr c [] [] := fun hy => pss_nilD
theorem bl_cons {s : Stmt} {s' : Sm} {ss : List Stmt} {ss' : List Sm} (h : SmOk pr c s s') (t : BlOk pr c ss ss') : BlOk pr c (s :: ss) (s' :: ss') := fun hy => pss_consD (h hy) (t hy) fun i hi => or_false hi
theorem ok_if {t : Expr} {t' : Ex} {ss us : List Stmt} {ss' us' : List Sm} (ht : GoodT pr c t t') (hs : BlOk pr c ss ss') (hu : BlOk pr c us us') : SmOk pr c (.If t ss us pos) (.cond t' ss' us') := fun hy => ps_ifD (ht hy) (hs hy) (hu hy) fun i hi => or_false hi
theorem Hy.pass {Φ : Orc} {k : Nat} {X : Cx} {C : Ct} (hy : Hy pr c Φ k X C) : PassesOwn (model X.prog X.w) X.A X.env X.xe := by rw [hy.x.xe]; exact PassesOwn.never
theorem ok_while {t : Expr} {t' : Ex} {ss : List Stmt} {ss' : List Sm} (ht : GoodT pr c t t') (hs : BlOk pr c ss ss') : SmOk pr c (.While t ss [] pos) (.whl t' ss') := fun hy => ps_whileD hy.pass (ht hy) (hs hy)
theorem ok_for {tg iter : Expr} {t : Tg} {k : ItK} {es' : List Ex} {ss : List Stmt} {ss' : List Sm} (ht : TgOk pr c tg t) (hi : ItOk pr c tg iter k es') (hs : BlOk pr c ss ss') (h1 : (varsOf es').all (fun i => !(tgHas t i || asB ss' i)) = true) (h2 : foldB iter = true) : SmOk pr c (.For tg iter ss [] pos) (.loop t k es' ss') := fun {Φ n X C} hy =>
  ps_mono (ps_for hy.pass hy.x.calm (hi hy) (ht hy) (hs hy) (fold_of h2)) fun D σ H h => for_read (fun ρ os ρ' h i hi => by
    have z := List.all_eq_true.mp h1 i (evOs_bors h i hi)
    rw [Bool.not_eq_true'] at z
    exact z) (fun i hi => or_false hi) h
/-! the translation -/
def cBl (pr : Pr) (c : SC) (f : (s : Stmt) → CS pr c s) : (ss : List Stmt) → CB pr c ss
  | [] => some ⟨[], bl_nil⟩
  | s :: ss => match f s with
    | none => none
    | some s' => match cBl pr c f ss with
      | none => none
      | some ss' => some ⟨s'.1 :: ss'.1, bl_cons s'.2 ss'.2⟩
theorem goodV {o : Expr} {o' : Ex} (h : GoodE pr c o o') (e : o' = .var i) : GoodE pr c o (.var i) := by
  intro Φ k X C hy
  have z := h hy
  rw [e] at z
  exact z
def isVarE (e' : Ex) : Option {i : Nat // e' = .var i} := match e' with
  | .var i => some ⟨i, rfl⟩
  | _ => none
def cAsgName (pr : Pr) (c : SC) (f : (c : SC) → (e : Expr) → CE pr c e) (g : (c : SC) → (e : Expr) → CT pr c e) (x : Str) (p : Pos) (pos : Pos) : (e : Expr) → CS pr c (.Assign [.Name x p] e pos)
  | .ListComp elt gs scope lp => match cLc pr c f g elt gs scope lp with
    | none => none
    | some e' => if h : nmB c x (placeOf c x) = true ∧ asgLcB c x p scope lp = true then some ⟨.asg (placeOf c x) e'.1, ok_asgLc (nmB_of h.1) e'.2 h.2⟩ else none
  | e => match f c e with
    | none => none
    | some e' => if h : nmB c x (placeOf c x) = true ∧ swF e = true then some ⟨.asg (placeOf c x) e'.1, ok_asg (nmB_of h.1) e'.2 h.2⟩ else none
def cAsgT (pr : Pr) (c : SC) (f : (e : Expr) → CE pr c e) (t e : Expr) (pos : Pos) (hw : ∀ env, swappedStores [t] e env = pure none) : CS pr c (.Assign [t] e pos) := match cTg pr c 8 t with
  | none => none
  | some tg => match f e with
    | none => none
    | some e' => if h : swF e = true ∧ noStar t = true then some ⟨.asgT tg.1 e'.1, ok_asgT tg.2 e'.2 h.1 hw h.2⟩ else none
def cAsgCell (pr : Pr) (c : SC) (f : (e : Expr) → CE pr c e) (ts : List Expr) (kt : Nat) (p : Pos) (vs : List Expr) (k2 : Nat) (p2 : Pos) (pos : Pos) : CS pr c (.Assign [.Tuple ts kt p] (.Tuple vs k2 p2) pos) := match cTg pr c 8 (.Tuple ts kt p) with
  | none => none
  | some tg => match f (.Tuple vs k2 p2) with
    | none => none
    | some e' => if h : ts.any (cellName c.sc) = true then some ⟨.asgT tg.1 e'.1, fun {Φ k X C} hy => ps_mono (ps_asg (pe_V (e'.2 hy).1) (tg.2 hy) (show swapsWith (.Tuple vs k2 p2) (some (.Tuple ts kt p)) pos.line X.env = pure false from sw_no rfl) (st_cell (by rw [hy.x.sc]; exact h)) rfl) fun D σ H h => asgT_read h⟩ else none
def cAsgTup1 (pr : Pr) (c : SC) (f : (e : Expr) → CE pr c e) (ts : List Expr) (kt : Nat) (p : Pos) (e : Expr) (pos : Pos) : CS pr c (.Assign [.Tuple ts kt p] e pos) := match ts, e with
  | [.Name x px, .Name y py], .Tuple [a, b] k2 p2 => match cEs pr c f [a, b] with
    | none => none
    | some es' => if h : nmB c x (placeOf c x) = true ∧ nmB c y (placeOf c y) = true ∧ placeOf c x ≠ placeOf c y ∧ isLoc c.sc x = true ∧ isLoc c.sc y = true ∧ x ≠ y ∧ (py.line == px.line) = true ∧ noStars [a, b] = true ∧ foldOk [a, b] = true then
        some ⟨.par [placeOf c x, placeOf c y] es'.1, ok_par2 es'.2 (nmB_of h.1) (nmB_of h.2.1) h.2.2.1 h.2.2.2.1 h.2.2.2.2.1 h.2.2.2.2.2.1 h.2.2.2.2.2.2.1 h.2.2.2.2.2.2.2.1 h.2.2.2.2.2.2.2.2⟩ else none
  | [.Name x px, .Name y py, .Name z pz], .Tuple [a, b, d] k2 p2 => match cEs pr c f [a, b, d] with
    | none => none
    | some es' => if h : nmB c x (placeOf c x) = true ∧ nmB c y (placeOf c y) = true ∧ nmB c z (placeOf c z) = true ∧ placeOf c x ≠ placeOf c y ∧ placeOf c x ≠ placeOf c z ∧ placeOf c y ≠ placeOf c z ∧ isLoc c.sc x = true ∧ isLoc c.sc y = true ∧ isLoc c.sc z = true ∧ x ≠ y ∧ x ≠ z ∧ y ≠ z ∧
          (py.line == px.line) = true ∧ (pz.line == px.line) = true ∧ noStars [a, b, d] = true ∧ foldOk [a, b, d] = true then
        some ⟨.par [placeOf c x, placeOf c y, placeOf c z] es'.1, ok_par3 es'.2 (nmB_of h.1) (nmB_of h.2.1) (nmB_of h.2.2.1) h.2.2.2.1 h.2.2.2.2.1 h.2.2.2.2.2.1 h.2.2.2.2.2.2.1 h.2.2.2.2.2.2.2.1 h.2.2.2.2.2.2.2.2.1 h.2.2.2.2.2.2.2.2.2.1 h.2.2.2.2.2.2.2.2.2.2.1 h.2.2.2.2.2.2.2.2.2.2.2.1
          h.2.2.2.2.2.2.2.2.2.2.2.2.1 h.2.2.2.2.2.2.2.2.2.2.2.2.2.1 h.2.2.2.2.2.2.2.2.2.2.2.2.2.2.1 h.2.2.2.2.2.2.2.2.2.2.2.2.2.2.2⟩ else none
  | ts, .Tuple vs k2 p2 => if h : (!(ts.length == 2 || ts.length == 3)) = true then cAsgT pr c f (.Tuple ts kt p) (.Tuple vs k2 p2) pos (fun env => st_long h) else none
  | ts, e => if h : isTup e = false then cAsgT pr c f (.Tuple ts kt p) e pos (fun env => st_none h) else none
def cAsgTup (pr : Pr) (c : SC) (f : (e : Expr) → CE pr c e) (ts : List Expr) (kt : Nat) (p : Pos) (e : Expr) (pos : Pos) : CS pr c (.Assign [.Tuple ts kt p] e pos) := match e with
  | .Tuple vs k2 p2 => if ts.any (cellName c.sc) = true then cAsgCell pr c f ts kt p vs k2 p2 pos else cAsgTup1 pr c f ts kt p (.Tuple vs k2 p2) pos
  | e => cAsgTup1 pr c f ts kt p e pos
def cSub (pr : Pr) (c : SC) (f : (e : Expr) → CE pr c e) (o kx : Expr) (p : Pos) (e : Expr) (pos : Pos) : CS pr c (.Assign [.Subscript o kx p] e pos) := match f o with
  | none => none
  | some o' => match hv : isVarE o'.1 with
    | none => none
    | some i => match f kx with
      | none => none
      | some k' => match f e with
        | none => none
        | some e' => if h : plainIxB kx = true then some ⟨.setix i.1 k'.1 e'.1, ok_set (goodV o'.2 i.2) k'.2 e'.2 h⟩ else none
def cAugS (pr : Pr) (c : SC) (f : (e : Expr) → CE pr c e) (o kx : Expr) (p : Pos) (op : Operator) (e : Expr) (pos : Pos) : CS pr c (.AugAssign (.Subscript o kx p) op e pos) := match augTo op with
  | none => none
  | some ao => match f o with
    | none => none
    | some o' => match hv : isVarE o'.1 with
      | none => none
      | some i => match f kx with
        | none => none
        | some k' => match f e with
          | none => none
          | some e' => if h : plainIxB kx = true then some ⟨.augix i.1 k'.1 ao.1 e'.1, ok_augix ao (goodV o'.2 i.2) k'.2 e'.2 h⟩ else none
def cS (pr : Pr) (c : SC) (f : (c : SC) → (e : Expr) → CE pr c e) (g : (c : SC) → (e : Expr) → CT pr c e) : Nat → (s : Stmt) → CS pr c s
  | 0, _ => none
  | n + 1, .Assign [.Name x p] e pos => cAsgName pr c f g x p pos e
  | n + 1, .Assign [.Tuple ts kt p] e pos => cAsgTup pr c (f c) ts kt p e pos
  | n + 1, .Assign [.Subscript o kx p] e pos => cSub pr c (f c) o kx p e pos
  | n + 1, .AugAssign (.Name x p) op e pos => match augTo op with
    | none => none
    | some ao => match f c e with
      | none => none
      | some e' => if h : nmB c x (placeOf c x) = true then some ⟨.aug (placeOf c x) ao.1 e'.1, ok_aug ao (nmB_of h) e'.2⟩ else none
  | n + 1, .AugAssign (.Subscript o kx p) op e pos => cAugS pr c (f c) o kx p op e pos
  | n + 1, .Expr e pos => match f c e with
    | none => none
    | some e' => if h : swF e = true then some ⟨.ex e'.1, fun hy => ps_exD (e'.2 hy).1 (sw_no h)⟩ else none
  | n + 1, .Return (some e) pos => match f c e with
    | none => none
    | some e' => some ⟨.ret e'.1, ok_ret e'.2⟩
  | n + 1, .Return none pos => some ⟨.ret (.cst .none), fun hy => ps_retND⟩
  | n + 1, .If t ss us pos => match g c t with
    | none => none
    | some t' => match cBl pr c (cS pr c f g n) ss with
      | none => none
      | some ss' => match cBl pr c (cS pr c f g n) us with
        | none => none
        | some us' => some ⟨.cond t'.1 ss'.1 us'.1, ok_if t'.2 ss'.2 us'.2⟩
  | n + 1, .While t ss [] pos => match g c t with
    | none => none
    | some t' => match cBl pr c (cS pr c f g n) ss with
      | none => none
      | some ss' => some ⟨.whl t'.1 ss'.1, ok_while t'.2 ss'.2⟩
  | n + 1, .For tg iter ss [] pos => match cTg pr c 8 tg with
    | none => none
    | some t => match cIter pr c (f c) tg iter with
      | none => none
      | some it => match cBl pr c (cS pr c f g n) ss with
        | none => none
        | some ss' => if h : (varsOf it.1.2).all (fun i => !(tgHas t.1 i || asB ss'.1 i)) = true ∧ foldB iter = true then some ⟨.loop t.1 it.1.1 it.1.2 ss'.1, ok_for t.2 it.2 ss'.2 h.1 h.2⟩ else none
  | n + 1, .Pass pos => some ⟨.pass, fun hy => ps_passD⟩
  | n + 1, .Break pos => some ⟨.brk, fun hy => ps_brkD⟩
  | n + 1, .Continue pos => some ⟨.cont, fun hy => ps_contD⟩
  | n + 1, .Raise ex ca pos => some ⟨.raise, fun hy => ps_noneD⟩
  | _ + 1, _ => none
end
/-! defs -/
def argNames (a : Arguments) : List Str := a.args.map (·.arg)
structure DefOk (pr : Pr) (st : Stmt) (fi : FnI) : Prop where
  ok : ∃ N, FnScope N (argNames (defArgs st)) (defScope st) ∧ fi.np = (argNames (defArgs st)).length ∧ fi.ns = N.length ∧ BlOk pr ⟨N, defScope st, none⟩ (defBody st) fi.body
def cDef (pr : Pr) (n : Nat) (N : List Str) (nm : Str) (st : Stmt) : Option {fi : FnI // DefOk pr st fi} :=
  match cBl pr ⟨N, defScope st, none⟩ (cS pr ⟨N, defScope st, none⟩ (cA pr n).1 (cA pr n).2 n) (defBody st) with
  | none => none
  | some b => if h : C8.scC N (argNames (defArgs st)) (defScope st) = true then some ⟨⟨nm, (argNames (defArgs st)).length, N.length, b.1⟩, ⟨N, C8.fnScope_by h, rfl, rfl, b.2⟩⟩ else none
/-- a table of defs: names of the places, the text -/
inductive DefsOk (pr : Pr) : List Stmt → Prg → Prop
  | nil : DefsOk pr [] []
  | cons {st : Stmt} {fi : FnI} {sts : List Stmt} {fis : Prg} : DefOk pr st fi → DefsOk pr sts fis → DefsOk pr (st :: sts) (fi :: fis)
def cDefs (pr : Pr) (n : Nat) : (xs : List (List Str × Str × Stmt)) → Option {fis : Prg // DefsOk pr (xs.map (·.2.2)) fis}
  | [] => some ⟨[], .nil⟩
  | (N, nm, st) :: xs => match cDef pr n N nm st with
    | none => none
    | some fi => match cDefs pr n xs with
      | none => none
      | some fis => some ⟨fi.1 :: fis.1, .cons fi.2 fis.2⟩
theorem DefsOk.at {pr : Pr} : ∀ {sts : List Stmt} {fis : Prg} {f : Nat} {st : Stmt}, DefsOk pr sts fis → sts[f]? = some st → ∃ fi, fis[f]? = some fi ∧ DefOk pr st fi
  | _, _, _, _, .nil, h => by simp at h
  | _, _, 0, _, .cons d _, h => by simp at h; subst h; exact ⟨_, rfl, d⟩
  | _, _, f + 1, st, .cons _ t, h => by
    obtain ⟨fi, h1, h2⟩ := DefsOk.at (f := f) (st := st) t (by simpa using h)
    exact ⟨fi, by simpa using h1, h2⟩
/-- what the program's top has left of a def -/
structure TopDef (K : PySem.W.Frag) (mg : Str → Option Value) (x : Str) (st : Stmt) : Prop where
  ok : ∃ (a : Addr) (fd : FuncData), FunD K x x (defArgs st) (defBody st) (defScope st) [] [] a fd ∧ mg x = some (.ref a) ∧ Binds K fd (argNames (defArgs st)) []
theorem fn_level {pr : Pr} {prg : Prg} {sts : List Stmt} {P : Program} {w : World} {K : PySem.W.Frag} {mg : Str → Option Value} {base : Heap} (hd : DefsOk pr sts prg) {n f : Nat} {x : Str} {st : Stmt} {a : Addr} {fd : FuncData}
    (ih : GOk pr (Phi prg n) n P w K mg base) (hst : sts[f]? = some st) (F : FunD K x x (defArgs st) (defBody st) (defScope st) [] [] a fd) : FnG P w K mg base (n + 1) a fd (argNames (defArgs st)) (spD K (Phi prg (n + 1)) f) := by
  obtain ⟨fi, hfi, ⟨N, S, np, ns, body⟩⟩ := hd.at hst
  have phi : ∀ args r, Phi prg (n + 1) f args = some r → args.length = fi.np ∧ ((∃ d fr ρ, exB (Phi prg n) fi.body (args ++ List.replicate (fi.ns - fi.np) none) = some (.ret d fr ρ) ∧ r = (d, fr, ρ.take fi.np)) ∨
      ∃ ρ, exB (Phi prg n) fi.body (args ++ List.replicate (fi.ns - fi.np) none) = some (.nx ρ) ∧ r = (.none, false, ρ.take fi.np)) := fun args r hr => by
    have hr : (match prg[f]? with | some fi => runF (Phi prg n) fi args | none => none) = some r := hr
    rw [hfi] at hr
    have hr : runF (Phi prg n) fi args = some r := hr
    unfold runF at hr
    obtain ⟨hl, hr⟩ := Option.ite_none_right_eq_some.mp hr
    refine ⟨hl, ?_⟩
    split at hr
    · rename_i d fr ρ e
      cases hr
      exact .inl ⟨d, fr, ρ, e, rfl⟩
    · rename_i ρ e
      cases hr
      exact .inr ⟨ρ, e, rfl⟩
    · cases hr
  refine fnG_of F S ?_ ?_
  · rintro vs H Q E ⟨F0, args, d, fr, outs, A, z, _⟩
    rw [← A.len, (phi _ _ z).1, np]
  · intro cdv A outer s H vs Q E hr hg hsp
    obtain ⟨F0, args, d, fr, outs, AO, z, k⟩ := hsp
    obtain ⟨hl, z⟩ := phi _ _ z
    have hy : Hy pr ⟨N, defScope st, none⟩ (Phi prg n) n (cxOf noCX P w K mg base N x (defScope st) a cdv A outer s H E).nox (ctOf K F0 H args vs) :=
      ⟨ih, ⟨rfl, rfl, S.nd, rfl, fun _ _ => rfl, hr, hg, rfl, S.kind⟩, rfl⟩
    refine ⟨_, body hy, ?_⟩
    have st0 : Sim (ctOf K F0 H args vs) F0 (args ++ List.replicate (fi.ns - fi.np) none) (start N vs) H := Sim.start AO (by rw [ns, ← AO.len, hl])
    rcases z with ⟨d', fr', ρ, e, er⟩ | ⟨ρ, e, er⟩
    · cases er
      refine ⟨F0, _, _, st0, e, fun F1 σ1 H1 v S1 r1 => ?_⟩
      have := post_of AO S1 r1
      rw [hl] at this
      exact k F1 H1 v this
    · cases er
      refine ⟨F0, _, _, st0, e, fun F1 σ1 H1 a1 => ?_⟩
      have := post_of (d := .none) (fr := false) (v := .non) AO a1.sim (show Rep K F1 H1 .none .non from .non)
      rw [hl] at this
      exact k F1 H1 _ this
theorem levels {pr : Pr} {prg : Prg} {sts : List Stmt} {P : Program} {w : World} {K : PySem.W.Frag} {mg : Str → Option Value} {base : Heap} (hd : DefsOk pr sts prg)
    (ht : ∀ (f : Nat) (x : Str) (bs : List Bool), pr.defs[f]? = some (x, bs) → ∃ st, sts[f]? = some st ∧ TopDef K mg x st)
    (hc : ∀ x d, pr.consts.lookup x = some d → ∃ u v, mg x = some u ∧ RelV v u ∧ ∀ F H, Rep K F H d v) (hf : ∀ x, x ∈ pr.free → mg x = none) : ∀ n : Nat, GOk pr (Phi prg n) n P w K mg base
  | 0 => by
      refine ⟨fun f x bs h => ?_, hc, hf⟩
      obtain ⟨st, _, ⟨a, fd, F, h1, h2⟩⟩ := ht f x bs h
      refine ⟨a, fd, argNames (defArgs st), h1, F.kp, h2, ?_, ?_⟩
      · rintro vs H Q E ⟨_, _, _, _, _, _, z, _⟩
        cases z
      · intro A outer s H args us vs Q E _ _ _ _ _ hsp
        obtain ⟨_, _, _, _, _, _, z, _⟩ := hsp
        cases z
  | n + 1 => by
      refine ⟨fun f x bs h => ?_, hc, hf⟩
      obtain ⟨st, hst, ⟨a, fd, F, h1, h2⟩⟩ := ht f x bs h
      exact ⟨a, fd, argNames (defArgs st), h1, F.kp, h2, fn_level hd (levels (P := P) (w := w) (base := base) hd ht hc hf n) hst F⟩
end EV

/-! EvO: the program's top; the law's call. -/
namespace EV
open PySem PySem.Spec PyProof.Rows L2
/-! constants of the module -/
mutual
def conB (K : PySem.W.Frag) : D → Value → Bool
  | .none, .none => true
  | .bool b, .bool c => b == c
  | .int i, .int j _ => decide (i = j)
  | .str x, .str y _ => decide (x = y)
  | .tuple ds, .ref a => match K.lookup a with
    | some ⟨.type c, _, .seq its _, _⟩ => decide (c = "tuple") && (decide (its.size ≤ sizeLine) && conAll K ds its.toList)
    | _ => false
  | _, _ => false
def conAll (K : PySem.W.Frag) : List D → List Value → Bool
  | [], [] => true
  | d :: ds, u :: us => conB K d u && conAll K ds us
  | _, _ => false
end
mutual
theorem conB_ok {K : PySem.W.Frag} : ∀ {d : D} {u : Value}, conB K d u = true → ∃ v, RelV v u ∧ ∀ F H, Rep K F H d v
  | .none, u, h => by
    cases u with
    | none => exact ⟨.non, rfl, fun _ _ => .non⟩
    | _ => cases h
  | .bool b, u, h => by
    cases u with
    | bool c =>
      have e : b = c := eq_of_beq (show (b == c) = true from h)
      subst e
      exact ⟨.bl b, rfl, fun _ _ => .bl b⟩
    | _ => cases h
  | .int i, u, h => by
    cases u with
    | int j t =>
      have e : i = j := of_decide_eq_true h
      subst e
      exact ⟨.int i, ⟨t, rfl⟩, fun _ _ => .int i⟩
    | _ => cases h
  | .str x, u, h => by
    cases u with
    | str y t =>
      have e : x = y := of_decide_eq_true h
      subst e
      exact ⟨.str x, ⟨t, rfl⟩, fun _ _ => .str x⟩
    | _ => cases h
  | .tuple ds, u, h => by
    cases u with
    | ref a =>
      have h : (match K.lookup a with
        | some ⟨.type c, _, .seq its _, _⟩ => decide (c = "tuple") && (decide (its.size ≤ sizeLine) && conAll K ds its.toList)
        | _ => false) = true := h
      cases q : K.lookup a with
      | none => rw [q] at h; cases h
      | some o =>
        obtain ⟨oc, od, dt, sl⟩ := o
        rw [q] at h
        cases oc with
        | type cc =>
          cases dt with
          | seq its n =>
            have h : (decide (cc = "tuple") && (decide (its.size ≤ sizeLine) && conAll K ds its.toList)) = true := h
            simp only [Bool.and_eq_true, decide_eq_true_eq] at h
            obtain ⟨vs, rv, rr⟩ := conAll_ok h.2.2
            exact ⟨.ref a, rfl, fun F H => .tup (.inr ⟨_, its, n, q, congrArg Value.type h.1, rfl, h.2.1, rv⟩) (rr F H)⟩
          | _ => cases h
        | _ => cases dt <;> cases h
    | _ => cases h
  | .list _, u, h => by cases u <;> cases h
  | .dict _, u, h => by cases u <;> cases h
theorem conAll_ok {K : PySem.W.Frag} : ∀ {ds : List D} {us : List Value}, conAll K ds us = true → ∃ vs, Vals vs us ∧ ∀ F H, Reps K F H ds vs
  | [], [], _ => ⟨[], .nil, fun _ _ => .nil⟩
  | [], _ :: _, h => nomatch h
  | _ :: _, [], h => nomatch h
  | d :: ds, u :: us, h => by
    obtain ⟨h1, h2⟩ := Bool.and_eq_true_iff.mp (show (conB K d u && conAll K ds us) = true from h)
    obtain ⟨v, q1, q2⟩ := conB_ok h1
    obtain ⟨vs, q3, q4⟩ := conAll_ok h2
    exact ⟨v :: vs, .cons q1 q3, fun F H => .cons (q2 F H) (q4 F H)⟩
end
def constB (K : PySem.W.Frag) (p : Str × D) : Bool := match PySem.W.nsIn K mainGlobals p.1 with
  | some (some u) => conB K p.2 u
  | _ => false
def constsB (pr : Pr) (K : PySem.W.Frag) : Bool := pr.consts.all (constB K)
theorem consts_ok {pr : Pr} {K : PySem.W.Frag} {h : Heap} {mg : Str → Option Value} (X : K.In h) (G : h.Ns mainGlobals mg) (c : constsB pr K = true) : ∀ x d, pr.consts.lookup x = some d → ∃ u v, mg x = some u ∧ RelV v u ∧ ∀ F H, Rep K F H d v := fun x d e => by
  have z := List.all_eq_true.mp c (x, d) (PySem.mem_of_lookup e)
  unfold constB at z
  split at z
  · rename_i u hu
    obtain ⟨v, q1, q2⟩ := conB_ok z
    exact ⟨u, v, PySem.W.mg_of X G hu, q1, q2⟩
  · cases z
/-! the head's facts -/
def defD (p : List Str × Str × Stmt) : He.DefD := ⟨(p.2.1, none), p.2.1, p.2.1, defArgs p.2.2, defBody p.2.2, defScope p.2.2, [], []⟩
abbrev Tab := List (List Str × Str × Stmt)
def fnOf (t : Tab) : List He.DefD := t.map defD
def faOf (pr : Pr) (t : Tab) : List He.Fa := t.map (fun p => .glo p.2.1) ++ pr.free.map .free
abbrev AlT : Type := He.AlD × Bool
def obsT (n : Nat) (pr : Pr) (t : Tab) (g : Addr → Option Obj) : AlT := (He.obsD (faOf pr t) (fnOf t) (He.frG g (He.asD g n)), constsB pr (He.frG g (He.asD g n)))
def hookT (n : Nat) (pr : Pr) (t : Tab) : PySem.W.Hook where
  α := AlT
  obs := fun s => obsT n pr t s.heap.get?
  val := fun _ => (He.valD (fnOf t), true)
  says := fun _ h => ∃ K : PySem.W.Frag, K.In h ∧ He.SaysD (faOf pr t) (fnOf t) K ∧ constsB pr K = true
  of := fun _ _ e => ⟨_, He.frG_in, congrArg Prod.fst e, congrArg Prod.snd e⟩
  keeps := fun _ _ _ ⟨K, hK, c⟩ k => ⟨K, PySem.W.Frag.In.keeps hK k, c⟩
theorem obsT_eq {n : Nat} {pr : Pr} {t : Tab} {g : Addr → Option Obj} {s : Shared} (h : ∀ a, g a = s.heap.get? a) : obsT n pr t g = (hookT n pr t).obs s := by
  have e : g = s.heap.get? := funext h
  rw [e] <;> rfl
/-- how a def's arguments are bound -/
def BindOk (p : List Str × Str × Stmt) : Prop := ∀ (kV doc pm : Value) (an : Option Addr) (cdv ct : Value) (us : List Value), us.length = (argNames (defArgs p.2.2)).length →
  bindArgs (PySem.W.fnOf p.2.1 p.2.1 (defArgs p.2.2) (defBody p.2.2) (defScope p.2.2) .none kV doc pm an cdv ct) ⟨us, []⟩ = pure ((argNames (defArgs p.2.2)).zip us)
theorem BindOk.of {p : List Str × Str × Stmt} (n : Nat) (e : (argNames (defArgs p.2.2)).length = n) (h : ∀ (kV doc pm : Value) (an : Option Addr) (cdv ct : Value) (us : List Value), us.length = n →
    bindArgs (PySem.W.fnOf p.2.1 p.2.1 (defArgs p.2.2) (defBody p.2.2) (defScope p.2.2) .none kV doc pm an cdv ct) ⟨us, []⟩ = pure ((argNames (defArgs p.2.2)).zip us)) : BindOk p := fun kV doc pm an cdv ct us hl => h kV doc pm an cdv ct us (hl.trans e)
inductive BindsOk : Tab → Prop
  | nil : BindsOk []
  | cons {p : List Str × Str × Stmt} {t : Tab} : BindOk p → BindsOk t → BindsOk (p :: t)
theorem BindsOk.at : ∀ {t : Tab} {f : Nat} {p : List Str × Str × Stmt}, BindsOk t → t[f]? = some p → BindOk p
  | _, _, _, .nil, h => by simp at h
  | _, 0, _, .cons b _, h => by simp at h; subst h; exact b
  | _, f + 1, p, .cons _ t, h => BindsOk.at (f := f) (p := p) t (by simpa using h)
theorem tops_ok {pr : Pr} {t : Tab} {K : PySem.W.Frag} {h : Heap} {mg : Str → Option Value} (X : K.In h) (G : h.Ns mainGlobals mg) (c : He.SaysD (faOf pr t) (fnOf t) K) (B : BindsOk t) (hd : pr.defs.map (·.1) = t.map (·.2.1)) :
    ∀ (f : Nat) (x : Str) (bs : List Bool), pr.defs[f]? = some (x, bs) → ∃ st, (t.map (·.2.2))[f]? = some st ∧ TopDef K mg x st := fun f x bs e => by
  have e1 : (pr.defs.map (·.1))[f]? = some x := by rw [List.getElem?_map, e]; rfl
  rw [hd, List.getElem?_map] at e1
  obtain ⟨p, hp, hx⟩ := Option.map_eq_some_iff.mp e1
  refine ⟨p.2.2, by rw [List.getElem?_map, hp]; rfl, ?_⟩
  obtain ⟨fd, F⟩ := c.def_ f (d := defD p) (by unfold fnOf; rw [List.getElem?_map, hp]; rfl)
  have hl : f < t.length := (List.getElem?_eq_some_iff.mp hp).1
  have g := c.fact f (f := .glo p.2.1) (by
    unfold faOf
    rw [List.getElem?_append_left (by rw [List.length_map]; exact hl), List.getElem?_map, hp]
    rfl)
  subst hx
  exact ⟨He.ga K p.2.1, fd, F, He.glo_ok X G g, FunD.bindsN (F : FunD K p.2.1 p.2.1 (defArgs p.2.2) (defBody p.2.2) (defScope p.2.2) [] [] (He.ga K p.2.1) fd) (B.at hp)⟩
theorem frees_ok {pr : Pr} {t : Tab} {K : PySem.W.Frag} {h : Heap} {mg : Str → Option Value} (X : K.In h) (G : h.Ns mainGlobals mg) (c : He.SaysD (faOf pr t) (fnOf t) K) : ∀ x, x ∈ pr.free → mg x = none := fun x hx => by
  obtain ⟨i, hi⟩ := List.getElem?_of_mem hx
  have g := c.fact (t.length + i) (f := .free x) (by
    unfold faOf
    rw [List.getElem?_append_right (by rw [List.length_map]; omega), List.length_map, Nat.add_sub_cancel_left, List.getElem?_map, hi]
    rfl)
  exact He.free_ok X G g
/-! the law's call -/
theorem law_callG {P : Program} {w : World} {K : PySem.W.Frag} {mg mb : Str → Option Value} {k : Nat} {fa a : Addr} {fd : FuncData} {x : Str} {sp : Sp} {s₁ : Shared} {vs : List Value} {ns : List Int}
    (KX : K.In s₁.heap) (hns : s₁.heap.Ns mainGlobals mg) (hb : s₁.heap.Ns builtinsNs mb) (hbb : ∀ x : Str, x ≠ "__name__" → mb x = bootBuiltins x) (hlim : s₁.heap.NoLimit) (hg : s₁.gens = #[])
    (ha : s₁.heap.get? a = some { cls := .type "list", data := .seq vs.toArray }) (hi : IntsAre vs ns) (hl : ns.length ≤ sizeLine) (hr : Room k callerA)
    (F : ∀ base : Heap, K.In base → base.Ns mainGlobals mg → FnG P w K mg base k fa fd [x] sp) (hbind : ∀ (s : Shared) (u : Value), BindsTo s fd ⟨[u], []⟩ [(x, u)])
    (hsp : ∀ H : Hp, RdL K H a (ns.map V.int) → sp [.ref a] H (fun v _ => v = .bl true) fun _ _ _ => False) :
    codeAny (model P w) callerA (.call (.ref fa) ⟨[.ref a], []⟩) (fun r s' => r = .ok (.ret (.bool true)) ∧ OldK s₁.heap s'.heap ∧ s'.os = s₁.os ∧ AllBare s'.gens) s₁ := by
  have rv := vals_ints hi
  have lenV := hi.length
  -- over an abstract heap that tracks at most the script, and that as it stands
  have main : ∀ H : Hp, (∀ b, H b = none ∨ ∃ ob xs, H b = some (.frz ob (.lst xs))) → RdL K H a (ns.map V.int) → HOk P w H s₁.heap → (∀ b, H b ≠ none → b = a) → (H a ≠ none → K.lookup a = none) →
      codeAny (model P w) callerA (.call (.ref fa) ⟨[.ref a], []⟩) (fun r s' => r = .ok (.ret (.bool true)) ∧ OldK s₁.heap s'.heap ∧ s'.os = s₁.os ∧ AllBare s'.gens) s₁ := by
    intro H hO hS hok only nk
    have same : ∀ {b : Addr} {o : Obj}, s₁.heap.get? b = some o → H b = none → (hidT s₁.heap H).get? b = some o := fun e n => hidT_get e n
    have dictN : ∀ {b : Addr} {o : Obj} {es : Array DictEntry} {ep : Nat}, s₁.heap.get? b = some o → o.data = .dict es ep → H b = none := fun {b o es ep} e d => by
      cases q : H b with
      | none => rfl
      | some u =>
        have e' : b = a := only b (by rw [q]; simp)
        subst e'
        rw [ha] at e
        cases e
        cases (show Data.seq vs.toArray _ = Data.dict es ep from d)
    have ns' : ∀ {b : Addr} {m : Str → Option Value}, s₁.heap.Ns b m → (hidT s₁.heap H).Ns b m := fun {b m} ⟨o, es, ep, e, d, r⟩ => ⟨o, es, ep, same e (dictN e d), d, r⟩
    have kb : K.In (hidT s₁.heap H) := fun b o e => same (KX b o e) (by
      cases q : H b with
      | none => rfl
      | some u =>
        have e' : b = a := only b (by rw [q]; simp)
        subst e'
        rw [nk (by rw [q]; simp)] at e
        cases e)
    have md : Mod K mg (hidT s₁.heap H) := ⟨kb, ns' hns, ⟨mb, ns' hb, hbb⟩, let ⟨mc, h1, h2⟩ := hlim; ⟨mc, ns' h1, h2⟩⟩
    have e0 : Env0 P w K mg (hidT s₁.heap H) callerA [] s₁ H := ⟨rfl, md, fun b o e => of_hidT e, Nat.le_of_eq (hidT_size _ _), trivial, fun b hb => absurd (show b ∈ ([] : List Addr) from hb) (by simp), hok, .of_eq hg⟩
    refine codeAny_mono ((F _ kb (ns' hns)).go (us := [.ref a]) (vs := [.ref a]) hr rfl e0 (hbind s₁ (.ref a)) (.cons rfl .nil) (hsp H hS)) ?_
    intro r s' h
    cases r with
    | error e => exact (show False from h).elim
    | ok fl =>
      cases fl with
      | ret u =>
        obtain ⟨v, H', os, bare, un, hok', r', q⟩ := h
        obtain rfl : v = .bl true := q
        obtain rfl : u = Value.bool true := r'
        refine ⟨rfl, OldK.of_keep fun b o e => ?_, os, bare⟩
        rcases hO b with z | ⟨ob, xs, z⟩
        · exact un.keep b o e z (fun y => absurd (show b ∈ ([] : List Addr) from y) (by simp)) (by simp)
        · have z2 := un.frzs b ob _ z
          obtain ⟨e1, _⟩ := hok b _ z
          obtain ⟨e2, _⟩ := hok' b _ z2
          rw [e] at e1; cases e1
          exact e2
      | _ => exact (show False from h).elim
  cases hk : K.lookup a with
  | some o =>
    have e := KX a o hk
    rw [ha] at e
    cases e
    exact main (fun _ => none) (fun _ => .inl rfl) (.inr ⟨vs.toArray, _, hk, by rw [List.size_toArray, lenV]; exact hl, by simpa using rv⟩) (fun b u z => nomatch (show (none : Option HO) = some u from z)) (fun b z => absurd rfl z) fun z => absurd rfl z
  | none =>
    refine main (fun b => if b = a then some (.frz { cls := .type "list", data := .seq vs.toArray } (.lst (ns.map V.int))) else none) (fun b => ?_) (.inl (.inr ⟨{ cls := .type "list", data := .seq vs.toArray }, if_pos rfl⟩)) (fun b u z => ?_) (fun b z => ?_) fun _ => hk
    · by_cases hb : b = a
      · exact .inr ⟨_, _, if_pos hb⟩
      · exact .inl (if_neg hb)
    · by_cases hb : b = a
      · have z' := (if_pos hb).symm.trans z
        cases z'
        subst hb
        exact ⟨ha, by rw [List.length_map]; exact hl, vs, _, rv, ha⟩
      · cases (if_neg hb).symm.trans z
    · by_cases hb : b = a
      · exact hb
      · exact absurd (if_neg hb) z
theorem walk_ofG {l : PySem.W.OpenLaw} {n k : Nat} {q : Program} {loose : List Str} {XP : (Str → Option Value) → Heap → Prop} {YP : World → Heap → Prop} {d : DefRec} {x : Str}
    (hn : l.most = some n) (hn2 : n ≤ sizeLine) (hdf : d.params.defaults = []) (hr : Room k callerA)
    (F : ∀ (w : World) (mg : Str → Option Value) (fa : Addr) (h : Heap), YP w h → h.Ns mainGlobals mg → mg d.name = some (.ref fa) →
      ∃ (K : PySem.W.Frag) (fd : FuncData) (sp : Sp), K.In h ∧ (∀ (s : Shared) (u : Value), BindsTo s fd ⟨[u], []⟩ [(x, u)]) ∧
        (∀ (H : Hp) (a : Addr) (ns : List Int), ns.length ≤ n → (∀ z ∈ ns, Builtin.Int.intBits z ≤ 1048576) → RdL K H a (ns.map V.int) → sp [.ref a] H (fun v _ => v = .bl true) fun _ _ _ => False) ∧
        ∀ base : Heap, K.In base → base.Ns mainGlobals mg → FnG l.prog w K mg base k fa fd [x] sp) :
    PySem.W.WalkO q loose XP YP l.row.toRowW d [] (fun f vs => PySem.call f vs) := by
  refine Att.attach_callB hn hdf fun w s₀ s₁ mg mb fa o pm cd doc a vs ns G Y ho hd hcd hmg hobj hints hlen hbits hg => ?_
  obtain ⟨K, fd, sp, KX, hb, hsp, hF⟩ := F w mg fa _ Y G.T.g hmg
  exact law_callG KX G.T.g G.T.b G.T.builtins G.T.nolimit hg hobj hints (Nat.le_trans hlen hn2) hr hF hb fun H hS => hsp H a ns hlen hbits hS
/-- the law by the evaluator -/
theorem sp_law {K : PySem.W.Frag} {Φ : Orc} {f : Nat} {H : Hp} {a : Addr} {ns : List Int} {outs : List (Option Sl)} (hS : RdL K H a (ns.map V.int)) (h : Φ f [some ⟨.list (ns.map PyData.int), false, false⟩] = some (.bool true, false, outs)) :
    spD K Φ f [.ref a] H (fun v _ => v = .bl true) fun _ _ _ => False := by
  have reps : ∀ (F : Addr → Prop) (l : List Int), Reps K F H (l.map PyData.int) (l.map V.int) := fun F l => by
    induction l with
    | nil => exact .nil
    | cons i l ih => exact .cons (.int i) ih
  have fin : ∀ F : Addr → Prop, (∀ b, F b → ∃ o, H b = some o) → Rep K F H (.list (ns.map PyData.int)) (.ref a) → spD K Φ f [.ref a] H (fun v _ => v = .bl true) fun _ _ _ => False := fun F hF r => by
    refine ⟨F, [some ⟨.list (ns.map PyData.int), false, false⟩], .bool true, false, outs, ⟨rfl, fun p o e => ?_, fun p s v e1 e2 e3 => ?_, fun p s e1 e2 => ?_, fun p q s t b e1 e2 e3 => ?_, hF⟩, h, fun F' H' v P => ?_⟩
    · cases p with
      | zero => simp at e; exact ⟨_, e.symm, rfl⟩
      | succ p => simp at e
    · cases p with
      | zero => simp at e1 e3; subst e1 e3; exact r
      | succ p => simp at e1
    · cases p with
      | zero => simp at e1; subst e1; cases e2
      | succ p => simp at e1
    · cases p with
      | zero => simp at e1; subst e1; cases e3
      | succ p => simp at e1
    · have z : Rep K F' H' (.bool true) v := P.res
      cases z
      rfl
  rcases hS with hS | hS
  · refine fin (fun b => b = a) (fun b e => ?_) (.lst rfl hS (reps _ ns))
    subst e
    rcases hS with z | ⟨ob, z⟩
    · exact ⟨_, z⟩
    · exact ⟨_, z⟩
  · exact fin (fun _ => False) (fun _ z => z.elim) (.lstK hS (reps _ ns))
end EV

set_option maxHeartbeats 0
namespace Tab
open PySem EV L2
def top (i : Nat) : Stmt := PySem.Challenge.pw_everyhost_k43_whole_rules_of_leases_besi.main.body.getD i (.Pass ⟨0, 0, 0, 0⟩)
def defs0 : List (Str × List Bool) := [("is_number", [false]), ("gcd", [false, false]), ("fraction", [false, false]), ("plus", [false, false]), ("less", [false, false])]
def defs1 : List (Str × List Bool) := [("times", [false, false]), ("is_within", [false, false, false]), ("is_lease_rule", [false]), ("last_act", [false]), ("first_settled", [false])]
def defs2 : List (Str × List Bool) := [("is_safe", [false]), ("least_wait", [false]), ("with_number", [false, false, false]), ("greatest", [false, false, false, false]), ("greatest_hold", [false])]
def defs3 : List (Str × List Bool) := [("greatest_run", [false]), ("least_waits", [false]), ("faults_of", [false]), ("is_time", [false]), ("is_form", [false, false])]
def defs4 : List (Str × List Bool) := [("is_below", [false, false]), ("are_clocks", [false, false]), ("lease_end", [false, false]), ("settling", [false, false]), ("is_behind", [false, false, false])]
def defs5 : List (Str × List Bool) := [("course_fault", [false, false]), ("is_course", [false, false]), ("spare", [false, false]), ("is_break", [false, false]), ("break_of", [false])]
def defs6 : List (Str × List Bool) := [("_law_frac", [false, false]), ("_law_is_less", [false, false]), ("_law_last_act", [false]), ("_law_first_settled", [false]), ("_law_is_safe", [false])]
def defs7 : List (Str × List Bool) := [("_law_drawn_rule", [true]), ("_law_bag", [false]), ("_law_take", [true, false]), ("_law_alike", [false, false]), ("_law_often", [false, false])]
def defs8 : List (Str × List Bool) := [("_law_in_bounds", [false]), ("_law_frac_often", [false, false]), ("_law_course_often", [false, false]), ("_law_some", [true, false]), ("law", [false])]
def defs : List (Str × List Bool) := defs0 ++ defs1 ++ defs2 ++ defs3 ++ defs4 ++ defs5 ++ defs6 ++ defs7 ++ defs8
def consts0 : List (Str × D) := [("KINDS", .tuple [.str "until", .str "asked", .str "heard"]), ("MOST", .int (1000000)), ("MOST_APART", .int (400)), ("WHOLE", .int (1000)), ("ZERO", .tuple [.int (0), .int (1)])]
def consts : List (Str × D) := consts0
def free0 : List Str := ["abs", "all", "any", "bool", "enumerate", "int", "isinstance", "len"]
def free1 : List Str := ["max", "min", "range", "repr", "set", "str", "tuple"]
def free : List Str := free0 ++ free1
def pr : Pr := ⟨defs, consts, free⟩
def N_1 : List Str := (["thing"] : List Str)
def N_7 : List Str := (["one", "other"] : List Str)
def N_8 : List Str := (["top", "bottom", "least"] : List Str)
def N_9 : List Str := (["one", "other"] : List Str)
def N_10 : List Str := (["one", "other"] : List Str)
def N_11 : List Str := (["one", "other"] : List Str)
def N_12 : List Str := (["thing", "low", "high"] : List Str)
def N_13 : List Str := (["thing", "kind", "hold", "late", "apart", "run", "wait"] : List Str)
def N_14 : List Str := (["rule", "kind", "hold", "late", "apart", "run", "wait", "more"] : List Str)
def N_15 : List Str := (["rule", "kind", "hold", "late", "apart", "run", "wait"] : List Str)
def N_16 : List Str := (["rule"] : List Str)
def N_17 : List Str := (["rule", "top", "bottom"] : List Str)
def N_18 : List Str := (["rule", "at", "number"] : List Str)
def N_19 : List Str := (["rule", "at", "low", "high", "middle"] : List Str)
def N_20 : List Str := (["rule"] : List Str)
def N_21 : List Str := (["rule"] : List Str)
def N_22 : List Str := (["rules", "rule"] : List Str)
def N_23 : List Str := (["rules", "at", "rule"] : List Str)
def N_26 : List Str := (["thing", "part"] : List Str)
def N_27 : List Str := (["rule", "thing", "part"] : List Str)
def N_28 : List Str := (["one", "other"] : List Str)
def N_29 : List Str := (["rule", "thing", "apart", "host", "store", "low", "high", "speed"] : List Str)
def N_30 : List Str := (["rule", "thing", "asked", "given", "came", "begun", "acted", "settled"] : List Str) ++ (["host", "store", "first"] : List Str)
def N_31 : List Str := (["rule", "thing"] : List Str)
def N_32 : List Str := (["first", "time", "most"] : List Str)
def N_33 : List Str := (["rule", "thing", "asked", "given", "came", "begun", "acted", "settled"] : List Str) ++ (["host", "store"] : List Str)
def N_34 : List Str := (["rule", "thing"] : List Str)
def N_35 : List Str := (["rule", "thing"] : List Str)
def N_36 : List Str := (["rule", "thing"] : List Str)
def N_37 : List Str := (["rule", "kind", "hold", "late", "apart", "run", "wait", "gap"] : List Str) ++ (["little", "given", "host", "store", "came", "course", "begun"] : List Str)
def N_39 : List Str := (["top", "bottom", "one", "other", "sign"] : List Str)
def N_40 : List Str := (["one", "other"] : List Str)
def N_41 : List Str := (["rule", "kind", "hold", "late", "apart", "run", "wait"] : List Str)
def N_42 : List Str := (["rule"] : List Str)
def N_43 : List Str := (["rule"] : List Str)
def N_44 : List Str := (["bag", "kind", "apart", "hold", "late", "run", "top", "bottom"] : List Str) ++ (["need", "wait"] : List Str)
def N_45 : List Str := (["script", "cell"] : List Str)
def N_46 : List Str := (["bag", "many", "cell", "stirred", "value", "begin", "second"] : List Str)
def N_47 : List Str := (["found", "due"] : List Str)
def N_48 : List Str := (["rule", "n", "kind", "hold", "late", "apart", "run", "wait"] : List Str)
def N_49 : List Str := (["rule"] : List Str)
def N_50 : List Str := (["one", "n"] : List Str)
def N_51 : List Str := (["course", "n", "time"] : List Str)
def N_52 : List Str := (["bag", "things"] : List Str)
def N_53 : List Str := (["script", "bag", "lap", "rule", "kind", "hold", "late", "apart"] : List Str) ++ (["run", "wait", "safe", "found", "many", "other", "led", "easier"] : List Str) ++ (["one", "bare", "same", "rows", "far", "k"] : List Str)
def tab0 : List (List Str × Str × Stmt) := [(N_1, "is_number", top 1), (N_7, "gcd", top 7), (N_8, "fraction", top 8), (N_9, "plus", top 9), (N_10, "less", top 10)]
def tab1 : List (List Str × Str × Stmt) := [(N_11, "times", top 11), (N_12, "is_within", top 12), (N_13, "is_lease_rule", top 13), (N_14, "last_act", top 14), (N_15, "first_settled", top 15)]
def tab2 : List (List Str × Str × Stmt) := [(N_16, "is_safe", top 16), (N_17, "least_wait", top 17), (N_18, "with_number", top 18), (N_19, "greatest", top 19), (N_20, "greatest_hold", top 20)]
def tab3 : List (List Str × Str × Stmt) := [(N_21, "greatest_run", top 21), (N_22, "least_waits", top 22), (N_23, "faults_of", top 23), (N_26, "is_time", top 26), (N_27, "is_form", top 27)]
def tab4 : List (List Str × Str × Stmt) := [(N_28, "is_below", top 28), (N_29, "are_clocks", top 29), (N_30, "lease_end", top 30), (N_31, "settling", top 31), (N_32, "is_behind", top 32)]
def tab5 : List (List Str × Str × Stmt) := [(N_33, "course_fault", top 33), (N_34, "is_course", top 34), (N_35, "spare", top 35), (N_36, "is_break", top 36), (N_37, "break_of", top 37)]
def tab6 : List (List Str × Str × Stmt) := [(N_39, "_law_frac", top 39), (N_40, "_law_is_less", top 40), (N_41, "_law_last_act", top 41), (N_42, "_law_first_settled", top 42), (N_43, "_law_is_safe", top 43)]
def tab7 : List (List Str × Str × Stmt) := [(N_44, "_law_drawn_rule", top 44), (N_45, "_law_bag", top 45), (N_46, "_law_take", top 46), (N_47, "_law_alike", top 47), (N_48, "_law_often", top 48)]
def tab8 : List (List Str × Str × Stmt) := [(N_49, "_law_in_bounds", top 49), (N_50, "_law_frac_often", top 50), (N_51, "_law_course_often", top 51), (N_52, "_law_some", top 52), (N_53, "law", top 53)]
def tab : List (List Str × Str × Stmt) := tab0 ++ tab1 ++ tab2 ++ tab3 ++ tab4 ++ tab5 ++ tab6 ++ tab7 ++ tab8

def loose0 : List Str := ["__name__", "is_number", "KINDS", "MOST", "MOST_APART", "WHOLE", "gcd", "fraction"]
def loose1 : List Str := ["plus", "less", "times", "is_within", "is_lease_rule", "last_act", "first_settled", "is_safe"]
def loose2 : List Str := ["least_wait", "with_number", "greatest", "greatest_hold", "greatest_run", "least_waits", "faults_of", "ZERO"]
def loose3 : List Str := ["is_time", "is_form", "is_below", "are_clocks", "lease_end", "settling", "is_behind", "course_fault"]
def loose4 : List Str := ["is_course", "spare", "is_break", "break_of", "_law_frac", "_law_is_less", "_law_last_act", "_law_first_settled"]
def loose5 : List Str := ["_law_is_safe", "_law_drawn_rule", "_law_bag", "_law_take", "_law_alike", "_law_often", "_law_in_bounds", "_law_frac_often"]
def loose6 : List Str := ["_law_course_often", "_law_some"]
def loose : List Str := loose0 ++ loose1 ++ loose2 ++ loose3 ++ loose4 ++ loose5 ++ loose6
theorem b_1 : BindOk (N_1, "is_number", top 1) := .of 1 (by kernel_rfl) fun _ _ _ _ _ _ us hl => match us, hl with | [_], _ => by kernel_rfl
theorem b_7 : BindOk (N_7, "gcd", top 7) := .of 2 (by kernel_rfl) fun _ _ _ _ _ _ us hl => match us, hl with | [_, _], _ => by kernel_rfl
theorem b_8 : BindOk (N_8, "fraction", top 8) := .of 2 (by kernel_rfl) fun _ _ _ _ _ _ us hl => match us, hl with | [_, _], _ => by kernel_rfl
theorem b_9 : BindOk (N_9, "plus", top 9) := .of 2 (by kernel_rfl) fun _ _ _ _ _ _ us hl => match us, hl with | [_, _], _ => by kernel_rfl
theorem b_10 : BindOk (N_10, "less", top 10) := .of 2 (by kernel_rfl) fun _ _ _ _ _ _ us hl => match us, hl with | [_, _], _ => by kernel_rfl
theorem b_11 : BindOk (N_11, "times", top 11) := .of 2 (by kernel_rfl) fun _ _ _ _ _ _ us hl => match us, hl with | [_, _], _ => by kernel_rfl
theorem b_12 : BindOk (N_12, "is_within", top 12) := .of 3 (by kernel_rfl) fun _ _ _ _ _ _ us hl => match us, hl with | [_, _, _], _ => by kernel_rfl
theorem b_13 : BindOk (N_13, "is_lease_rule", top 13) := .of 1 (by kernel_rfl) fun _ _ _ _ _ _ us hl => match us, hl with | [_], _ => by kernel_rfl
theorem b_14 : BindOk (N_14, "last_act", top 14) := .of 1 (by kernel_rfl) fun _ _ _ _ _ _ us hl => match us, hl with | [_], _ => by kernel_rfl
theorem b_15 : BindOk (N_15, "first_settled", top 15) := .of 1 (by kernel_rfl) fun _ _ _ _ _ _ us hl => match us, hl with | [_], _ => by kernel_rfl
theorem b_16 : BindOk (N_16, "is_safe", top 16) := .of 1 (by kernel_rfl) fun _ _ _ _ _ _ us hl => match us, hl with | [_], _ => by kernel_rfl
theorem b_17 : BindOk (N_17, "least_wait", top 17) := .of 1 (by kernel_rfl) fun _ _ _ _ _ _ us hl => match us, hl with | [_], _ => by kernel_rfl
theorem b_18 : BindOk (N_18, "with_number", top 18) := .of 3 (by kernel_rfl) fun _ _ _ _ _ _ us hl => match us, hl with | [_, _, _], _ => by kernel_rfl
theorem b_19 : BindOk (N_19, "greatest", top 19) := .of 4 (by kernel_rfl) fun _ _ _ _ _ _ us hl => match us, hl with | [_, _, _, _], _ => by kernel_rfl
theorem b_20 : BindOk (N_20, "greatest_hold", top 20) := .of 1 (by kernel_rfl) fun _ _ _ _ _ _ us hl => match us, hl with | [_], _ => by kernel_rfl
theorem b_21 : BindOk (N_21, "greatest_run", top 21) := .of 1 (by kernel_rfl) fun _ _ _ _ _ _ us hl => match us, hl with | [_], _ => by kernel_rfl
theorem b_22 : BindOk (N_22, "least_waits", top 22) := .of 1 (by kernel_rfl) fun _ _ _ _ _ _ us hl => match us, hl with | [_], _ => by kernel_rfl
theorem b_23 : BindOk (N_23, "faults_of", top 23) := .of 1 (by kernel_rfl) fun _ _ _ _ _ _ us hl => match us, hl with | [_], _ => by kernel_rfl
theorem b_26 : BindOk (N_26, "is_time", top 26) := .of 1 (by kernel_rfl) fun _ _ _ _ _ _ us hl => match us, hl with | [_], _ => by kernel_rfl
theorem b_27 : BindOk (N_27, "is_form", top 27) := .of 2 (by kernel_rfl) fun _ _ _ _ _ _ us hl => match us, hl with | [_, _], _ => by kernel_rfl
theorem b_28 : BindOk (N_28, "is_below", top 28) := .of 2 (by kernel_rfl) fun _ _ _ _ _ _ us hl => match us, hl with | [_, _], _ => by kernel_rfl
theorem b_29 : BindOk (N_29, "are_clocks", top 29) := .of 2 (by kernel_rfl) fun _ _ _ _ _ _ us hl => match us, hl with | [_, _], _ => by kernel_rfl
theorem b_30 : BindOk (N_30, "lease_end", top 30) := .of 2 (by kernel_rfl) fun _ _ _ _ _ _ us hl => match us, hl with | [_, _], _ => by kernel_rfl
theorem b_31 : BindOk (N_31, "settling", top 31) := .of 2 (by kernel_rfl) fun _ _ _ _ _ _ us hl => match us, hl with | [_, _], _ => by kernel_rfl
theorem b_32 : BindOk (N_32, "is_behind", top 32) := .of 3 (by kernel_rfl) fun _ _ _ _ _ _ us hl => match us, hl with | [_, _, _], _ => by kernel_rfl
theorem b_33 : BindOk (N_33, "course_fault", top 33) := .of 2 (by kernel_rfl) fun _ _ _ _ _ _ us hl => match us, hl with | [_, _], _ => by kernel_rfl
theorem b_34 : BindOk (N_34, "is_course", top 34) := .of 2 (by kernel_rfl) fun _ _ _ _ _ _ us hl => match us, hl with | [_, _], _ => by kernel_rfl
theorem b_35 : BindOk (N_35, "spare", top 35) := .of 2 (by kernel_rfl) fun _ _ _ _ _ _ us hl => match us, hl with | [_, _], _ => by kernel_rfl
theorem b_36 : BindOk (N_36, "is_break", top 36) := .of 2 (by kernel_rfl) fun _ _ _ _ _ _ us hl => match us, hl with | [_, _], _ => by kernel_rfl
theorem b_37 : BindOk (N_37, "break_of", top 37) := .of 1 (by kernel_rfl) fun _ _ _ _ _ _ us hl => match us, hl with | [_], _ => by kernel_rfl
theorem b_39 : BindOk (N_39, "_law_frac", top 39) := .of 2 (by kernel_rfl) fun _ _ _ _ _ _ us hl => match us, hl with | [_, _], _ => by kernel_rfl
theorem b_40 : BindOk (N_40, "_law_is_less", top 40) := .of 2 (by kernel_rfl) fun _ _ _ _ _ _ us hl => match us, hl with | [_, _], _ => by kernel_rfl
theorem b_41 : BindOk (N_41, "_law_last_act", top 41) := .of 1 (by kernel_rfl) fun _ _ _ _ _ _ us hl => match us, hl with | [_], _ => by kernel_rfl
theorem b_42 : BindOk (N_42, "_law_first_settled", top 42) := .of 1 (by kernel_rfl) fun _ _ _ _ _ _ us hl => match us, hl with | [_], _ => by kernel_rfl
theorem b_43 : BindOk (N_43, "_law_is_safe", top 43) := .of 1 (by kernel_rfl) fun _ _ _ _ _ _ us hl => match us, hl with | [_], _ => by kernel_rfl
theorem b_44 : BindOk (N_44, "_law_drawn_rule", top 44) := .of 1 (by kernel_rfl) fun _ _ _ _ _ _ us hl => match us, hl with | [_], _ => by kernel_rfl
theorem b_45 : BindOk (N_45, "_law_bag", top 45) := .of 1 (by kernel_rfl) fun _ _ _ _ _ _ us hl => match us, hl with | [_], _ => by kernel_rfl
theorem b_46 : BindOk (N_46, "_law_take", top 46) := .of 2 (by kernel_rfl) fun _ _ _ _ _ _ us hl => match us, hl with | [_, _], _ => by kernel_rfl
theorem b_47 : BindOk (N_47, "_law_alike", top 47) := .of 2 (by kernel_rfl) fun _ _ _ _ _ _ us hl => match us, hl with | [_, _], _ => by kernel_rfl
theorem b_48 : BindOk (N_48, "_law_often", top 48) := .of 2 (by kernel_rfl) fun _ _ _ _ _ _ us hl => match us, hl with | [_, _], _ => by kernel_rfl
theorem b_49 : BindOk (N_49, "_law_in_bounds", top 49) := .of 1 (by kernel_rfl) fun _ _ _ _ _ _ us hl => match us, hl with | [_], _ => by kernel_rfl
theorem b_50 : BindOk (N_50, "_law_frac_often", top 50) := .of 2 (by kernel_rfl) fun _ _ _ _ _ _ us hl => match us, hl with | [_, _], _ => by kernel_rfl
theorem b_51 : BindOk (N_51, "_law_course_often", top 51) := .of 2 (by kernel_rfl) fun _ _ _ _ _ _ us hl => match us, hl with | [_, _], _ => by kernel_rfl
theorem b_52 : BindOk (N_52, "_law_some", top 52) := .of 2 (by kernel_rfl) fun _ _ _ _ _ _ us hl => match us, hl with | [_, _], _ => by kernel_rfl
theorem b_53 : BindOk (N_53, "law", top 53) := .of 1 (by kernel_rfl) fun _ _ _ _ _ _ us hl => match us, hl with | [_], _ => by kernel_rfl
theorem binds : BindsOk tab := .cons b_1 (.cons b_7 (.cons b_8 (.cons b_9 (.cons b_10 (.cons b_11 (.cons b_12 (.cons b_13 (.cons b_14 (.cons b_15 (.cons b_16 (.cons b_17 (.cons b_18 (.cons b_19 (.cons b_20 (.cons b_21 (.cons b_22 (.cons b_23 (.cons b_26 (.cons b_27 (.cons b_28 (.cons b_29 (.cons b_30 (.cons b_31 (.cons b_32 (.cons b_33 (.cons b_34 (.cons b_35 (.cons b_36 (.cons b_37 (.cons b_39 (.cons b_40 (.cons b_41 (.cons b_42 (.cons b_43 (.cons b_44 (.cons b_45 (.cons b_46 (.cons b_47 (.cons b_48 (.cons b_49 (.cons b_50 (.cons b_51 (.cons b_52 (.cons b_53 (.nil)))))))))))))))))))))))))))))))))))))))))))))
def cd : Option {fis : Prg // DefsOk pr (tab.map (·.2.2)) fis} := cDefs pr 40 tab
def prg : Prg := match cd with
  | some x => x.1
  | none => []
theorem cd_some : cd.isSome = true := by kernel_rfl
theorem dok : DefsOk pr (tab.map (·.2.2)) prg := by
  have h := cd_some
  unfold prg
  cases e : cd with
  | none => rw [e] at h; cases h
  | some x => exact x.2
theorem same_names : pr.defs.map (·.1) = tab.map (·.2.1) := by kernel_rfl
abbrev R : PySem.W.OpenRow := PySem.W.OpenLaw.row PySem.Challenge.rw_everyhost_k43_whole_rules_of_leases_besi
abbrev hk : PySem.W.Hook := hookT 4 pr tab
def ob (s : PySem.W.SharedT) : AlT := obsT 4 pr tab (HandSHeadRun.getT s)
theorem ob_eq (s : PySem.W.SharedT) : ob s = hk.obs s.abs := obsT_eq (HandSHeadRun.getT_eq s)
theorem run (w : World) : HandSHeadRun.RunEq R (PySem.W.view R.prog [53]) hk ob 4000 loose w := by
  intro os
  kernel_rfl
theorem law_def : pr.defs[44]? = some (("law" : Str), [false]) := by kernel_rfl
theorem law_tab : tab[44]? = some (N_53, ("law" : Str), top 53) := by kernel_rfl
theorem law_args : argNames (defArgs (top 53)) = ([("script" : Str)] : List Str) := by kernel_rfl
end Tab
open PySem PySem.W PySem.Calls PyProof.Rows in
set_option maxRecDepth 100000 in
set_option maxHeartbeats 0 in
theorem Tab.holds_of (h : ∀ ns : List Int, ns.length ≤ 63 → (∀ z ∈ ns, Builtin.Int.intBits z ≤ 1048576) → ∃ outs, EV.Phi Tab.prg 20 44 [some ⟨.list (ns.map PyData.int), false, false⟩] = some (.bool true, false, outs)) : PySem.Challenge.rw_everyhost_k43_whole_rules_of_leases_besi.Holds := by
  w_on; o_law
  refine HandSHeadRun.head_any (r := OpenLaw.row PySem.Challenge.rw_everyhost_k43_whole_rules_of_leases_besi) (q := view (OpenLaw.row PySem.Challenge.rw_everyhost_k43_whole_rules_of_leases_besi).prog [53]) (H := Tab.hk) (ob := Tab.ob) (M := 4000) (loose := Tab.loose) (d := HandSHeadRun.topDef (OpenLaw.row PySem.Challenge.rw_everyhost_k43_whole_rules_of_leases_besi).prog 53) (kwd := []) Tab.ob_eq
    (by kernel_rfl) (fun s => by kernel_rfl) Tab.run (by kernel_rfl) (by kernel_rfl) (by kernel_rfl) (by rfl) (by first | assumption | decide +kernel) (by decide +kernel) ⟨rfl, rfl, rfl, rfl, rfl, by decide +kernel⟩ ?hw ?hc
  case hw => w_witness2
  case hc =>
    refine EV.walk_ofG (l := PySem.Challenge.rw_everyhost_k43_whole_rules_of_leases_besi) (n := 63) (k := 20) (x := "script") rfl (by decide) (by kernel_rfl) ⟨rfl, by decide, by decide⟩ ?F
    intro w mg fa hh Y G hmg0
    obtain ⟨K, KX, c, cc⟩ := Y
    have hmg : mg ("law" : PySem.Str) = some (.ref fa) := by
      have e : (HandSHeadRun.topDef (OpenLaw.row PySem.Challenge.rw_everyhost_k43_whole_rules_of_leases_besi).prog 53).name = ("law" : PySem.Str) := by kernel_rfl
      rw [← e]
      exact hmg0
    have tops := EV.tops_ok KX G c Tab.binds Tab.same_names
    obtain ⟨st, hst, ⟨a, fd, F, hma, hb⟩⟩ := tops 44 _ _ Tab.law_def
    rw [hmg] at hma
    cases hma
    rw [List.getElem?_map, Tab.law_tab] at hst
    cases hst
    have levels := fun base : Heap => EV.levels (P := (PySem.Challenge.rw_everyhost_k43_whole_rules_of_leases_besi).prog) (w := w) (base := base) Tab.dok tops (EV.consts_ok KX G cc) (EV.frees_ok KX G c) 19
    have len1 : (EV.argNames (L2.defArgs (Tab.top 53))).length = 1 := by rw [Tab.law_args]; rfl
    refine ⟨K, fd, EV.spD K (EV.Phi Tab.prg 20) 44, KX, fun s u => ?_, fun H a' ns hl hbits hS => ?_, fun base _ _ => ?_⟩
    · have z := L2.FunD.bindsA F (Tab.binds.at Tab.law_tab) s [u] len1.symm
      rw [Tab.law_args] at z
      exact z
    · obtain ⟨outs, z⟩ := h ns hl hbits
      exact EV.sp_law hS z
    · have z := EV.fn_level Tab.dok (levels base) (by rw [List.getElem?_map, Tab.law_tab]; rfl) F
      rw [Tab.law_args] at z
      exact z

namespace Tab
open PySem EV
def B_is_number : List Sm := [.ret (.and (.bi .isInt [.var 0]) (.not (.bi .isBool [.var 0])))]
def B_gcd : List Sm := [.whl (.cmp .ne (.var 1) (.cst (.int (0)))) [.par [0, 1] [.var 1, .bin .mod (.bi .int [.var 0]) (.bi .int [.var 1])]],
  .ret (.var 0)]
def B_fraction : List Sm := [.asg 2 (.bin .mul (.fn 1 [false, false] [.bi .abs [.var 0], .bi .abs [.var 1]]) (.ite (.cmp .gt (.var 1) (.cst (.int (0)))) (.cst (.int (1))) (.neg (.cst (.int (1)))))),
  .ret (.tup [.bin .fdiv (.var 0) (.var 2), .bin .fdiv (.var 1) (.var 2)])]
def B_plus : List Sm := [.ret (.fn 2 [false, false] [.bin .add (.bin .mul (.ix (.var 0) (.cst (.int (0)))) (.ix (.var 1) (.cst (.int (1))))) (.bin .mul (.ix (.var 1) (.cst (.int (0)))) (.ix (.var 0) (.cst (.int (1))))), .bin .mul (.ix (.var 0) (.cst (.int (1)))) (.ix (.var 1) (.cst (.int (1))))])]
def B_less : List Sm := [.ret (.fn 3 [false, false] [.var 0, .tup [.bin .sub (.cst (.int (0))) (.ix (.var 1) (.cst (.int (0)))), .ix (.var 1) (.cst (.int (1)))]])]
def B_times : List Sm := [.ret (.fn 2 [false, false] [.bin .mul (.ix (.var 0) (.cst (.int (0)))) (.ix (.var 1) (.cst (.int (0)))), .bin .mul (.ix (.var 0) (.cst (.int (1)))) (.ix (.var 1) (.cst (.int (1))))])]
def B_is_within : List Sm := [.ret (.and (.fn 0 [false] [.var 0]) (.chn .le .le (.var 1) (.var 0) (.var 2)))]
def B_is_lease_rule : List Sm := [.cond (.or (.not (.bi .isTuple [.var 0])) (.or (.cmp .ne (.bi .len [.var 0]) (.cst (.int (6)))) (.or (.not (.bi .isStr [.ix (.var 0) (.cst (.int (0)))])) (.cmp .notIn (.ix (.var 0) (.cst (.int (0)))) (.glo "KINDS" (.tuple [.str "until", .str "asked", .str "heard"])))))) [.ret (.cst (.bool false))] [],
  .asgT (.tup [.name 1, .name 2, .name 3, .name 4, .name 5, .name 6]) (.var 0),
  .cond (.or (.not (.fn 6 [false, false, false] [.var 2, .cst (.int (1)), .glo "MOST" (.int (1000000))])) (.not (.fn 6 [false, false, false] [.var 6, .cst (.int (1)), .glo "MOST" (.int (1000000))]))) [.ret (.cst (.bool false))] [],
  .ret (.and (.fn 6 [false, false, false] [.var 3, .cst (.int (0)), .glo "MOST" (.int (1000000))]) (.and (.fn 6 [false, false, false] [.var 5, .cst (.int (0)), .glo "MOST" (.int (1000000))]) (.fn 6 [false, false, false] [.var 4, .cst (.int (0)), .glo "MOST_APART" (.int (400))])))]
def B_last_act : List Sm := [.asgT (.tup [.name 1, .name 2, .name 3, .name 4, .name 5, .name 6]) (.var 0),
  .cond (.cmp .eq (.var 1) (.cst (.str "until"))) [.ret (.tup [.bin .add (.bin .add (.var 2) (.var 4)) (.var 5), .cst (.int (1))])] [],
  .asg 7 (.bin .add (.var 5) (.ite (.cmp .eq (.var 1) (.cst (.str "heard"))) (.var 3) (.cst (.int (0))))),
  .ret (.fn 3 [false, false] [.fn 2 [false, false] [.bin .mul (.var 2) (.glo "WHOLE" (.int (1000))), .bin .sub (.glo "WHOLE" (.int (1000))) (.var 4)], .tup [.var 7, .cst (.int (1))]])]
def B_first_settled : List Sm := [.asgT (.tup [.name 1, .name 2, .name 3, .name 4, .name 5, .name 6]) (.var 0),
  .ret (.ite (.cmp .eq (.var 1) (.cst (.str "until"))) (.tup [.var 6, .cst (.int (1))]) (.fn 2 [false, false] [.bin .mul (.var 6) (.glo "WHOLE" (.int (1000))), .bin .add (.glo "WHOLE" (.int (1000))) (.var 4)]))]
def B_is_safe : List Sm := [.ret (.cmp .ge (.ix (.fn 4 [false, false] [.fn 9 [false] [.var 0], .fn 8 [false] [.var 0]]) (.cst (.int (0)))) (.cst (.int (0))))]
def B_least_wait : List Sm := [.asgT (.tup [.name 1, .name 2]) (.fn 8 [false] [.var 0]),
  .cond (.cmp .ne (.ix (.var 0) (.cst (.int (0)))) (.cst (.str "until"))) [.asgT (.tup [.name 1, .name 2]) (.fn 5 [false, false] [.tup [.var 1, .var 2], .tup [.bin .add (.glo "WHOLE" (.int (1000))) (.ix (.var 0) (.cst (.int (3)))), .glo "WHOLE" (.int (1000))]])] [],
  .ret (.bi .max [.cst (.int (1)), .neg (.bin .fdiv (.bin .sub (.cst (.int (0))) (.var 1)) (.var 2))])]
def B_with_number : List Sm := [.ret (.star [true, false, true] [.sl false true (.var 0) (.cst .none) (.var 1), .var 2, .sl true false (.var 0) (.bin .add (.var 1) (.cst (.int (1)))) (.cst .none)])]
def B_greatest : List Sm := [.cond (.not (.fn 10 [false] [.fn 12 [false, false, false] [.var 0, .var 1, .var 2]])) [.ret (.cst .none)] [],
  .whl (.cmp .lt (.var 2) (.var 3)) [.asg 4 (.bin .fdiv (.bin .add (.bin .add (.var 2) (.var 3)) (.cst (.int (1)))) (.cst (.int (2)))),
    .cond (.fn 10 [false] [.fn 12 [false, false, false] [.var 0, .var 1, .var 4]]) [.asg 2 (.var 4)] [.asg 3 (.bin .sub (.var 4) (.cst (.int (1))))]],
  .ret (.var 2)]
def B_greatest_hold : List Sm := [.ret (.fn 13 [false, false, false, false] [.var 0, .cst (.int (1)), .cst (.int (1)), .glo "MOST" (.int (1000000))])]
def B_greatest_run : List Sm := [.ret (.fn 13 [false, false, false, false] [.var 0, .cst (.int (4)), .cst (.int (0)), .glo "MOST" (.int (1000000))])]
def B_least_waits : List Sm := [.ret (.bi .tuple [.lc (.fn 11 [false] [.var 1]) (.name 1) .seq [.var 0] [] [1]])]
def B_faults_of : List Sm := [.ret (.bi .tuple [.lc (.var 1) (.tup [.name 1, .name 2]) .enm [.var 0] [.not (.fn 10 [false] [.var 2])] [1, 2]])]
def B_is_time : List Sm := [.cond (.or (.not (.bi .isTuple [.var 0])) (.or (.cmp .ne (.bi .len [.var 0]) (.cst (.int (2)))) (.not (.bi .all [.lc (.fn 0 [false] [.var 1]) (.name 1) .seq [.var 0] [] [1]])))) [.ret (.cst (.bool false))] [],
  .ret (.and (.cmp .ge (.ix (.var 0) (.cst (.int (1)))) (.cst (.int (1)))) (.cmp .eq (.fn 1 [false, false] [.bi .abs [.ix (.var 0) (.cst (.int (0)))], .ix (.var 0) (.cst (.int (1)))]) (.cst (.int (1)))))]
def B_is_form : List Sm := [.cond (.or (.not (.bi .isTuple [.var 1])) (.or (.cmp .ne (.bi .len [.var 1]) (.cst (.int (8)))) (.not (.bi .all [.lc (.fn 18 [false] [.var 2]) (.name 2) .seq [.sl false true (.var 1) (.cst .none) (.cst (.int (6)))] [] [2]])))) [.ret (.cst (.bool false))] [],
  .ret (.bi .all [.lc (.ite (.cmp .eq (.ix (.var 0) (.cst (.int (0)))) (.cst (.str "until"))) (.fn 0 [false] [.var 2]) (.fn 18 [false] [.var 2])) (.name 2) .seq [.sl true false (.var 1) (.cst (.int (6))) (.cst .none)] [] [2]])]
def B_is_below : List Sm := [.ret (.cmp .lt (.ix (.fn 4 [false, false] [.var 0, .var 1]) (.cst (.int (0)))) (.cst (.int (0))))]
def B_are_clocks : List Sm := [.par [2, 3, 4] [.ix (.var 0) (.cst (.int (3))), .ix (.var 1) (.cst (.int (6))), .ix (.var 1) (.cst (.int (7)))],
  .cond (.cmp .eq (.ix (.var 0) (.cst (.int (0)))) (.cst (.str "until"))) [.ret (.cmp .le (.bi .abs [.bin .sub (.var 3) (.var 4)]) (.var 2))] [],
  .asgT (.tup [.name 5, .name 6]) (.tup [.tup [.bin .sub (.glo "WHOLE" (.int (1000))) (.var 2), .glo "WHOLE" (.int (1000))], .tup [.bin .add (.glo "WHOLE" (.int (1000))) (.var 2), .glo "WHOLE" (.int (1000))]]),
  .ret (.not (.bi .any [.lc (.or (.fn 20 [false, false] [.var 7, .var 5]) (.fn 20 [false, false] [.var 6, .var 7])) (.name 7) .seq [.tup [.var 3, .var 4]] [] [7]]))]
def B_lease_end : List Sm := [.asgT (.tup [.name 2, .name 3, .name 4, .name 5, .name 6, .name 7, .name 8, .name 9]) (.var 1),
  .cond (.cmp .eq (.ix (.var 0) (.cst (.int (0)))) (.cst (.str "until"))) [.ret (.fn 3 [false, false] [.var 3, .tup [.bin .sub (.bin .add (.ix (.var 0) (.cst (.int (1)))) (.var 9)) (.var 8), .cst (.int (1))]])] [],
  .asg 10 (.ite (.cmp .eq (.ix (.var 0) (.cst (.int (0)))) (.cst (.str "asked"))) (.var 2) (.var 4)),
  .ret (.fn 3 [false, false] [.var 10, .fn 5 [false, false] [.tup [.ix (.var 0) (.cst (.int (1))), .cst (.int (1))], .fn 2 [false, false] [.ix (.var 8) (.cst (.int (1))), .ix (.var 8) (.cst (.int (0)))]]])]
def B_settling : List Sm := [.cond (.cmp .eq (.ix (.var 0) (.cst (.int (0)))) (.cst (.str "until"))) [.ret (.tup [.ix (.var 0) (.cst (.int (5))), .cst (.int (1))])] [],
  .ret (.fn 5 [false, false] [.tup [.ix (.var 0) (.cst (.int (5))), .cst (.int (1))], .fn 2 [false, false] [.ix (.ix (.var 1) (.cst (.int (7)))) (.cst (.int (1))), .ix (.ix (.var 1) (.cst (.int (7)))) (.cst (.int (0)))]])]
def B_is_behind : List Sm := [.ret (.and (.not (.fn 20 [false, false] [.var 1, .var 0])) (.not (.fn 20 [false, false] [.fn 3 [false, false] [.var 0, .tup [.var 2, .cst (.int (1))]], .var 1])))]
def B_course_fault : List Sm := [.cond (.not (.fn 19 [false, false] [.var 0, .var 1])) [.ret (.cst (.str "form"))] [],
  .asgT (.tup [.name 2, .name 3, .name 4, .name 5, .name 6, .name 7, .name 8, .name 9]) (.var 1),
  .cond (.not (.fn 21 [false, false] [.var 0, .var 1])) [.ret (.cst (.str "clocks"))] [],
  .cond (.fn 20 [false, false] [.var 3, .var 2]) [.ret (.cst (.str "asked"))] [],
  .cond (.not (.fn 20 [false, false] [.var 3, .glo "ZERO" (.tuple [.int (0), .int (1)])])) [.ret (.cst (.str "given"))] [],
  .cond (.not (.fn 24 [false, false, false] [.var 3, .var 4, .ix (.var 0) (.cst (.int (2)))])) [.ret (.cst (.str "came"))] [],
  .cond (.fn 20 [false, false] [.var 5, .var 4]) [.ret (.cst (.str "begun"))] [],
  .cond (.not (.fn 20 [false, false] [.var 5, .fn 22 [false, false] [.var 0, .var 1]])) [.ret (.cst (.str "lease"))] [],
  .cond (.not (.fn 24 [false, false, false] [.var 5, .var 6, .ix (.var 0) (.cst (.int (4)))])) [.ret (.cst (.str "acted"))] [],
  .ret (.ite (.fn 20 [false, false] [.var 7, .fn 23 [false, false] [.var 0, .var 1]]) (.cst (.str "settled")) (.cst .none))]
def B_is_course : List Sm := [.ret (.cmp .is (.fn 25 [false, false] [.var 0, .var 1]) (.cst .none))]
def B_spare : List Sm := [.ret (.fn 4 [false, false] [.ix (.var 1) (.cst (.int (5))), .ix (.var 1) (.cst (.int (4)))])]
def B_is_break : List Sm := [.ret (.and (.fn 26 [false, false] [.var 0, .var 1]) (.cmp .le (.ix (.fn 27 [false, false] [.var 0, .var 1]) (.cst (.int (0)))) (.cst (.int (0)))))]
def B_break_of : List Sm := [.cond (.fn 10 [false] [.var 0]) [.ret (.cst .none)] [],
  .asgT (.tup [.name 1, .name 2, .name 3, .name 4, .name 5, .name 6]) (.var 0),
  .asg 7 (.fn 4 [false, false] [.fn 8 [false] [.var 0], .fn 9 [false] [.var 0]]),
  .asg 8 (.fn 5 [false, false] [.var 7, .tup [.cst (.int (1)), .cst (.int (4))]]),
  .asg 9 (.tup [.bin .sub (.cst (.int (0))) (.ix (.var 8) (.cst (.int (0)))), .ix (.var 8) (.cst (.int (1)))]),
  .par [10, 11] [.bin .sub (.cst (.int (0))) (.var 4), .cst (.int (0))],
  .cond (.cmp .ne (.var 1) (.cst (.str "until"))) [.par [10, 11] [.fn 2 [false, false] [.bin .sub (.glo "WHOLE" (.int (1000))) (.var 4), .glo "WHOLE" (.int (1000))], .fn 2 [false, false] [.bin .add (.glo "WHOLE" (.int (1000))) (.var 4), .glo "WHOLE" (.int (1000))]]] [],
  .asg 12 (.ite (.cmp .eq (.var 1) (.cst (.str "heard"))) (.fn 3 [false, false] [.var 9, .tup [.var 3, .cst (.int (1))]]) (.var 9)),
  .asg 13 (.tup [.var 9, .var 9, .var 12, .glo "ZERO" (.tuple [.int (0), .int (1)]), .glo "ZERO" (.tuple [.int (0), .int (1)]), .fn 9 [false] [.var 0], .var 10, .var 11]),
  .asg 14 (.fn 4 [false, false] [.fn 22 [false, false] [.var 0, .var 13], .var 8]),
  .cond (.fn 20 [false, false] [.var 14, .var 12]) [.asg 14 (.var 12)] [],
  .ret (.star [true, false, false, true] [.sl false true (.var 13) (.cst .none) (.cst (.int (3))), .var 14, .fn 3 [false, false] [.var 14, .tup [.var 5, .cst (.int (1))]], .sl true false (.var 13) (.cst (.int (5))) (.cst .none)])]
def B__law_frac : List Sm := [.par [2, 3] [.bi .abs [.var 0], .bi .abs [.var 1]],
  .whl (.cmp .gt (.var 3) (.cst (.int (0)))) [.par [2, 3] [.var 3, .bin .mod (.var 2) (.var 3)]],
  .asg 4 (.ite (.cmp .gt (.var 1) (.cst (.int (0)))) (.cst (.int (1))) (.neg (.cst (.int (1))))),
  .ret (.tup [.bin .fdiv (.bin .mul (.var 4) (.var 0)) (.var 2), .bin .fdiv (.bin .mul (.var 4) (.var 1)) (.var 2)])]
def B__law_is_less : List Sm := [.ret (.cmp .lt (.bin .mul (.ix (.var 0) (.cst (.int (0)))) (.ix (.var 1) (.cst (.int (1))))) (.bin .mul (.ix (.var 1) (.cst (.int (0)))) (.ix (.var 0) (.cst (.int (1))))))]
def B__law_last_act : List Sm := [.asgT (.tup [.name 1, .name 2, .name 3, .name 4, .name 5, .name 6]) (.var 0),
  .cond (.cmp .eq (.var 1) (.cst (.str "until"))) [.ret (.tup [.bin .add (.bin .add (.var 2) (.var 4)) (.var 5), .cst (.int (1))])] [],
  .ret (.fn 30 [false, false] [.bin .add (.bin .mul (.var 2) (.cst (.int (1000)))) (.bin .mul (.bin .add (.var 5) (.bin .mul (.var 3) (.bi .int [.cmp .eq (.var 1) (.cst (.str "heard"))]))) (.bin .sub (.cst (.int (1000))) (.var 4))), .bin .sub (.cst (.int (1000))) (.var 4)])]
def B__law_first_settled : List Sm := [.ret (.ite (.cmp .eq (.ix (.var 0) (.cst (.int (0)))) (.cst (.str "until"))) (.tup [.ix (.var 0) (.cst (.int (5))), .cst (.int (1))]) (.fn 30 [false, false] [.bin .mul (.ix (.var 0) (.cst (.int (5)))) (.cst (.int (1000))), .bin .add (.cst (.int (1000))) (.ix (.var 0) (.cst (.int (3))))]))]
def B__law_is_safe : List Sm := [.ret (.not (.fn 31 [false, false] [.fn 33 [false] [.var 0], .fn 32 [false] [.var 0]]))]
def B__law_drawn_rule : List Sm := [.par [1, 2] [.fn 43 [true, false] [.var 0, .lst [.cst (.str "until"), .cst (.str "asked"), .cst (.str "heard")]], .fn 43 [true, false] [.var 0, .lst [.cst (.int (0)), .cst (.int (1)), .cst (.int (7)), .cst (.int (100)), .cst (.int (399)), .cst (.int (400)), .fn 37 [true, false] [.var 0, .cst (.int (401))]]]],
  .par [3, 4, 5] [.bin .add (.cst (.int (1))) (.fn 43 [true, false] [.var 0, .lst [.fn 37 [true, false] [.var 0, .cst (.int (9))], .fn 37 [true, false] [.var 0, .cst (.int (2000))], .cst (.int (999999))]]), .fn 37 [true, false] [.var 0, .cst (.int (40))], .fn 37 [true, false] [.var 0, .cst (.int (30))]],
  .asgT (.tup [.name 6, .name 7]) (.fn 32 [false] [.tup [.var 1, .var 3, .var 4, .var 2, .var 5, .cst (.int (1))]]),
  .asg 8 (.ite (.cmp .eq (.var 1) (.cst (.str "until"))) (.bin .fdiv (.var 6) (.var 7)) (.bin .fdiv (.bin .mul (.var 6) (.bin .add (.cst (.int (1000))) (.var 2))) (.bin .mul (.var 7) (.cst (.int (1000)))))),
  .asg 9 (.ite (.cmp .gt (.fn 37 [true, false] [.var 0, .cst (.int (4))]) (.cst (.int (0)))) (.bi .min [.cst (.int (1000000)), .bi .max [.cst (.int (1)), .bin .sub (.bin .add (.var 8) (.fn 37 [true, false] [.var 0, .cst (.int (4))])) (.cst (.int (2)))]]) (.bin .add (.cst (.int (1))) (.fn 37 [true, false] [.var 0, .cst (.int (90))]))),
  .ret (.tup [.var 1, .var 3, .var 4, .var 2, .var 5, .var 9])]
def B__law_bag : List Sm := [.ret (.lst [.cst (.int (0)), .cst (.int (1234567891)), .cst (.int (0)), .lc (.bi .abs [.var 1]) (.name 1) .seq [.sl false true (.var 0) (.cst .none) (.cst (.int (63)))] [] [1]])]
def B__law_take : List Sm := [.cond (.cmp .eq (.ix (.var 0) (.cst (.int (0)))) (.cst (.int (0)))) [.asg 2 (.ix (.bin .add (.sl true false (.ix (.var 0) (.cst (.int (3)))) (.ix (.var 0) (.cst (.int (2)))) (.cst .none)) (.lst [.cst (.int (0))])) (.cst (.int (0)))),
    .augix 0 (.cst (.int (2))) .add (.cst (.int (1))),
    .cond (.cmp .ge (.var 2) (.bin .pow (.cst (.int (10))) (.cst (.int (18))))) [.setix 0 (.cst (.int (0))) (.var 2)] [],
    .asg 3 (.bin .add (.bin .add (.bin .mul (.ix (.var 0) (.cst (.int (1)))) (.cst (.int (48271)))) (.bin .mod (.bi .int [.var 2]) (.cst (.int (2147483647))))) (.bin .mul (.cst (.int (7919))) (.ix (.var 0) (.cst (.int (2)))))),
    .setix 0 (.cst (.int (1))) (.bin .mod (.bi .int [.var 3]) (.cst (.int (2147483647))))] [],
  .cond (.cmp .gt (.ix (.var 0) (.cst (.int (0)))) (.cst (.int (0)))) [.asg 4 (.bin .mod (.bi .int [.ix (.var 0) (.cst (.int (0)))]) (.var 1)),
    .setix 0 (.cst (.int (0))) (.bin .fdiv (.bi .int [.ix (.var 0) (.cst (.int (0)))]) (.var 1)),
    .ret (.var 4)] [],
  .asg 5 (.bin .mod (.bi .int [.bin .mul (.bin .add (.ix (.var 0) (.cst (.int (1)))) (.cst (.int (1)))) (.cst (.int (39373)))]) (.cst (.int (1000000007)))),
  .asg 6 (.bin .mod (.bi .int [.bin .mul (.bin .mod (.bi .int [.bin .mul (.var 5) (.var 5)]) (.cst (.int (998244353)))) (.cst (.int (30011)))]) (.cst (.int (998244353)))),
  .ret (.bin .mod (.bi .int [.bin .fdiv (.var 6) (.cst (.int (7)))]) (.var 1))]
def B__law_alike : List Sm := [.ret (.and (.cmp .eq (.bi .repr [.var 0]) (.bi .repr [.var 1])) (.cmp .eq (.var 0) (.var 1)))]
def B__law_often : List Sm := [.asgT (.tup [.name 2, .name 3, .name 4, .name 5, .name 6, .name 7]) (.var 0),
  .ret (.tup [.var 2, .bin .mul (.var 3) (.var 1), .bin .mul (.var 4) (.var 1), .var 5, .bin .mul (.var 6) (.var 1), .bin .mul (.var 7) (.var 1)])]
def B__law_in_bounds : List Sm := [.ret (.cmp .le (.bi .max [.ix (.var 0) (.cst (.int (1))), .ix (.var 0) (.cst (.int (2))), .ix (.var 0) (.cst (.int (4))), .ix (.var 0) (.cst (.int (5)))]) (.cst (.int (1000000))))]
def B__law_frac_often : List Sm := [.ret (.fn 30 [false, false] [.bin .mul (.ix (.var 0) (.cst (.int (0)))) (.var 1), .ix (.var 0) (.cst (.int (1)))])]
def B__law_course_often : List Sm := [.ret (.bin .add (.bi .tuple [.lc (.fn 41 [false, false] [.var 2, .var 1]) (.name 2) .seq [.sl false true (.var 0) (.cst .none) (.cst (.int (6)))] [] [2]]) (.sl true false (.var 0) (.cst (.int (6))) (.cst .none)))]
def B__law_some : List Sm := [.ret (.ix (.var 1) (.fn 37 [true, false] [.var 0, .bi .len [.var 1]]))]
def B_law : List Sm := [.asg 1 (.fn 36 [false] [.var 0]),
  .loop (.name 2) .rng [.cst (.int (5))] [.asg 3 (.fn 35 [true] [.var 1]),
    .asgT (.tup [.name 4, .name 5, .name 6, .name 7, .name 8, .name 9]) (.var 3),
    .par [10, 11] [.fn 34 [false] [.var 3], .fn 29 [false] [.var 3]],
    .cond (.not (.fn 38 [false, false] [.lst [.fn 7 [false] [.var 3], .fn 10 [false] [.var 3], .cmp .is (.var 11) (.cst .none)], .lst [.cst (.bool true), .var 10, .var 10]])) [.ret (.cst (.bool false))] [],
    .asg 12 (.bin .add (.cst (.int (2))) (.fn 37 [true, false] [.var 1, .cst (.int (4))])),
    .asg 13 (.fn 39 [false, false] [.var 3, .var 12]),
    .cond (.and (.cmp .ne (.var 4) (.cst (.str "until"))) (.fn 40 [false] [.var 13])) [.cond (.not (.fn 38 [false, false] [.lst [.fn 10 [false] [.var 13], .fn 8 [false] [.var 13], .fn 9 [false] [.var 13]], .lst [.var 10, .fn 41 [false, false] [.fn 8 [false] [.var 3], .var 12], .fn 41 [false, false] [.fn 9 [false] [.var 3], .var 12]]])) [.ret (.cst (.bool false))] [],
      .cond (.not (.chn .lt .le (.bin .mul (.var 12) (.bin .sub (.fn 11 [false] [.var 3]) (.cst (.int (1))))) (.fn 11 [false] [.var 13]) (.bin .mul (.var 12) (.fn 11 [false] [.var 3])))) [.ret (.cst (.bool false))] [],
      .cond (.cmp .isNot (.var 11) (.cst .none)) [.asg 14 (.fn 42 [false, false] [.var 11, .var 12]),
        .cond (.or (.cmp .isNot (.fn 25 [false, false] [.var 13, .var 14]) (.cst .none)) (.or (.cmp .isNot (.fn 28 [false, false] [.var 13, .var 14]) (.cst (.bool true))) (.cmp .ne (.fn 27 [false, false] [.var 13, .var 14]) (.fn 41 [false, false] [.fn 27 [false, false] [.var 3, .var 11], .var 12])))) [.ret (.cst (.bool false))] [],
        .cond (.or (.cmp .ne (.fn 22 [false, false] [.var 13, .var 14]) (.fn 41 [false, false] [.fn 22 [false, false] [.var 3, .var 11], .var 12])) (.cmp .isNot (.fn 26 [false, false] [.var 3, .var 11]) (.cst (.bool true)))) [.ret (.cst (.bool false))] []] []] [],
    .asg 15 (.lst [.tup [.var 4, .bi .max [.cst (.int (1)), .bin .sub (.var 5) (.cst (.int (1)))], .var 6, .var 7, .var 8, .var 9], .tup [.var 4, .var 5, .bi .max [.cst (.int (0)), .bin .sub (.var 6) (.cst (.int (1)))], .var 7, .var 8, .var 9], .tup [.var 4, .var 5, .var 6, .var 7, .bi .max [.cst (.int (0)), .bin .sub (.var 8) (.cst (.int (1)))], .var 9]]),
    .asg 15 (.bin .add (.var 15) (.lst [.tup [.var 4, .var 5, .var 6, .bi .max [.cst (.int (0)), .bin .sub (.var 7) (.cst (.int (1)))], .var 8, .var 9], .tup [.var 4, .var 5, .var 6, .var 7, .var 8, .bi .min [.cst (.int (1000000)), .bin .add (.var 9) (.cst (.int (1)))]]])),
    .asg 15 (.bin .add (.var 15) (.ite (.cmp .eq (.var 4) (.cst (.str "heard"))) (.lst [.bin .add (.tup [.cst (.str "asked")]) (.sl true false (.var 3) (.cst (.int (1))) (.cst .none))]) (.lst []))),
    .loop (.name 16) .seq [.var 15] [.cond (.or (.and (.var 10) (.cmp .isNot (.fn 10 [false] [.var 16]) (.cst (.bool true)))) (.cmp .gt (.fn 11 [false] [.var 16]) (.fn 11 [false] [.var 3]))) [.ret (.cst (.bool false))] [],
      .cond (.and (.cmp .is (.var 11) (.cst .none)) (.cmp .isNot (.fn 29 [false] [.var 16]) (.cst .none))) [.ret (.cst (.bool false))] []],
    .asg 17 (.tup [.var 4, .var 5, .cst (.int (0)), .cst (.int (0)), .var 8, .var 9]),
    .cond (.not (.fn 38 [false, false] [.lst [.fn 10 [false] [.var 17], .fn 11 [false] [.var 17], .fn 8 [false] [.var 17]], .lst [.cmp .le (.bin .add (.var 5) (.var 8)) (.var 9), .bin .add (.var 5) (.var 8), .tup [.bin .add (.var 5) (.var 8), .cst (.int (1))]]])) [.ret (.cst (.bool false))] [],
    .asg 18 (.lc (.tup [.var 16, .var 5, .cst (.int (0)), .cst (.int (0)), .var 8, .var 9]) (.name 16) .seq [.tup [.cst (.str "until"), .cst (.str "asked"), .cst (.str "heard")]] [] [16]),
    .cond (.or (.cmp .ne (.bi .lenset [.lc (.fn 11 [false] [.var 16]) (.name 16) .seq [.var 18] [] [16]]) (.cst (.int (1)))) (.or (.cmp .ne (.bi .lenset [.lc (.fn 14 [false] [.var 16]) (.name 16) .seq [.var 18] [] [16]]) (.cst (.int (1)))) (.cmp .ne (.fn 15 [false] [.ix (.var 18) (.cst (.int (0)))]) (.fn 15 [false] [.ix (.var 18) (.cst (.int (2)))])))) [.ret (.cst (.bool false))] [],
    .asg 19 (.bi .tuple [.bin .add (.var 15) (.lst [.var 3, .var 17])]),
    .cond (.or (.cmp .ne (.fn 16 [false] [.var 19]) (.bi .tuple [.lc (.fn 11 [false] [.var 16]) (.name 16) .seq [.var 19] [] [16]])) (.cmp .ne (.fn 17 [false] [.var 19]) (.bi .tuple [.lc (.var 21) (.tup [.name 21, .name 16]) .enm [.var 19] [.not (.fn 34 [false] [.var 16])] [21, 16]]))) [.ret (.cst (.bool false))] [],
    .asg 20 (.tup [.var 4, .var 5, .var 6, .var 7, .var 8, .fn 11 [false] [.var 3]]),
    .cond (.and (.cmp .le (.fn 11 [false] [.var 3]) (.cst (.int (1000000)))) (.or (.cmp .isNot (.fn 10 [false] [.var 20]) (.cst (.bool true))) (.and (.cmp .gt (.fn 11 [false] [.var 3]) (.cst (.int (1)))) (.cmp .isNot (.fn 10 [false] [.bin .add (.sl false true (.var 20) (.cst .none) (.cst (.int (5)))) (.tup [.bin .sub (.ix (.var 20) (.cst (.int (5)))) (.cst (.int (1)))])]) (.cst (.bool false)))))) [.ret (.cst (.bool false))] []],
  .ret (.cst (.bool true))]
def lit0 : Prg := [⟨"is_number", 1, 1, B_is_number⟩, ⟨"gcd", 2, 2, B_gcd⟩, ⟨"fraction", 2, 3, B_fraction⟩, ⟨"plus", 2, 2, B_plus⟩, ⟨"less", 2, 2, B_less⟩, ⟨"times", 2, 2, B_times⟩, ⟨"is_within", 3, 3, B_is_within⟩, ⟨"is_lease_rule", 1, 7, B_is_lease_rule⟩, ⟨"last_act", 1, 8, B_last_act⟩, ⟨"first_settled", 1, 7, B_first_settled⟩]
def lit1 : Prg := [⟨"is_safe", 1, 1, B_is_safe⟩, ⟨"least_wait", 1, 3, B_least_wait⟩, ⟨"with_number", 3, 3, B_with_number⟩, ⟨"greatest", 4, 5, B_greatest⟩, ⟨"greatest_hold", 1, 1, B_greatest_hold⟩, ⟨"greatest_run", 1, 1, B_greatest_run⟩, ⟨"least_waits", 1, 2, B_least_waits⟩, ⟨"faults_of", 1, 3, B_faults_of⟩, ⟨"is_time", 1, 2, B_is_time⟩, ⟨"is_form", 2, 3, B_is_form⟩]
def lit2 : Prg := [⟨"is_below", 2, 2, B_is_below⟩, ⟨"are_clocks", 2, 8, B_are_clocks⟩, ⟨"lease_end", 2, 11, B_lease_end⟩, ⟨"settling", 2, 2, B_settling⟩, ⟨"is_behind", 3, 3, B_is_behind⟩, ⟨"course_fault", 2, 10, B_course_fault⟩, ⟨"is_course", 2, 2, B_is_course⟩, ⟨"spare", 2, 2, B_spare⟩, ⟨"is_break", 2, 2, B_is_break⟩, ⟨"break_of", 1, 15, B_break_of⟩]
def lit3 : Prg := [⟨"_law_frac", 2, 5, B__law_frac⟩, ⟨"_law_is_less", 2, 2, B__law_is_less⟩, ⟨"_law_last_act", 1, 7, B__law_last_act⟩, ⟨"_law_first_settled", 1, 1, B__law_first_settled⟩, ⟨"_law_is_safe", 1, 1, B__law_is_safe⟩, ⟨"_law_drawn_rule", 1, 10, B__law_drawn_rule⟩, ⟨"_law_bag", 1, 2, B__law_bag⟩, ⟨"_law_take", 2, 7, B__law_take⟩, ⟨"_law_alike", 2, 2, B__law_alike⟩, ⟨"_law_often", 2, 8, B__law_often⟩]
def lit4 : Prg := [⟨"_law_in_bounds", 1, 1, B__law_in_bounds⟩, ⟨"_law_frac_often", 2, 2, B__law_frac_often⟩, ⟨"_law_course_often", 2, 3, B__law_course_often⟩, ⟨"_law_some", 2, 2, B__law_some⟩, ⟨"law", 1, 22, B_law⟩]
def lit : Prg := lit0 ++ (lit1 ++ (lit2 ++ (lit3 ++ (lit4))))
theorem prg_lit : prg = lit := by kernel_rfl
theorem p_is_number : prg[0]? = some ⟨"is_number", 1, 1, B_is_number⟩ := by rw [prg_lit]; rfl
theorem p_gcd : prg[1]? = some ⟨"gcd", 2, 2, B_gcd⟩ := by rw [prg_lit]; rfl
theorem p_fraction : prg[2]? = some ⟨"fraction", 2, 3, B_fraction⟩ := by rw [prg_lit]; rfl
theorem p_plus : prg[3]? = some ⟨"plus", 2, 2, B_plus⟩ := by rw [prg_lit]; rfl
theorem p_less : prg[4]? = some ⟨"less", 2, 2, B_less⟩ := by rw [prg_lit]; rfl
theorem p_times : prg[5]? = some ⟨"times", 2, 2, B_times⟩ := by rw [prg_lit]; rfl
theorem p_is_within : prg[6]? = some ⟨"is_within", 3, 3, B_is_within⟩ := by rw [prg_lit]; rfl
theorem p_is_lease_rule : prg[7]? = some ⟨"is_lease_rule", 1, 7, B_is_lease_rule⟩ := by rw [prg_lit]; rfl
theorem p_last_act : prg[8]? = some ⟨"last_act", 1, 8, B_last_act⟩ := by rw [prg_lit]; rfl
theorem p_first_settled : prg[9]? = some ⟨"first_settled", 1, 7, B_first_settled⟩ := by rw [prg_lit]; rfl
theorem p_is_safe : prg[10]? = some ⟨"is_safe", 1, 1, B_is_safe⟩ := by rw [prg_lit]; rfl
theorem p_least_wait : prg[11]? = some ⟨"least_wait", 1, 3, B_least_wait⟩ := by rw [prg_lit]; rfl
theorem p_with_number : prg[12]? = some ⟨"with_number", 3, 3, B_with_number⟩ := by rw [prg_lit]; rfl
theorem p_greatest : prg[13]? = some ⟨"greatest", 4, 5, B_greatest⟩ := by rw [prg_lit]; rfl
theorem p_greatest_hold : prg[14]? = some ⟨"greatest_hold", 1, 1, B_greatest_hold⟩ := by rw [prg_lit]; rfl
theorem p_greatest_run : prg[15]? = some ⟨"greatest_run", 1, 1, B_greatest_run⟩ := by rw [prg_lit]; rfl
theorem p_least_waits : prg[16]? = some ⟨"least_waits", 1, 2, B_least_waits⟩ := by rw [prg_lit]; rfl
theorem p_faults_of : prg[17]? = some ⟨"faults_of", 1, 3, B_faults_of⟩ := by rw [prg_lit]; rfl
theorem p_is_time : prg[18]? = some ⟨"is_time", 1, 2, B_is_time⟩ := by rw [prg_lit]; rfl
theorem p_is_form : prg[19]? = some ⟨"is_form", 2, 3, B_is_form⟩ := by rw [prg_lit]; rfl
theorem p_is_below : prg[20]? = some ⟨"is_below", 2, 2, B_is_below⟩ := by rw [prg_lit]; rfl
theorem p_are_clocks : prg[21]? = some ⟨"are_clocks", 2, 8, B_are_clocks⟩ := by rw [prg_lit]; rfl
theorem p_lease_end : prg[22]? = some ⟨"lease_end", 2, 11, B_lease_end⟩ := by rw [prg_lit]; rfl
theorem p_settling : prg[23]? = some ⟨"settling", 2, 2, B_settling⟩ := by rw [prg_lit]; rfl
theorem p_is_behind : prg[24]? = some ⟨"is_behind", 3, 3, B_is_behind⟩ := by rw [prg_lit]; rfl
theorem p_course_fault : prg[25]? = some ⟨"course_fault", 2, 10, B_course_fault⟩ := by rw [prg_lit]; rfl
theorem p_is_course : prg[26]? = some ⟨"is_course", 2, 2, B_is_course⟩ := by rw [prg_lit]; rfl
theorem p_spare : prg[27]? = some ⟨"spare", 2, 2, B_spare⟩ := by rw [prg_lit]; rfl
theorem p_is_break : prg[28]? = some ⟨"is_break", 2, 2, B_is_break⟩ := by rw [prg_lit]; rfl
theorem p_break_of : prg[29]? = some ⟨"break_of", 1, 15, B_break_of⟩ := by rw [prg_lit]; rfl
theorem p__law_frac : prg[30]? = some ⟨"_law_frac", 2, 5, B__law_frac⟩ := by rw [prg_lit]; rfl
theorem p__law_is_less : prg[31]? = some ⟨"_law_is_less", 2, 2, B__law_is_less⟩ := by rw [prg_lit]; rfl
theorem p__law_last_act : prg[32]? = some ⟨"_law_last_act", 1, 7, B__law_last_act⟩ := by rw [prg_lit]; rfl
theorem p__law_first_settled : prg[33]? = some ⟨"_law_first_settled", 1, 1, B__law_first_settled⟩ := by rw [prg_lit]; rfl
theorem p__law_is_safe : prg[34]? = some ⟨"_law_is_safe", 1, 1, B__law_is_safe⟩ := by rw [prg_lit]; rfl
theorem p__law_drawn_rule : prg[35]? = some ⟨"_law_drawn_rule", 1, 10, B__law_drawn_rule⟩ := by rw [prg_lit]; rfl
theorem p__law_bag : prg[36]? = some ⟨"_law_bag", 1, 2, B__law_bag⟩ := by rw [prg_lit]; rfl
theorem p__law_take : prg[37]? = some ⟨"_law_take", 2, 7, B__law_take⟩ := by rw [prg_lit]; rfl
theorem p__law_alike : prg[38]? = some ⟨"_law_alike", 2, 2, B__law_alike⟩ := by rw [prg_lit]; rfl
theorem p__law_often : prg[39]? = some ⟨"_law_often", 2, 8, B__law_often⟩ := by rw [prg_lit]; rfl
theorem p__law_in_bounds : prg[40]? = some ⟨"_law_in_bounds", 1, 1, B__law_in_bounds⟩ := by rw [prg_lit]; rfl
theorem p__law_frac_often : prg[41]? = some ⟨"_law_frac_often", 2, 2, B__law_frac_often⟩ := by rw [prg_lit]; rfl
theorem p__law_course_often : prg[42]? = some ⟨"_law_course_often", 2, 3, B__law_course_often⟩ := by rw [prg_lit]; rfl
theorem p__law_some : prg[43]? = some ⟨"_law_some", 2, 2, B__law_some⟩ := by rw [prg_lit]; rfl
theorem p_law : prg[44]? = some ⟨"law", 1, 22, B_law⟩ := by rw [prg_lit]; rfl
end Tab

/-! EvP: how the evaluator is led by hand: calls with frozen operands. -/
namespace EV
open PySem
abbrev fz (d : D) : Option Sl := some ⟨d, false, false⟩
/-- what a def answers when nothing is lent to it -/
noncomputable def callV (P : Prg) (n f : Nat) (ds : List D) : Option (D × Bool) := (Phi P n f (ds.map fz)).map fun r => (r.1, r.2.1)
def retOf : Option Out → Option (D × Bool)
  | some (.ret d fr _) => some (d, fr)
  | some (.nx _) => some (.none, false)
  | _ => none
theorem callV_eq {P : Prg} {n f : Nat} {nm : Str} {np ns : Nat} {B : List Sm} {ds : List D} (h : P[f]? = some ⟨nm, np, ns, B⟩) (hl : ds.length = np) : callV P (n + 1) f ds = retOf (exB (Phi P n) B (ds.map fz ++ List.replicate (ns - np) none)) := by
  unfold callV
  rw [Phi, h]
  show Option.map _ (runF (Phi P n) ⟨nm, np, ns, B⟩ _) = _
  unfold runF
  rw [if_pos (by simpa using hl)]
  cases e : exB (Phi P n) B (ds.map fz ++ List.replicate (ns - np) none) with
  | none => rfl
  | some o => cases o <;> rfl
def outV (x : Option (List D × Ev)) (g : List D → Option (D × Bool)) : Option (D × Bool × Ev) := match x with
  | some (ds, ρ) => match g ds with
    | some (d, fr) => some (d, fr, ρ)
    | none => none
  | none => none
theorem evAs_fz (Φ : Orc) : ∀ (es : List Ex) (bs : List Bool), bs.all (fun b => !b) = true → ∀ ρ, evAs Φ bs es ρ = (evVs Φ es ρ).map fun x => (x.1.map Opn.val, x.2)
  | [], bs, _, ρ => by cases bs <;> rfl
  | e :: es, bs, h, ρ => by
    have h0 : bs.headD false = false := by
      cases bs with
      | nil => rfl
      | cons b bs => simp at h; simp [h.1]
    have h1 : bs.tail.all (fun b => !b) = true := by
      cases bs with
      | nil => rfl
      | cons b bs => simp only [List.all_cons, Bool.and_eq_true] at h; exact h.2
    rw [evAs, evVs, h0]
    simp only [Bool.false_eq_true, if_false]
    unfold evConsO evFrz evCons
    cases e1 : evE Φ e ρ with
    | none => simp
    | some x =>
      obtain ⟨d, fr, ρ1⟩ := x
      simp only [Option.map_some, bind, Option.bind]
      rw [evAs_fz Φ es bs.tail h1 ρ1]
      cases e2 : evVs Φ es ρ1 with
      | none => simp
      | some y => simp
theorem argsOf_val (ρ : Ev) : ∀ ds : List D, argsOf ρ (ds.map Opn.val) = some (ds.map fz)
  | [] => rfl
  | d :: ds => by simp [argsOf, argOf, argsOf_val ρ ds]
theorem bors_val : ∀ ds : List D, bors (ds.map Opn.val) = []
  | [] => rfl
  | d :: ds => by simp [bors, bors_val ds]
theorem backs_val (ρ : Ev) : ∀ (ds : List D) (ss : List (Option Sl)), backs (ds.map Opn.val) ss ρ = ρ
  | [], ss => by simp [backs]
  | d :: ds, [] => by simp [backs]
  | d :: ds, s :: ss => by
    simp only [List.map_cons]
    rw [backs]
    · exact backs_val ρ ds ss
    · intro i _ h _
      cases h
theorem evE_fn {P : Prg} {n f : Nat} {bs : List Bool} {es : List Ex} (h : bs.all (fun b => !b) = true) (ρ : Ev) : evE (Phi P n) (.fn f bs es) ρ = outV (evVs (Phi P n) es ρ) (callV P n f) := by
  rw [evE]
  unfold evFn outV callV
  rw [evAs_fz _ _ _ h]
  cases e : evVs (Phi P n) es ρ with
  | none => rfl
  | some x =>
    obtain ⟨ds, ρ1⟩ := x
    simp only [Option.map_some, bind, Option.bind, argsOf_val, bors_val, List.nodup_nil, if_true, backs_val]
    cases e2 : Phi P n f (ds.map fz) with
    | none => rfl
    | some r => rfl
theorem evE_fn1 {P : Prg} {n f : Nat} {a : Ex} (ρ : Ev) : evE (Phi P n) (.fn f [false] [a]) ρ = outV (evVs (Phi P n) [a] ρ) (callV P n f) := evE_fn rfl ρ
theorem evE_fn2 {P : Prg} {n f : Nat} {a b : Ex} (ρ : Ev) : evE (Phi P n) (.fn f [false, false] [a, b]) ρ = outV (evVs (Phi P n) [a, b] ρ) (callV P n f) := evE_fn rfl ρ
theorem evE_fn3 {P : Prg} {n f : Nat} {a b c : Ex} (ρ : Ev) : evE (Phi P n) (.fn f [false, false, false] [a, b, c]) ρ = outV (evVs (Phi P n) [a, b, c] ρ) (callV P n f) := evE_fn rfl ρ
theorem evE_fn4 {P : Prg} {n f : Nat} {a b c d : Ex} (ρ : Ev) : evE (Phi P n) (.fn f [false, false, false, false] [a, b, c, d]) ρ = outV (evVs (Phi P n) [a, b, c, d] ρ) (callV P n f) := evE_fn rfl ρ
theorem outV_some {ds : List D} {ρ : Ev} {g : List D → Option (D × Bool)} : outV (some (ds, ρ)) g = (match g ds with
    | some (d, fr) => some (d, fr, ρ)
    | none => none) := rfl
section
variable {Φ : Orc}
theorem ee_cst {d} : evE Φ (.cst d) = evC d := by rw [evE]
theorem ee_glo {x d} : evE Φ (.glo x d) = evC d := by rw [evE]
theorem ee_var {i} : evE Φ (.var i) = evVar i := by rw [evE]
theorem ee_tup {es} : evE Φ (.tup es) = evDisp .tuple false (evVs Φ es) := by rw [evE]
theorem ee_lst {es} : evE Φ (.lst es) = evDisp .list true (evVs Φ es) := by rw [evE]
theorem ee_star {bs es} : evE Φ (.star bs es) = evStar bs (evVs Φ es) := by rw [evE]
theorem ee_bin {o a b} : evE Φ (.bin o a b) = evBin (binD o) (opnd a (evE Φ a)) (opnd b (evE Φ b)) := by rw [evE]
theorem ee_neg {a} : evE Φ (.neg a) = evUn negD (evE Φ a) := by rw [evE]
theorem ee_cmp {o a b} : evE Φ (.cmp o a b) = evCmp (cmpD o) (opnd a (evE Φ a)) (opnd b (evE Φ b)) := by rw [evE]
theorem ee_chn {o p a b c} : evE Φ (.chn o p a b c) = evChn (cmpD o) (cmpD p) (evE Φ a) (evE Φ b) (evE Φ c) := by rw [evE]
theorem ee_and {a b} : evE Φ (.and a b) = evBr (evE Φ a) fun c => if c then evE Φ b else evC (.bool false) := by rw [evE]
theorem ee_or {a b} : evE Φ (.or a b) = evBr (evE Φ a) fun c => if c then evC (.bool true) else evE Φ b := by rw [evE]
theorem ee_not {a} : evE Φ (.not a) = evBr (evE Φ a) fun c => evC (.bool (!c)) := by rw [evE]
theorem ee_ite {t a b} : evE Φ (.ite t a b) = evBr (evE Φ t) fun c => if c then evE Φ a else evE Φ b := by rw [evE]
theorem ee_ix {a i} : evE Φ (.ix a i) = evBin (fun x y => (ixD x y).map fun d => (d, false)) (opnd a (evE Φ a)) (opnd i (evE Φ i)) := by rw [evE]
theorem ee_sl {bl bh a lo hi} : evE Φ (.sl bl bh a lo hi) = evSl (opnd a (evE Φ a)) (evPart bl (evE Φ lo)) (evPart bh (evE Φ hi)) := by rw [evE]
theorem ee_bi {p es} : evE Φ (.bi p es) = evBi (biD p) (evOs Φ es) := by rw [evE]
theorem ee_lc {elt tg k es ifs own} : evE Φ (.lc elt tg k es ifs own) = evLc tg k (evOs Φ es) (evFs Φ ifs) (evE Φ elt) own := by rw [evE]
end
theorem atD_nat (ds : List D) (k : Nat) : atD ds ((k : Nat) : Int) = ds[k]? := by
  unfold atD L2.atI L2.ixN
  by_cases h : k < ds.length
  · rw [if_pos (by omega), if_pos (by omega)]; simp
  · rw [if_pos (by omega), if_neg (by omega)]; simp; omega
theorem at0 (ds : List D) : atD ds 0 = ds[0]? := atD_nat ds 0
theorem at1 (ds : List D) : atD ds 1 = ds[1]? := atD_nat ds 1
theorem at2 (ds : List D) : atD ds 2 = ds[2]? := atD_nat ds 2
theorem at3 (ds : List D) : atD ds 3 = ds[3]? := atD_nat ds 3
theorem at4 (ds : List D) : atD ds 4 = ds[4]? := atD_nat ds 4
theorem at5 (ds : List D) : atD ds 5 = ds[5]? := atD_nat ds 5
theorem at6 (ds : List D) : atD ds 6 = ds[6]? := atD_nat ds 6
theorem at7 (ds : List D) : atD ds 7 = ds[7]? := atD_nat ds 7
theorem cut_lo (xs : List D) (k : Nat) : cutD xs (some (k : Int)) none = xs.drop k := by
  unfold cutD
  rw [HT.sIx_nat, HT.sIx_none]
  by_cases h : k ≤ xs.length
  · rw [Nat.min_eq_left h, List.take_of_length_le (by simp)]
  · rw [Nat.min_eq_right (by omega), List.drop_of_length_le (by omega), List.drop_of_length_le (by omega)]; simp
theorem cut_hi (xs : List D) (k : Nat) : cutD xs none (some (k : Int)) = xs.take k := by
  unfold cutD
  rw [HT.sIx_nat, HT.sIx_none]
  by_cases h : k ≤ xs.length
  · rw [Nat.min_eq_left h]; simp
  · rw [Nat.min_eq_right (by omega), List.take_of_length_le (i := k) (by omega)]; simp
theorem cmp_eq_int (a b : Int) : cmpD .eq (.int a) (.int b) = some (decide (a = b)) := by
  simp [cmpD, shp, SeqAt.shaped, PyData.canLay0, PyData.depth, PyData.eqv, Bool.beq_eq_decide_eq]
theorem cmp_ne_int (a b : Int) : cmpD .ne (.int a) (.int b) = some (decide (a ≠ b)) := by
  simp [cmpD, shp, SeqAt.shaped, PyData.canLay0, PyData.depth, PyData.eqv, Bool.beq_eq_decide_eq]
theorem cmp_lt (a b : Int) : cmpD .lt (.int a) (.int b) = some (decide (a < b)) := rfl
theorem cmp_le (a b : Int) : cmpD .le (.int a) (.int b) = some (decide (a ≤ b)) := rfl
theorem cmp_gt (a b : Int) : cmpD .gt (.int a) (.int b) = some (decide (b < a)) := rfl
theorem cmp_ge (a b : Int) : cmpD .ge (.int a) (.int b) = some (decide (b ≤ a)) := rfl
theorem cmp_is_none (d : D) : cmpD .is d .none = some (isNoneD d) := by cases d <;> rfl
theorem cmp_isn_none (d : D) : cmpD .isNot d .none = some (!isNoneD d) := by cases d <;> rfl
theorem cmp_is_bool (a b : Bool) : cmpD .is (.bool a) (.bool b) = some (decide (a = b)) := rfl
theorem cmp_isn_bool (a b : Bool) : cmpD .isNot (.bool a) (.bool b) = some (!decide (a = b)) := rfl
theorem cmp_eq_refl {d : D} (h : shp d = true) : cmpD .eq d d = some true := by
  have h1 : d.canLay0 = true := by unfold shp SeqAt.shaped at h; simp at h; exact h.1
  show (if shp d && shp d then _ else _) = _
  rw [h]
  simp [SeqAt.eqv_refl d h1]
theorem cmp_ne_refl {d : D} (h : shp d = true) : cmpD .ne d d = some false := by
  have h1 : d.canLay0 = true := by unfold shp SeqAt.shaped at h; simp at h; exact h.1
  show (if shp d && shp d then _ else _) = _
  rw [h]
  simp [SeqAt.eqv_refl d h1]
theorem add_int (a b : Int) : binD .add (.int a) (.int b) = some (.int (a + b), false) := rfl
theorem sub_int (a b : Int) : binD .sub (.int a) (.int b) = some (.int (a - b), false) := rfl
theorem mul_int {a b : Int} (h : mulOk a b = true) : binD .mul (.int a) (.int b) = some (.int (a * b), false) := by simp [binD, h]
theorem div_int {a b : Int} (h : divOk b = true) : binD .fdiv (.int a) (.int b) = some (.int (a / b), false) := by simp [binD, h]
theorem mod_int {a b : Int} (h : 0 < b) : binD .mod (.int a) (.int b) = some (.int (a % b), false) := by simp [binD, h]
theorem log2_lt {n k : Nat} (h : n < 2 ^ k) (hk : 0 < k) : n.log2 < k := by
  by_cases h0 : n = 0
  · subst h0; simpa using hk
  · exact (Nat.log2_lt h0).2 h
/-- |i| < 2^k -/
def Sz (k : Nat) (i : Int) : Prop := i.natAbs < 2 ^ k
theorem mulOk_of {i j : Int} {a b : Nat} (hi : Sz a i) (hj : Sz b j) (h : a + b < 1000000) : mulOk i j = true := by
  unfold mulOk
  have h1 : i.natAbs.log2 < a + 1 := log2_lt (Nat.lt_of_lt_of_le hi (Nat.pow_le_pow_right (by decide) (by omega))) (by omega)
  have h2 : j.natAbs.log2 < b + 1 := log2_lt (Nat.lt_of_lt_of_le hj (Nat.pow_le_pow_right (by decide) (by omega))) (by omega)
  simp; omega
theorem divOk_of {j : Int} {a : Nat} (hj : Sz a j) (h0 : 0 < j) (h : a < 8999) : divOk j = true := by
  unfold divOk
  have h1 : j.natAbs.log2 < a + 1 := log2_lt (Nat.lt_of_lt_of_le hj (Nat.pow_le_pow_right (by decide) (by omega))) (by omega)
  simp; omega
theorem Sz.up {a b : Nat} {i : Int} (h : Sz a i) (hab : a ≤ b) : Sz b i := Nat.lt_of_lt_of_le h (Nat.pow_le_pow_right (by decide) hab)
theorem Sz.mul {a b : Nat} {i j : Int} (hi : Sz a i) (hj : Sz b j) : Sz (a + b) (i * j) := by
  unfold Sz at *
  rw [Int.natAbs_mul, Nat.pow_add]
  exact Nat.mul_lt_mul'' hi hj
theorem Sz.add {a b : Nat} {i j : Int} (hi : Sz a i) (hj : Sz b j) : Sz (max a b + 1) (i + j) := by
  have h1 : i.natAbs < 2 ^ max a b := Nat.lt_of_lt_of_le hi (Nat.pow_le_pow_right (by decide) (Nat.le_max_left ..))
  have h2 : j.natAbs < 2 ^ max a b := Nat.lt_of_lt_of_le hj (Nat.pow_le_pow_right (by decide) (Nat.le_max_right ..))
  unfold Sz
  rw [Nat.pow_succ]
  omega
theorem Sz.neg {a : Nat} {i : Int} (hi : Sz a i) : Sz a (-i) := by unfold Sz at *; omega
theorem Sz.of_le {a : Nat} {i j : Int} (hi : Sz a i) (h : j.natAbs ≤ i.natAbs) : Sz a j := Nat.lt_of_le_of_lt h hi
instance (k : Nat) (i : Int) : Decidable (Sz k i) := by unfold Sz; infer_instance
theorem lz0 : 0 ≤ sizeLine := by decide
theorem lz1 : 1 ≤ sizeLine := by decide
theorem lz2 : 2 ≤ sizeLine := by decide
theorem lz3 : 3 ≤ sizeLine := by decide
theorem lz4 : 4 ≤ sizeLine := by decide
theorem lz5 : 5 ≤ sizeLine := by decide
theorem lz6 : 6 ≤ sizeLine := by decide
theorem lz7 : 7 ≤ sizeLine := by decide
theorem lz8 : 8 ≤ sizeLine := by decide
theorem st_nx {Φ : Orc} {s : Sm} {ss : List Sm} {ρ ρ' : Ev} {x : Option (D × Bool)} (h : exS Φ s ρ = some (.nx ρ')) (k : retOf (exB Φ ss ρ') = x) : retOf (exB Φ (s :: ss) ρ) = x := by
  rw [exB, stSeq, h]
  exact k
theorem st_ret {Φ : Orc} {s : Sm} {ss : List Sm} {ρ ρ' : Ev} {d : D} {fr : Bool} (h : exS Φ s ρ = some (.ret d fr ρ')) : retOf (exB Φ (s :: ss) ρ) = some (d, fr) := by
  rw [exB, stSeq, h]
  rfl
end EV

/-! EvQ: repr of data. -/
namespace EV
open PySem
/-- every sign is one -/
def SOk (x : Str) : Prop := ∀ c ∈ x.cps.toList, c < 0x110000
theorem sok_iff (x : Str) : PyData.strOk x = true ↔ SOk x := by
  unfold PyData.strOk SOk
  rw [Array.all_eq_true_iff_forall_mem]
  constructor
  · intro h c hc
    simpa using h c (Array.mem_toList_iff.mp hc)
  · intro h c hc
    simpa using h c (Array.mem_toList_iff.mpr hc)
theorem sok_append {a b : Str} (ha : SOk a) (hb : SOk b) : SOk (a ++ b) := by
  intro c hc
  have e : (a ++ b).cps = a.cps ++ b.cps := rfl
  rw [e, Array.toList_append, List.mem_append] at hc
  rcases hc with h | h
  · exact ha c h
  · exact hb c h
theorem sok_of (s : String) : SOk (Str.ofString s) := by
  intro c hc
  rw [Str.ofString_eq_toList] at hc
  simp only [List.mem_map] at hc
  obtain ⟨ch, _, rfl⟩ := hc
  have h := ch.valid
  have e : ch.toNat = ch.val.toNat := rfl
  rw [e]
  rcases h with h | ⟨_, h⟩
  · have : ch.val.toNat < 0xd800 := h
    omega
  · exact h
theorem sok_textFrom : ∀ (ts : List Str) (k : Nat) (acc : Str), SOk acc → (∀ t ∈ ts, SOk t) → SOk (textFrom k acc ts)
  | [], _, acc, h, _ => h
  | t :: ts, k, acc, h, ht => by
    rw [textFrom]
    exact sok_textFrom ts (k + 1) _ (sok_append (sok_append h (sok_of _)) (ht t (by simp))) fun u hu => ht u (by simp [hu])
theorem sok_join (sep : Str) (hs : SOk sep) : ∀ ts : List Str, (∀ t ∈ ts, SOk t) → SOk (Str.join sep ts)
  | [], _ => by intro c hc; simp [Str.join, Str.empty] at hc
  | [x], h => by rw [Str.join]; exact h x (by simp)
  | x :: y :: r, h => by
    rw [Str.join]
    · exact sok_append (sok_append (h x (by simp)) hs) (sok_join sep hs (y :: r) fun t ht => h t (by simp [ht]))
    · simp
mutual
/-- neither a text nor a dict in it -/
def noStr : D → Bool
  | .none | .bool _ | .int _ => true
  | .list xs | .tuple xs => noStrs xs
  | _ => false
def noStrs : List D → Bool
  | [] => true
  | x :: xs => noStr x && noStrs xs
end
mutual
theorem sok_shown : ∀ d : D, noStr d = true → SOk d.shown
  | .none, _ => sok_of _
  | .bool b, _ => by
    cases b
    · exact sok_of _
    · exact sok_of _
  | .int i, _ => sok_of _
  | .str _, h => by simp [noStr] at h
  | .dict _, h => by simp [noStr] at h
  | .list xs, h => by
    rw [PyData.shown]
    exact sok_append (sok_textFrom _ _ _ (sok_of _) (sok_shownAll xs (by simpa [noStr] using h))) (sok_of _)
  | .tuple xs, h => by
    rw [PyData.shown]
    exact sok_append (sok_append (sok_of _) (sok_join _ (sok_of _) _ (sok_shownAll xs (by simpa [noStr] using h)))) (sok_of _)
theorem sok_shownAll : ∀ xs : List D, noStrs xs = true → ∀ t ∈ PyData.shownAll xs, SOk t
  | [], _, t, ht => by simp [PyData.shownAll] at ht
  | x :: xs, h, t, ht => by
    simp only [noStrs, Bool.and_eq_true] at h
    simp only [PyData.shownAll, List.mem_cons] at ht
    rcases ht with rfl | ht
    · exact sok_shown x h.1
    · exact sok_shownAll xs h.2 t ht
end
mutual
theorem short_of : ∀ d : D, d.canLay0 = true → d.showable = true → d.intsShort 1921 = true
  | .none, _, _ => by simp only [PyData.intsShort]
  | .bool _, _, _ => by simp only [PyData.intsShort]
  | .str _, _, _ => by simp only [PyData.intsShort]
  | .dict _, h, _ => by simp [PyData.canLay0] at h
  | .int i, _, h => by
    simp only [PyData.showable, decide_eq_true_eq] at h
    simp only [PyData.intsShort, decide_eq_true_eq]
    exact PyProof.Rows.int_text_len_1921 h
  | .list xs, h, h' => by
    simp only [PyData.intsShort]
    exact shortAll_of xs (by simpa only [PyData.canLay0] using h) (by simpa only [PyData.showable] using h')
  | .tuple xs, h, h' => by
    simp only [PyData.intsShort]
    exact shortAll_of xs (by simpa only [PyData.canLay0] using h) (by simpa only [PyData.showable] using h')
theorem shortAll_of : ∀ xs : List D, PyData.canLayAll0 xs = true → PyData.showableAll xs = true → PyData.intsShortAll 1921 xs = true
  | [], _, _ => by simp only [PyData.intsShortAll]
  | x :: xs, h, h' => by
    simp only [PyData.canLayAll0, Bool.and_eq_true] at h
    simp only [PyData.showableAll, Bool.and_eq_true] at h'
    simp only [PyData.intsShortAll, Bool.and_eq_true]
    exact ⟨short_of x h.1 h'.1, shortAll_of xs h.2 h'.2⟩
end
theorem shw_of {d : D} (h1 : d.canLay0 = true) (h2 : d.showable = true) (h3 : d.depth ≤ 64) (h4 : d.weight ≤ 8000) : shw d = true := by
  have h := PyData.shown_le 1921 (by decide) d (PyData.leavesShort_of_canLay0 1921 d h1 (short_of d h1 h2))
  have e : sizeLine = 16777216 := by decide
  unfold shw
  simp only [Bool.and_eq_true, decide_eq_true_eq]
  refine ⟨⟨⟨h1, h2⟩, h3⟩, ?_⟩
  rw [e]
  have h2 : (1921 + 2) * d.weight ≤ 1923 * 8000 := Nat.mul_le_mul (by decide) h4
  omega
theorem shp_shown {d : D} (h : noStr d = true) : shp (.str d.shown) = true := by
  have := (sok_iff d.shown).2 (sok_shown d h)
  simp [shp, SeqAt.shaped, PyData.canLay0, PyData.depth, this]
end EV

namespace K43
open PySem EV Tab
theorem c_is_number (n : Nat) (i : Int) : callV prg (n+1) 0 [.int i] = some (.bool true, false) := by
  rw [callV_eq p_is_number rfl]
  simp [B_is_number, retOf, exB, exS, stSeq, stRetE, stRetV, stRet, stAsg, stAsgT, stPar, stIf, stNx, stEx, evPs, evPnil, evPcons, stores, stor, asgT, asgTs, ee_cst, ee_glo, ee_var, ee_tup, ee_lst, ee_star, ee_bin, ee_neg, ee_cmp, ee_chn, ee_and, ee_or, ee_not, ee_ite, ee_ix, ee_sl, ee_bi, evE_fn1, evE_fn2, evE_fn3, evE_fn4, evBr, evBi, evBin, evCmp, evUn, evChn, evSl, evPart, partD, slD, evDisp, evStar, spread, seqD, evOs, evConsO, evNilO, opnd, gets, Opn.get, evC, evVar, evVs, evCons, evNil, outV, ixD, at0, at1, at2, at3, at4, at5, at6, at7, cmp_lt, cmp_le, cmp_gt, cmp_ge, cmp_eq_int, cmp_ne_int, cmp_is_none, cmp_isn_none, cmp_is_bool, cmp_isn_bool, isNoneD, add_int, sub_int, biD, negD, fz, List.replicate, lz0, lz1, lz2, lz3, lz4, lz5, lz6, lz7, lz8]
theorem c_is_within (n : Nat) (i a b : Int) : callV prg (n+2) 6 [.int i, .int a, .int b] = some (.bool (decide (a ≤ i) && decide (i ≤ b)), false) := by
  rw [callV_eq p_is_within rfl]
  by_cases h : a ≤ i <;> simp [B_is_within, c_is_number, h, retOf, exB, exS, stSeq, stRetE, stRetV, stRet, stAsg, stAsgT, stPar, stIf, stNx, stEx, evPs, evPnil, evPcons, stores, stor, asgT, asgTs, ee_cst, ee_glo, ee_var, ee_tup, ee_lst, ee_star, ee_bin, ee_neg, ee_cmp, ee_chn, ee_and, ee_or, ee_not, ee_ite, ee_ix, ee_sl, ee_bi, evE_fn1, evE_fn2, evE_fn3, evE_fn4, evBr, evBi, evBin, evCmp, evUn, evChn, evSl, evPart, partD, slD, evDisp, evStar, spread, seqD, evOs, evConsO, evNilO, opnd, gets, Opn.get, evC, evVar, evVs, evCons, evNil, outV, ixD, at0, at1, at2, at3, at4, at5, at6, at7, cmp_lt, cmp_le, cmp_gt, cmp_ge, cmp_eq_int, cmp_ne_int, cmp_is_none, cmp_isn_none, cmp_is_bool, cmp_isn_bool, isNoneD, add_int, sub_int, biD, negD, fz, List.replicate, lz0, lz1, lz2, lz3, lz4, lz5, lz6, lz7, lz8]
/-! ### gcd -/
theorem gcd_loop {t : EvR} {bd : StR} (g : Nat → Nat → Ev) (ht : ∀ a b, t (g a b) = some (.bool (decide (0 < b)), false, g a b)) (hb : ∀ a b, 0 < b → bd (g a b) = some (.nx (g b (a % b)))) : ∀ (b a : Nat), ∃ k, whileN t bd k (g a b) = some (.nx (g (Nat.gcd a b) 0)) := by
  intro b
  induction b using Nat.strongRecOn with
  | ind b ih =>
    intro a
    by_cases h : 0 < b
    · obtain ⟨k, hk⟩ := ih (a % b) (Nat.mod_lt _ h) b
      refine ⟨k + 1, ?_⟩
      rw [whileN, ht, decide_eq_true h]
      simp only [hb a b h]
      rw [hk, Nat.gcd_comm b, ← Nat.gcd_rec, Nat.gcd_comm]
    · have : b = 0 := by omega
      subst this
      refine ⟨1, ?_⟩
      rw [whileN, ht]
      simp
theorem gcd_while {t : EvR} {bd : StR} (g : Nat → Nat → Ev) (ht : ∀ a b, t (g a b) = some (.bool (decide (0 < b)), false, g a b)) (hb : ∀ a b, 0 < b → bd (g a b) = some (.nx (g b (a % b)))) (a b : Nat) : whileC t bd (g a b) = some (.nx (g (Nat.gcd a b) 0)) := by
  obtain ⟨k, hk⟩ := gcd_loop g ht hb b a
  exact whileC_of hk
theorem c_gcd (n : Nat) (a b : Nat) : callV prg (n+1) 1 [.int a, .int b] = some (.int (Nat.gcd a b : Nat), false) := by
  rw [callV_eq p_gcd rfl]
  have h := gcd_while (t := evE (Phi prg n) (.cmp .ne (.var 1) (.cst (.int 0)))) (bd := exB (Phi prg n) [.par [0, 1] [.var 1, .bin .mod (.bi .int [.var 0]) (.bi .int [.var 1])]]) (fun a b => [fz (.int a), fz (.int b)])
    (fun a b => by by_cases hb : b = 0 <;> simp [hb, retOf, exB, exS, stSeq, stRetE, stRetV, stRet, stAsg, stAsgT, stPar, stIf, stNx, stEx, evPs, evPnil, evPcons, stores, stor, asgT, asgTs, ee_cst, ee_glo, ee_var, ee_tup, ee_lst, ee_star, ee_bin, ee_neg, ee_cmp, ee_chn, ee_and, ee_or, ee_not, ee_ite, ee_ix, ee_sl, ee_bi, evE_fn1, evE_fn2, evE_fn3, evE_fn4, evBr, evBi, evBin, evCmp, evUn, evChn, evSl, evPart, partD, slD, evDisp, evStar, spread, seqD, evOs, evConsO, evNilO, opnd, gets, Opn.get, evC, evVar, evVs, evCons, evNil, outV, ixD, at0, at1, at2, at3, at4, at5, at6, at7, cmp_lt, cmp_le, cmp_gt, cmp_ge, cmp_eq_int, cmp_ne_int, cmp_is_none, cmp_isn_none, cmp_is_bool, cmp_isn_bool, isNoneD, add_int, sub_int, biD, negD, fz, List.replicate, lz0, lz1, lz2, lz3, lz4, lz5, lz6, lz7, lz8] <;> omega)
    (fun a b hb => by
      have hb' : (0 : Int) < (b : Int) := by omega
      simp [mod_int hb', retOf, exB, exS, stSeq, stRetE, stRetV, stRet, stAsg, stAsgT, stPar, stIf, stNx, stEx, evPs, evPnil, evPcons, stores, stor, asgT, asgTs, ee_cst, ee_glo, ee_var, ee_tup, ee_lst, ee_star, ee_bin, ee_neg, ee_cmp, ee_chn, ee_and, ee_or, ee_not, ee_ite, ee_ix, ee_sl, ee_bi, evE_fn1, evE_fn2, evE_fn3, evE_fn4, evBr, evBi, evBin, evCmp, evUn, evChn, evSl, evPart, partD, slD, evDisp, evStar, spread, seqD, evOs, evConsO, evNilO, opnd, gets, Opn.get, evC, evVar, evVs, evCons, evNil, outV, ixD, at0, at1, at2, at3, at4, at5, at6, at7, cmp_lt, cmp_le, cmp_gt, cmp_ge, cmp_eq_int, cmp_ne_int, cmp_is_none, cmp_isn_none, cmp_is_bool, cmp_isn_bool, isNoneD, add_int, sub_int, biD, negD, fz, List.replicate, lz0, lz1, lz2, lz3, lz4, lz5, lz6, lz7, lz8]) a b
  simp only [B_gcd, exB, stSeq, exS, List.map, List.replicate, List.append_nil] at *
  simp only [Nat.sub_self, List.replicate_zero, List.append_nil]
  rw [h]
  simp [retOf, exB, exS, stSeq, stRetE, stRetV, stRet, stAsg, stAsgT, stPar, stIf, stNx, stEx, evPs, evPnil, evPcons, stores, stor, asgT, asgTs, ee_cst, ee_glo, ee_var, ee_tup, ee_lst, ee_star, ee_bin, ee_neg, ee_cmp, ee_chn, ee_and, ee_or, ee_not, ee_ite, ee_ix, ee_sl, ee_bi, evE_fn1, evE_fn2, evE_fn3, evE_fn4, evBr, evBi, evBin, evCmp, evUn, evChn, evSl, evPart, partD, slD, evDisp, evStar, spread, seqD, evOs, evConsO, evNilO, opnd, gets, Opn.get, evC, evVar, evVs, evCons, evNil, outV, ixD, at0, at1, at2, at3, at4, at5, at6, at7, cmp_lt, cmp_le, cmp_gt, cmp_ge, cmp_eq_int, cmp_ne_int, cmp_is_none, cmp_isn_none, cmp_is_bool, cmp_isn_bool, isNoneD, add_int, sub_int, biD, negD, fz, List.replicate, lz0, lz1, lz2, lz3, lz4, lz5, lz6, lz7, lz8]
/-! ### fractions -/
def pr (a b : Int) : D := .tuple [.int a, .int b]
def rep (q : Rat) : D := pr q.num q.den
theorem rat_num (a : Int) (b : Nat) (hb : 0 < b) : ((a : Rat) / (b : Int)).num = a / (Nat.gcd a.natAbs b : Nat) ∧ (((a : Rat) / (b : Int)).den : Int) = b / (Nat.gcd a.natAbs b : Nat) := by
  have e : (a : Rat) / (b : Int) = mkRat a b := by rw [Rat.mkRat_eq_div]; rfl
  rw [e, Rat.num_mkRat, Rat.den_mkRat, if_neg (by omega), if_neg (by omega), Nat.gcd_comm b]
  exact ⟨rfl, by simp⟩
theorem c_fraction (n : Nat) {a : Int} {b : Nat} (hb : 0 < b) (hs : Sz 8990 (b : Int)) : callV prg (n+2) 2 [.int a, .int b] = some (rep ((a : Rat) / (b : Int)), false) := by
  rw [callV_eq p_fraction rfl]
  have hg : 0 < Nat.gcd a.natAbs b := Nat.gcd_pos_of_pos_right _ hb
  have hsg : Sz 8990 ((Nat.gcd a.natAbs b : Nat) : Int) := hs.of_le (by simpa using Nat.gcd_le_right _ hb)
  have h1 : mulOk ((Nat.gcd a.natAbs b : Nat) : Int) 1 = true := mulOk_of hsg (b := 1) (by decide) (by decide)
  have h2 : divOk ((Nat.gcd a.natAbs b : Nat) : Int) = true := divOk_of hsg (by omega) (by decide)
  have ha : (if a < 0 then -a else a) = ((a.natAbs : Nat) : Int) := by omega
  have hc := c_gcd n a.natAbs b
  have hb0 : ¬ (b : Int) < 0 := by omega
  have hr := rat_num a b hb
  simp [B_fraction, retOf, exB, exS, stSeq, stRetE, stRetV, stRet, stAsg, stAsgT, stPar, stIf, stNx, stEx, evPs, evPnil, evPcons, stores, stor, asgT, asgTs, ee_cst, ee_glo, ee_var, ee_tup, ee_lst, ee_star, ee_bin, ee_neg, ee_cmp, ee_chn, ee_and, ee_or, ee_not, ee_ite, ee_ix, ee_sl, ee_bi, evE_fn1, evE_fn2, evE_fn3, evE_fn4, evBr, evBi, evBin, evCmp, evUn, evChn, evSl, evPart, partD, slD, evDisp, evStar, spread, seqD, evOs, evConsO, evNilO, opnd, gets, Opn.get, evC, evVar, evVs, evCons, evNil, outV, ixD, at0, at1, at2, at3, at4, at5, at6, at7, cmp_lt, cmp_le, cmp_gt, cmp_ge, cmp_eq_int, cmp_ne_int, cmp_is_none, cmp_isn_none, cmp_is_bool, cmp_isn_bool, isNoneD, add_int, sub_int, biD, negD, fz, List.replicate, lz0, lz1, lz2, lz3, lz4, lz5, lz6, lz7, lz8, ha, hb0, hc, mul_int h1, hb, div_int h2]
  rw [rep, pr, hr.1, hr.2]
end K43

namespace K43
open PySem EV Tab
/-! ### sums, products -/
theorem shp_rep (q : Rat) : shp (rep q) = true := by
  simp [rep, pr, shp, SeqAt.shaped, PyData.canLay0, PyData.canLayAll0, PyData.depth, PyData.depthAll]
theorem frac_add (a c : Int) {b d : Nat} (hb : 0 < b) (hd : 0 < d) : ((a * (d : Int) + c * (b : Int) : Int) : Rat) / (((b * d : Nat) : Int) : Rat) = (a : Rat) / (b : Int) + (c : Rat) / (d : Int) := by
  have h1 : ((b : Int) : Rat) ≠ 0 := by simp; omega
  have h2 : ((d : Int) : Rat) ≠ 0 := by simp; omega
  simp only [Int.natCast_mul, Rat.intCast_add, Rat.intCast_mul]
  grind
theorem frac_mul (a c : Int) {b d : Nat} (hb : 0 < b) (hd : 0 < d) : ((a * c : Int) : Rat) / (((b * d : Nat) : Int) : Rat) = (a : Rat) / (b : Int) * ((c : Rat) / (d : Int)) := by
  have h1 : ((b : Int) : Rat) ≠ 0 := by simp; omega
  have h2 : ((d : Int) : Rat) ≠ 0 := by simp; omega
  simp only [Int.natCast_mul, Rat.intCast_mul]
  grind
theorem c_plus (n : Nat) {a c : Int} {b d : Nat} (hb : 0 < b) (hd : 0 < d) (ha' : Sz 4000 a) (hb' : Sz 4000 (b : Int)) (hc' : Sz 4000 c) (hd' : Sz 4000 (d : Int)) : callV prg (n+3) 3 [pr a b, pr c d] = some (rep ((a : Rat) / (b : Int) + (c : Rat) / (d : Int)), false) := by
  rw [callV_eq p_plus rfl]
  have m1 := mul_int (mulOk_of ha' hd' (by decide))
  have m2 := mul_int (mulOk_of hc' hb' (by decide))
  have m3 := mul_int (mulOk_of hb' hd' (by decide))
  have hf := c_fraction n (a := a * d + c * b) (b := b * d) (Nat.mul_pos hb hd) (by rw [Int.natCast_mul]; exact (hb'.mul hd').up (by decide))
  rw [frac_add a c hb hd, Int.natCast_mul] at hf
  simp [B_plus, pr, retOf, exB, exS, stSeq, stRetE, stRetV, stRet, stAsg, stAsgT, stPar, stIf, stNx, stEx, evPs, evPnil, evPcons, stores, stor, asgT, asgTs, ee_cst, ee_glo, ee_var, ee_tup, ee_lst, ee_star, ee_bin, ee_neg, ee_cmp, ee_chn, ee_and, ee_or, ee_not, ee_ite, ee_ix, ee_sl, ee_bi, evE_fn1, evE_fn2, evE_fn3, evE_fn4, evBr, evBi, evBin, evCmp, evUn, evChn, evSl, evPart, partD, slD, evDisp, evStar, spread, seqD, evOs, evConsO, evNilO, opnd, gets, Opn.get, evC, evVar, evVs, evCons, evNil, outV, ixD, at0, at1, at2, at3, at4, at5, at6, at7, cmp_lt, cmp_le, cmp_gt, cmp_ge, cmp_eq_int, cmp_ne_int, cmp_is_none, cmp_isn_none, cmp_is_bool, cmp_isn_bool, isNoneD, add_int, sub_int, biD, negD, fz, List.replicate, lz0, lz1, lz2, lz3, lz4, lz5, lz6, lz7, lz8, m1, m2, m3, hf]
theorem c_less (n : Nat) {a c : Int} {b d : Nat} (hb : 0 < b) (hd : 0 < d) (ha' : Sz 4000 a) (hb' : Sz 4000 (b : Int)) (hc' : Sz 4000 c) (hd' : Sz 4000 (d : Int)) : callV prg (n+4) 4 [pr a b, pr c d] = some (rep ((a : Rat) / (b : Int) - (c : Rat) / (d : Int)), false) := by
  rw [callV_eq p_less rfl]
  have hf := c_plus n (a := a) (b := b) (c := -c) (d := d) hb hd ha' hb' hc'.neg hd'
  have e : (a : Rat) / (b : Int) + ((-c : Int) : Rat) / (d : Int) = (a : Rat) / (b : Int) - (c : Rat) / (d : Int) := by
    simp only [Rat.intCast_neg]; grind
  rw [e, pr, pr] at hf
  simp [B_less, pr, retOf, exB, exS, stSeq, stRetE, stRetV, stRet, stAsg, stAsgT, stPar, stIf, stNx, stEx, evPs, evPnil, evPcons, stores, stor, asgT, asgTs, ee_cst, ee_glo, ee_var, ee_tup, ee_lst, ee_star, ee_bin, ee_neg, ee_cmp, ee_chn, ee_and, ee_or, ee_not, ee_ite, ee_ix, ee_sl, ee_bi, evE_fn1, evE_fn2, evE_fn3, evE_fn4, evBr, evBi, evBin, evCmp, evUn, evChn, evSl, evPart, partD, slD, evDisp, evStar, spread, seqD, evOs, evConsO, evNilO, opnd, gets, Opn.get, evC, evVar, evVs, evCons, evNil, outV, ixD, at0, at1, at2, at3, at4, at5, at6, at7, cmp_lt, cmp_le, cmp_gt, cmp_ge, cmp_eq_int, cmp_ne_int, cmp_is_none, cmp_isn_none, cmp_is_bool, cmp_isn_bool, isNoneD, add_int, sub_int, biD, negD, fz, List.replicate, lz0, lz1, lz2, lz3, lz4, lz5, lz6, lz7, lz8, hf]
theorem c_times (n : Nat) {a c : Int} {b d : Nat} (hb : 0 < b) (hd : 0 < d) (ha' : Sz 4000 a) (hb' : Sz 4000 (b : Int)) (hc' : Sz 4000 c) (hd' : Sz 4000 (d : Int)) : callV prg (n+3) 5 [pr a b, pr c d] = some (rep ((a : Rat) / (b : Int) * ((c : Rat) / (d : Int))), false) := by
  rw [callV_eq p_times rfl]
  have m1 := mul_int (mulOk_of ha' hc' (by decide))
  have m3 := mul_int (mulOk_of hb' hd' (by decide))
  have hf := c_fraction n (a := a * c) (b := b * d) (Nat.mul_pos hb hd) (by rw [Int.natCast_mul]; exact (hb'.mul hd').up (by decide))
  rw [frac_mul a c hb hd, Int.natCast_mul] at hf
  simp [B_times, pr, retOf, exB, exS, stSeq, stRetE, stRetV, stRet, stAsg, stAsgT, stPar, stIf, stNx, stEx, evPs, evPnil, evPcons, stores, stor, asgT, asgTs, ee_cst, ee_glo, ee_var, ee_tup, ee_lst, ee_star, ee_bin, ee_neg, ee_cmp, ee_chn, ee_and, ee_or, ee_not, ee_ite, ee_ix, ee_sl, ee_bi, evE_fn1, evE_fn2, evE_fn3, evE_fn4, evBr, evBi, evBin, evCmp, evUn, evChn, evSl, evPart, partD, slD, evDisp, evStar, spread, seqD, evOs, evConsO, evNilO, opnd, gets, Opn.get, evC, evVar, evVs, evCons, evNil, outV, ixD, at0, at1, at2, at3, at4, at5, at6, at7, cmp_lt, cmp_le, cmp_gt, cmp_ge, cmp_eq_int, cmp_ne_int, cmp_is_none, cmp_isn_none, cmp_is_bool, cmp_isn_bool, isNoneD, add_int, sub_int, biD, negD, fz, List.replicate, lz0, lz1, lz2, lz3, lz4, lz5, lz6, lz7, lz8, m1, m3, hf]
theorem c_is_below (n : Nat) {a c : Int} {b d : Nat} (hb : 0 < b) (hd : 0 < d) (ha' : Sz 4000 a) (hb' : Sz 4000 (b : Int)) (hc' : Sz 4000 c) (hd' : Sz 4000 (d : Int)) : callV prg (n+5) 20 [pr a b, pr c d] = some (.bool (decide ((a : Rat) / (b : Int) < (c : Rat) / (d : Int))), false) := by
  rw [callV_eq p_is_below rfl]
  have hf := c_less n hb hd ha' hb' hc' hd'
  have e : (((a : Rat) / (b : Int) - (c : Rat) / (d : Int)).num < 0) ↔ ((a : Rat) / (b : Int) < (c : Rat) / (d : Int)) := by
    have := Rat.num_nonneg (q := (a : Rat) / (b : Int) - (c : Rat) / (d : Int))
    rw [← Int.not_le, this]
    grind
  rw [pr, pr] at hf
  simp [B_is_below, pr, rep, retOf, exB, exS, stSeq, stRetE, stRetV, stRet, stAsg, stAsgT, stPar, stIf, stNx, stEx, evPs, evPnil, evPcons, stores, stor, asgT, asgTs, ee_cst, ee_glo, ee_var, ee_tup, ee_lst, ee_star, ee_bin, ee_neg, ee_cmp, ee_chn, ee_and, ee_or, ee_not, ee_ite, ee_ix, ee_sl, ee_bi, evE_fn1, evE_fn2, evE_fn3, evE_fn4, evBr, evBi, evBin, evCmp, evUn, evChn, evSl, evPart, partD, slD, evDisp, evStar, spread, seqD, evOs, evConsO, evNilO, opnd, gets, Opn.get, evC, evVar, evVs, evCons, evNil, outV, ixD, at0, at1, at2, at3, at4, at5, at6, at7, cmp_lt, cmp_le, cmp_gt, cmp_ge, cmp_eq_int, cmp_ne_int, cmp_is_none, cmp_isn_none, cmp_is_bool, cmp_isn_bool, isNoneD, add_int, sub_int, biD, negD, fz, List.replicate, lz0, lz1, lz2, lz3, lz4, lz5, lz6, lz7, lz8, hf, e]
/-! ### the law's own fractions -/
theorem c_law_frac (n : Nat) {a : Int} {b : Nat} (hb : 0 < b) (ha : Sz 8000 a) (hs : Sz 8000 (b : Int)) : callV prg (n+1) 30 [.int a, .int b] = some (rep ((a : Rat) / (b : Int)), false) := by
  rw [callV_eq p__law_frac rfl]
  have hg : 0 < Nat.gcd a.natAbs b := Nat.gcd_pos_of_pos_right _ hb
  have hsg : Sz 8000 ((Nat.gcd a.natAbs b : Nat) : Int) := hs.of_le (by simpa using Nat.gcd_le_right _ hb)
  have m1 : mulOk 1 a = true := mulOk_of (a := 1) (by decide) ha (by decide)
  have m2 : mulOk 1 b = true := mulOk_of (a := 1) (by decide) hs (by decide)
  have h2 : divOk ((Nat.gcd a.natAbs b : Nat) : Int) = true := divOk_of hsg (by omega) (by decide)
  have ha : (if a < 0 then -a else a) = ((a.natAbs : Nat) : Int) := by omega
  have hb0 : ¬ (b : Int) < 0 := by omega
  have hr := rat_num a b hb
  have h := gcd_while (t := evE (Phi prg n) (.cmp .gt (.var 3) (.cst (.int 0)))) (bd := exB (Phi prg n) [.par [2, 3] [.var 3, .bin .mod (.var 2) (.var 3)]]) (fun p q => [fz (.int a), fz (.int b), fz (.int p), fz (.int q), none])
    (fun a b => by simp [retOf, exB, exS, stSeq, stRetE, stRetV, stRet, stAsg, stAsgT, stPar, stIf, stNx, stEx, evPs, evPnil, evPcons, stores, stor, asgT, asgTs, ee_cst, ee_glo, ee_var, ee_tup, ee_lst, ee_star, ee_bin, ee_neg, ee_cmp, ee_chn, ee_and, ee_or, ee_not, ee_ite, ee_ix, ee_sl, ee_bi, evE_fn1, evE_fn2, evE_fn3, evE_fn4, evBr, evBi, evBin, evCmp, evUn, evChn, evSl, evPart, partD, slD, evDisp, evStar, spread, seqD, evOs, evConsO, evNilO, opnd, gets, Opn.get, evC, evVar, evVs, evCons, evNil, outV, ixD, at0, at1, at2, at3, at4, at5, at6, at7, cmp_lt, cmp_le, cmp_gt, cmp_ge, cmp_eq_int, cmp_ne_int, cmp_is_none, cmp_isn_none, cmp_is_bool, cmp_isn_bool, isNoneD, add_int, sub_int, biD, negD, fz, List.replicate, lz0, lz1, lz2, lz3, lz4, lz5, lz6, lz7, lz8])
    (fun a b hb => by
      have hb' : (0 : Int) < (b : Int) := by omega
      simp [mod_int hb', retOf, exB, exS, stSeq, stRetE, stRetV, stRet, stAsg, stAsgT, stPar, stIf, stNx, stEx, evPs, evPnil, evPcons, stores, stor, asgT, asgTs, ee_cst, ee_glo, ee_var, ee_tup, ee_lst, ee_star, ee_bin, ee_neg, ee_cmp, ee_chn, ee_and, ee_or, ee_not, ee_ite, ee_ix, ee_sl, ee_bi, evE_fn1, evE_fn2, evE_fn3, evE_fn4, evBr, evBi, evBin, evCmp, evUn, evChn, evSl, evPart, partD, slD, evDisp, evStar, spread, seqD, evOs, evConsO, evNilO, opnd, gets, Opn.get, evC, evVar, evVs, evCons, evNil, outV, ixD, at0, at1, at2, at3, at4, at5, at6, at7, cmp_lt, cmp_le, cmp_gt, cmp_ge, cmp_eq_int, cmp_ne_int, cmp_is_none, cmp_isn_none, cmp_is_bool, cmp_isn_bool, isNoneD, add_int, sub_int, biD, negD, fz, List.replicate, lz0, lz1, lz2, lz3, lz4, lz5, lz6, lz7, lz8]) a.natAbs b
  rw [B__law_frac]
  simp only [exB, exS]
  simp only [exB, exS] at h
  rw [stSeq]
  have e1 : stPar [2, 3] (evPs (Phi prg n) [.bi .abs [.var 0], .bi .abs [.var 1]]) (List.map fz [.int a, .int b] ++ List.replicate (5 - 2) none) = some (.nx [fz (.int a), fz (.int b), fz (.int a.natAbs), fz (.int b), none]) := by
    simp [retOf, exB, exS, stSeq, stRetE, stRetV, stRet, stAsg, stAsgT, stPar, stIf, stNx, stEx, evPs, evPnil, evPcons, stores, stor, asgT, asgTs, ee_cst, ee_glo, ee_var, ee_tup, ee_lst, ee_star, ee_bin, ee_neg, ee_cmp, ee_chn, ee_and, ee_or, ee_not, ee_ite, ee_ix, ee_sl, ee_bi, evE_fn1, evE_fn2, evE_fn3, evE_fn4, evBr, evBi, evBin, evCmp, evUn, evChn, evSl, evPart, partD, slD, evDisp, evStar, spread, seqD, evOs, evConsO, evNilO, opnd, gets, Opn.get, evC, evVar, evVs, evCons, evNil, outV, ixD, at0, at1, at2, at3, at4, at5, at6, at7, cmp_lt, cmp_le, cmp_gt, cmp_ge, cmp_eq_int, cmp_ne_int, cmp_is_none, cmp_isn_none, cmp_is_bool, cmp_isn_bool, isNoneD, add_int, sub_int, biD, negD, fz, List.replicate, lz0, lz1, lz2, lz3, lz4, lz5, lz6, lz7, lz8]; omega
  simp only [e1]
  rw [stSeq, h]
  simp [retOf, exB, exS, stSeq, stRetE, stRetV, stRet, stAsg, stAsgT, stPar, stIf, stNx, stEx, evPs, evPnil, evPcons, stores, stor, asgT, asgTs, ee_cst, ee_glo, ee_var, ee_tup, ee_lst, ee_star, ee_bin, ee_neg, ee_cmp, ee_chn, ee_and, ee_or, ee_not, ee_ite, ee_ix, ee_sl, ee_bi, evE_fn1, evE_fn2, evE_fn3, evE_fn4, evBr, evBi, evBin, evCmp, evUn, evChn, evSl, evPart, partD, slD, evDisp, evStar, spread, seqD, evOs, evConsO, evNilO, opnd, gets, Opn.get, evC, evVar, evVs, evCons, evNil, outV, ixD, at0, at1, at2, at3, at4, at5, at6, at7, cmp_lt, cmp_le, cmp_gt, cmp_ge, cmp_eq_int, cmp_ne_int, cmp_is_none, cmp_isn_none, cmp_is_bool, cmp_isn_bool, isNoneD, add_int, sub_int, biD, negD, fz, List.replicate, lz0, lz1, lz2, lz3, lz4, lz5, lz6, lz7, lz8, hb, mul_int m1, mul_int m2, div_int h2]
  rw [rep, pr, hr.1, hr.2]
end K43

namespace K43
open PySem EV Tab
/-! ### sizes -/
def Bn (k : Nat) (q : Rat) : Prop := Sz k q.num ∧ Sz k (q.den : Int)
theorem Bn.up {a b : Nat} {q : Rat} (h : Bn a q) (hab : a ≤ b) : Bn b q := ⟨h.1.up hab, h.2.up hab⟩
theorem Bn.frac {k : Nat} {a : Int} {b : Nat} (hb : 0 < b) (ha : Sz k a) (hb' : Sz k (b : Int)) : Bn k ((a : Rat) / (b : Int)) := by
  have h := rat_num a b hb
  refine ⟨?_, ?_⟩
  · rw [h.1]
    refine ha.of_le ?_
    rw [Int.natAbs_ediv_of_dvd (Int.ofNat_dvd_left.2 (Nat.gcd_dvd_left _ _))]
    exact Nat.div_le_self _ _
  · rw [h.2]
    refine hb'.of_le ?_
    rw [Int.natAbs_ediv_of_dvd (by exact_mod_cast Nat.gcd_dvd_right _ _)]
    exact Nat.div_le_self _ _
theorem rat_eq (q : Rat) : (q.num : Rat) / ((q.den : Nat) : Int) = q := by
  have := Rat.mkRat_eq_div q.num q.den
  rw [Rat.mkRat_self] at this
  exact this.symm
theorem Bn.add {a b : Nat} {p q : Rat} (hp : Bn a p) (hq : Bn b q) : Bn (a + b + 1) (p + q) := by
  have e : p + q = ((p.num * (q.den : Int) + q.num * (p.den : Int) : Int) : Rat) / (((p.den * q.den : Nat) : Int) : Rat) := by
    rw [frac_add _ _ p.den_pos q.den_pos, rat_eq, rat_eq]
  rw [e]
  refine Bn.frac (Nat.mul_pos p.den_pos q.den_pos) ?_ ?_
  · have h1 := (hp.1.mul hq.2)
    have h2 := (hq.1.mul hp.2)
    exact (h1.add h2).up (by omega)
  · rw [Int.natCast_mul]; exact (hp.2.mul hq.2).up (by omega)
theorem Bn.mul {a b : Nat} {p q : Rat} (hp : Bn a p) (hq : Bn b q) : Bn (a + b) (p * q) := by
  have e : p * q = ((p.num * q.num : Int) : Rat) / (((p.den * q.den : Nat) : Int) : Rat) := by
    rw [frac_mul _ _ p.den_pos q.den_pos, rat_eq, rat_eq]
  rw [e]
  refine Bn.frac (Nat.mul_pos p.den_pos q.den_pos) (hp.1.mul hq.1) ?_
  rw [Int.natCast_mul]; exact hp.2.mul hq.2
theorem Bn.neg {a : Nat} {p : Rat} (hp : Bn a p) : Bn a (-p) := ⟨by rw [Rat.neg_num]; exact hp.1.neg, by rw [Rat.neg_den]; exact hp.2⟩
theorem Bn.sub {a b : Nat} {p q : Rat} (hp : Bn a p) (hq : Bn b q) : Bn (a + b + 1) (p - q) := by
  rw [Rat.sub_eq_add_neg]; exact hp.add hq.neg
theorem Bn.int {a : Nat} {i : Int} (h : Sz a i) (ha : 0 < a) : Bn a (i : Rat) := ⟨h, (show Sz 1 1 by decide).up ha⟩
theorem rep_int (i : Int) : rep (i : Rat) = pr i 1 := rfl
/-! ### on fractions in lowest terms -/
section
variable {p q : Rat} (n : Nat) (hp : Bn 4000 p) (hq : Bn 4000 q)
include hp hq
theorem r_plus : callV prg (n+3) 3 [rep p, rep q] = some (rep (p + q), false) := by
  have := c_plus n p.den_pos q.den_pos hp.1 hp.2 hq.1 hq.2
  rwa [rat_eq, rat_eq] at this
theorem r_less : callV prg (n+4) 4 [rep p, rep q] = some (rep (p - q), false) := by
  have := c_less n p.den_pos q.den_pos hp.1 hp.2 hq.1 hq.2
  rwa [rat_eq, rat_eq] at this
theorem r_times : callV prg (n+3) 5 [rep p, rep q] = some (rep (p * q), false) := by
  have := c_times n p.den_pos q.den_pos hp.1 hp.2 hq.1 hq.2
  rwa [rat_eq, rat_eq] at this
theorem r_below : callV prg (n+5) 20 [rep p, rep q] = some (.bool (decide (p < q)), false) := by
  have := c_is_below n p.den_pos q.den_pos hp.1 hp.2 hq.1 hq.2
  rwa [rat_eq, rat_eq] at this
end
/-! ### rules -/
inductive Kd where | U | A | H
  deriving DecidableEq
def Kd.s : Kd → Str
  | .U => "until"
  | .A => "asked"
  | .H => "heard"
theorem k_until (k : Kd) : cmpD .eq (.str k.s) (.str "until") = some (decide (k = .U)) := by cases k <;> kernel_rfl
theorem k_nuntil (k : Kd) : cmpD .ne (.str k.s) (.str "until") = some (!decide (k = .U)) := by cases k <;> kernel_rfl
theorem k_asked (k : Kd) : cmpD .eq (.str k.s) (.str "asked") = some (decide (k = .A)) := by cases k <;> kernel_rfl
theorem k_heard (k : Kd) : cmpD .eq (.str k.s) (.str "heard") = some (decide (k = .H)) := by cases k <;> kernel_rfl
theorem k_kinds (k : Kd) : cmpD .notIn (.str k.s) (.tuple [.str "until", .str "asked", .str "heard"]) = some false := by cases k <;> kernel_rfl
structure Rule where
  k : Kd
  hold : Int
  late : Int
  apart : Int
  run : Int
  wait : Int
def Rule.D (r : Rule) : D := .tuple [.str r.k.s, .int r.hold, .int r.late, .int r.apart, .int r.run, .int r.wait]
structure Rule.Ok (r : Rule) : Prop where
  hold : 0 ≤ r.hold ∧ r.hold < 2 ^ 24
  late : 0 ≤ r.late ∧ r.late < 2 ^ 24
  apart : 0 ≤ r.apart ∧ r.apart ≤ 400
  run : 0 ≤ r.run ∧ r.run < 2 ^ 24
  wait : 0 ≤ r.wait ∧ r.wait < 2 ^ 24
theorem sz_of {i : Int} {k : Nat} (h0 : 0 ≤ i) (h : i < 2 ^ k) : Sz k i := by
  have : ((2 : Int) ^ k) = ((2 ^ k : Nat) : Int) := by simp
  unfold Sz; omega
def Rule.more (r : Rule) : Int := r.run + (if r.k = .H then r.late else 0)
/-- the hold by the true time -/
def Rule.hr (r : Rule) : Rat := ((r.hold * 1000 : Int) : Rat) / ((1000 - r.apart : Int) : Rat)
def Rule.moreR (r : Rule) : Rat := (r.more : Rat)
def Rule.last (r : Rule) : Rat := if r.k = .U then ((r.hold + r.apart + r.run : Int) : Rat) else r.hr + r.moreR
def Rule.sr (r : Rule) : Rat := ((r.wait * 1000 : Int) : Rat) / ((1000 + r.apart : Int) : Rat)
def Rule.sett (r : Rule) : Rat := if r.k = .U then (r.wait : Rat) else r.sr
def Rule.need (r : Rule) : Rat := if r.k = .U then r.last else r.last * (((1000 + r.apart : Int) : Rat) / ((1000 : Int) : Rat))
def Rule.lw (r : Rule) : Int := max 1 r.need.ceil
theorem c_is_lease_rule (n : Nat) (r : Rule) (h1 : 1 ≤ r.hold ∧ r.hold ≤ 1000000) (h2 : 0 ≤ r.late ∧ r.late ≤ 1000000) (h3 : 0 ≤ r.apart ∧ r.apart ≤ 400) (h4 : 0 ≤ r.run ∧ r.run ≤ 1000000) (h5 : 1 ≤ r.wait ∧ r.wait ≤ 1000000) : callV prg (n+3) 7 [r.D] = some (.bool true, false) := by
  rw [callV_eq p_is_lease_rule rfl]
  simp [B_is_lease_rule, Rule.D, retOf, exB, exS, stSeq, stRetE, stRetV, stRet, stAsg, stAsgT, stPar, stIf, stNx, stEx, evPs, evPnil, evPcons, stores, stor, asgT, asgTs, ee_cst, ee_glo, ee_var, ee_tup, ee_lst, ee_star, ee_bin, ee_neg, ee_cmp, ee_chn, ee_and, ee_or, ee_not, ee_ite, ee_ix, ee_sl, ee_bi, evE_fn1, evE_fn2, evE_fn3, evE_fn4, evBr, evBi, evBin, evCmp, evUn, evChn, evSl, evPart, partD, slD, evDisp, evStar, spread, seqD, evOs, evConsO, evNilO, opnd, gets, Opn.get, evC, evVar, evVs, evCons, evNil, outV, ixD, at0, at1, at2, at3, at4, at5, at6, at7, cmp_lt, cmp_le, cmp_gt, cmp_ge, cmp_eq_int, cmp_ne_int, cmp_is_none, cmp_isn_none, cmp_is_bool, cmp_isn_bool, isNoneD, add_int, sub_int, biD, negD, fz, List.replicate, lz0, lz1, lz2, lz3, lz4, lz5, lz6, lz7, lz8, c_is_within, k_kinds, h1, h2, h3, h4, h5]
theorem bn_hr {r : Rule} (h : r.Ok) : Bn 40 r.hr := by
  have h1 := h.hold
  have h2 := h.apart
  obtain ⟨m, hm⟩ : ∃ m : Nat, 1000 - r.apart = m := ⟨(1000 - r.apart).toNat, by omega⟩
  rw [Rule.hr, hm]
  exact Bn.frac (by omega) (sz_of (by omega) (by omega)) (sz_of (by omega) (by omega))
theorem bn_more {r : Rule} (h : r.Ok) : Bn 29 r.moreR := by
  have h3 := h.late
  have h4 := h.run
  exact Bn.int (sz_of (by unfold Rule.more; split <;> omega) (by unfold Rule.more; split <;> omega)) (by decide)
theorem bn_last {r : Rule} (h : r.Ok) : Bn 70 r.last := by
  have h1 := h.hold
  have h2 := h.apart
  have h4 := h.run
  unfold Rule.last
  split
  · exact Bn.int (sz_of (by omega) (by omega)) (by decide)
  · exact (bn_hr h).add (bn_more h)
theorem bn_sr {r : Rule} (h : r.Ok) : Bn 40 r.sr := by
  have h1 := h.wait
  have h2 := h.apart
  obtain ⟨m, hm⟩ : ∃ m : Nat, 1000 + r.apart = m := ⟨(1000 + r.apart).toNat, by omega⟩
  rw [Rule.sr, hm]
  exact Bn.frac (by omega) (sz_of (by omega) (by omega)) (sz_of (by omega) (by omega))
theorem bn_sett {r : Rule} (h : r.Ok) : Bn 40 r.sett := by
  have h1 := h.wait
  unfold Rule.sett
  split
  · exact Bn.int (sz_of (by omega) (by omega)) (by decide)
  · exact bn_sr h
/-- a fraction whose bottom is an Int -/
theorem z_fraction (n : Nat) {a b : Int} (hb : 0 < b) (hs : b < 2 ^ 24) : callV prg (n+2) 2 [.int a, .int b] = some (rep ((a : Rat) / (b : Rat)), false) := by
  obtain ⟨m, hm⟩ : ∃ m : Nat, b = m := ⟨b.toNat, by omega⟩
  subst hm
  exact c_fraction n (by omega) ((sz_of (k := 24) (by omega) hs).up (by decide))
theorem z_frac (n : Nat) {a b : Int} (ha : Sz 4000 a) (hb : 0 < b) (hs : b < 2 ^ 24) : callV prg (n+1) 30 [.int a, .int b] = some (rep ((a : Rat) / (b : Rat)), false) := by
  obtain ⟨m, hm⟩ : ∃ m : Nat, b = m := ⟨b.toNat, by omega⟩
  subst hm
  exact c_law_frac n (by omega) (ha.up (by decide)) ((sz_of (k := 24) (by omega) hs).up (by decide))
theorem c_last_act (n : Nat) {r : Rule} (h : r.Ok) : callV prg (n+4) 8 [r.D] = some (rep r.last, false) := by
  have h1 := h.hold
  have h2 := h.apart
  rw [callV_eq p_last_act rfl]
  have hm := mul_int (mulOk_of (j := 1000) (a := 24) (b := 10) (sz_of h1.1 h1.2) (by decide) (by decide))
  have hf : callV prg (n+1+2) 2 [.int (r.hold * 1000), .int (1000 - r.apart)] = some (rep r.hr, false) := z_fraction (n+1) (by omega) (by omega)
  have hp := r_plus n ((bn_hr h).up (by decide)) ((bn_more h).up (by decide))
  have hq : rep r.moreR = .tuple [.int r.more, .int 1] := rfl
  rw [hq] at hp
  by_cases hk : r.k = .U
  · have hl : rep r.last = .tuple [.int (r.hold + r.apart + r.run), .int 1] := by rw [Rule.last, if_pos hk]; rfl
    simp [B_last_act, Rule.D, retOf, exB, exS, stSeq, stRetE, stRetV, stRet, stAsg, stAsgT, stPar, stIf, stNx, stEx, evPs, evPnil, evPcons, stores, stor, asgT, asgTs, ee_cst, ee_glo, ee_var, ee_tup, ee_lst, ee_star, ee_bin, ee_neg, ee_cmp, ee_chn, ee_and, ee_or, ee_not, ee_ite, ee_ix, ee_sl, ee_bi, evE_fn1, evE_fn2, evE_fn3, evE_fn4, evBr, evBi, evBin, evCmp, evUn, evChn, evSl, evPart, partD, slD, evDisp, evStar, spread, seqD, evOs, evConsO, evNilO, opnd, gets, Opn.get, evC, evVar, evVs, evCons, evNil, outV, ixD, at0, at1, at2, at3, at4, at5, at6, at7, cmp_lt, cmp_le, cmp_gt, cmp_ge, cmp_eq_int, cmp_ne_int, cmp_is_none, cmp_isn_none, cmp_is_bool, cmp_isn_bool, isNoneD, add_int, sub_int, biD, negD, fz, List.replicate, lz0, lz1, lz2, lz3, lz4, lz5, lz6, lz7, lz8, k_until, k_heard, hk, hl]
  · have hl : r.last = r.hr + r.moreR := by rw [Rule.last, if_neg hk]
    rw [← hl] at hp
    by_cases hh : r.k = .H
    · have hl2 : r.more = r.run + r.late := by simp [Rule.more, hh]
      rw [hl2] at hp
      simp [B_last_act, Rule.D, retOf, exB, exS, stSeq, stRetE, stRetV, stRet, stAsg, stAsgT, stPar, stIf, stNx, stEx, evPs, evPnil, evPcons, stores, stor, asgT, asgTs, ee_cst, ee_glo, ee_var, ee_tup, ee_lst, ee_star, ee_bin, ee_neg, ee_cmp, ee_chn, ee_and, ee_or, ee_not, ee_ite, ee_ix, ee_sl, ee_bi, evE_fn1, evE_fn2, evE_fn3, evE_fn4, evBr, evBi, evBin, evCmp, evUn, evChn, evSl, evPart, partD, slD, evDisp, evStar, spread, seqD, evOs, evConsO, evNilO, opnd, gets, Opn.get, evC, evVar, evVs, evCons, evNil, outV, ixD, at0, at1, at2, at3, at4, at5, at6, at7, cmp_lt, cmp_le, cmp_gt, cmp_ge, cmp_eq_int, cmp_ne_int, cmp_is_none, cmp_isn_none, cmp_is_bool, cmp_isn_bool, isNoneD, add_int, sub_int, biD, negD, fz, List.replicate, lz0, lz1, lz2, lz3, lz4, lz5, lz6, lz7, lz8, k_until, k_heard, hk, hh, hm, hf, hp]
    · have hl2 : r.more = r.run := by simp [Rule.more, hh]
      rw [hl2] at hp
      simp [B_last_act, Rule.D, retOf, exB, exS, stSeq, stRetE, stRetV, stRet, stAsg, stAsgT, stPar, stIf, stNx, stEx, evPs, evPnil, evPcons, stores, stor, asgT, asgTs, ee_cst, ee_glo, ee_var, ee_tup, ee_lst, ee_star, ee_bin, ee_neg, ee_cmp, ee_chn, ee_and, ee_or, ee_not, ee_ite, ee_ix, ee_sl, ee_bi, evE_fn1, evE_fn2, evE_fn3, evE_fn4, evBr, evBi, evBin, evCmp, evUn, evChn, evSl, evPart, partD, slD, evDisp, evStar, spread, seqD, evOs, evConsO, evNilO, opnd, gets, Opn.get, evC, evVar, evVs, evCons, evNil, outV, ixD, at0, at1, at2, at3, at4, at5, at6, at7, cmp_lt, cmp_le, cmp_gt, cmp_ge, cmp_eq_int, cmp_ne_int, cmp_is_none, cmp_isn_none, cmp_is_bool, cmp_isn_bool, isNoneD, add_int, sub_int, biD, negD, fz, List.replicate, lz0, lz1, lz2, lz3, lz4, lz5, lz6, lz7, lz8, k_until, k_heard, hk, hh, hm, hf, hp]
theorem c_first_settled (n : Nat) {r : Rule} (h : r.Ok) : callV prg (n+3) 9 [r.D] = some (rep r.sett, false) := by
  have h1 := h.wait
  have h2 := h.apart
  rw [callV_eq p_first_settled rfl]
  have hm := mul_int (mulOk_of (j := 1000) (a := 24) (b := 10) (sz_of h1.1 h1.2) (by decide) (by decide))
  have hf : callV prg (n+2) 2 [.int (r.wait * 1000), .int (1000 + r.apart)] = some (rep r.sr, false) := z_fraction n (by omega) (by omega)
  by_cases hk : r.k = .U
  · have hl : rep r.sett = .tuple [.int r.wait, .int 1] := by rw [Rule.sett, if_pos hk]; rfl
    simp [B_first_settled, Rule.D, retOf, exB, exS, stSeq, stRetE, stRetV, stRet, stAsg, stAsgT, stPar, stIf, stNx, stEx, evPs, evPnil, evPcons, stores, stor, asgT, asgTs, ee_cst, ee_glo, ee_var, ee_tup, ee_lst, ee_star, ee_bin, ee_neg, ee_cmp, ee_chn, ee_and, ee_or, ee_not, ee_ite, ee_ix, ee_sl, ee_bi, evE_fn1, evE_fn2, evE_fn3, evE_fn4, evBr, evBi, evBin, evCmp, evUn, evChn, evSl, evPart, partD, slD, evDisp, evStar, spread, seqD, evOs, evConsO, evNilO, opnd, gets, Opn.get, evC, evVar, evVs, evCons, evNil, outV, ixD, at0, at1, at2, at3, at4, at5, at6, at7, cmp_lt, cmp_le, cmp_gt, cmp_ge, cmp_eq_int, cmp_ne_int, cmp_is_none, cmp_isn_none, cmp_is_bool, cmp_isn_bool, isNoneD, add_int, sub_int, biD, negD, fz, List.replicate, lz0, lz1, lz2, lz3, lz4, lz5, lz6, lz7, lz8, k_until, hk, hl]
  · have hl : r.sett = r.sr := by rw [Rule.sett, if_neg hk]
    simp [B_first_settled, Rule.D, retOf, exB, exS, stSeq, stRetE, stRetV, stRet, stAsg, stAsgT, stPar, stIf, stNx, stEx, evPs, evPnil, evPcons, stores, stor, asgT, asgTs, ee_cst, ee_glo, ee_var, ee_tup, ee_lst, ee_star, ee_bin, ee_neg, ee_cmp, ee_chn, ee_and, ee_or, ee_not, ee_ite, ee_ix, ee_sl, ee_bi, evE_fn1, evE_fn2, evE_fn3, evE_fn4, evBr, evBi, evBin, evCmp, evUn, evChn, evSl, evPart, partD, slD, evDisp, evStar, spread, seqD, evOs, evConsO, evNilO, opnd, gets, Opn.get, evC, evVar, evVs, evCons, evNil, outV, ixD, at0, at1, at2, at3, at4, at5, at6, at7, cmp_lt, cmp_le, cmp_gt, cmp_ge, cmp_eq_int, cmp_ne_int, cmp_is_none, cmp_isn_none, cmp_is_bool, cmp_isn_bool, isNoneD, add_int, sub_int, biD, negD, fz, List.replicate, lz0, lz1, lz2, lz3, lz4, lz5, lz6, lz7, lz8, k_until, hk, hl, hm, hf]
def Rule.safe (r : Rule) : Bool := decide (r.last ≤ r.sett)
theorem c_is_safe (n : Nat) {r : Rule} (h : r.Ok) : callV prg (n+5) 10 [r.D] = some (.bool r.safe, false) := by
  rw [callV_eq p_is_safe rfl]
  have e1 := c_last_act n h
  have e2 := c_first_settled (n+1) h
  have e3 := r_less n ((bn_sett h).up (by decide)) ((bn_last h).up (by decide))
  have e4 : (0 ≤ (r.sett - r.last).num) ↔ (r.last ≤ r.sett) := by
    rw [Rat.num_nonneg]; grind
  have e5 : rep (r.sett - r.last) = .tuple [.int (r.sett - r.last).num, .int (r.sett - r.last).den] := rfl
  simp [B_is_safe, retOf, exB, exS, stSeq, stRetE, stRetV, stRet, stAsg, stAsgT, stPar, stIf, stNx, stEx, evPs, evPnil, evPcons, stores, stor, asgT, asgTs, ee_cst, ee_glo, ee_var, ee_tup, ee_lst, ee_star, ee_bin, ee_neg, ee_cmp, ee_chn, ee_and, ee_or, ee_not, ee_ite, ee_ix, ee_sl, ee_bi, evE_fn1, evE_fn2, evE_fn3, evE_fn4, evBr, evBi, evBin, evCmp, evUn, evChn, evSl, evPart, partD, slD, evDisp, evStar, spread, seqD, evOs, evConsO, evNilO, opnd, gets, Opn.get, evC, evVar, evVs, evCons, evNil, outV, ixD, at0, at1, at2, at3, at4, at5, at6, at7, cmp_lt, cmp_le, cmp_gt, cmp_ge, cmp_eq_int, cmp_ne_int, cmp_is_none, cmp_isn_none, cmp_is_bool, cmp_isn_bool, isNoneD, add_int, sub_int, biD, negD, fz, List.replicate, lz0, lz1, lz2, lz3, lz4, lz5, lz6, lz7, lz8, e1, e2, e3, e4, e5, Rule.safe]
theorem need_ok {r : Rule} (h : r.Ok) : Bn 100 (((1000 + r.apart : Int) : Rat) / ((1000 : Int) : Rat)) ∧ Bn 200 r.need := by
  have h2 := h.apart
  have e : Bn 100 (((1000 + r.apart : Int) : Rat) / ((1000 : Int) : Rat)) := (Bn.frac (k := 24) (b := 1000) (by omega) (sz_of (by omega) (by omega)) (by decide)).up (by decide)
  refine ⟨e, ?_⟩
  unfold Rule.need
  split
  · exact (bn_last h).up (by decide)
  · exact ((bn_last h).mul e).up (by decide)
theorem ceil_of (q : Rat) : q.ceil = -(-q.num / (q.den : Int)) := by
  rw [Rat.ceil_eq_neg_floor_neg, Rat.floor_def]
  rfl
theorem max_eq (a b : Int) : (if a < b then b else a) = max a b := by
  rw [Int.max_def]; split <;> split <;> omega
theorem c_least_wait (n : Nat) {r : Rule} (h : r.Ok) : callV prg (n+5) 11 [r.D] = some (.int r.lw, false) := by
  have h2 := h.apart
  rw [callV_eq p_least_wait rfl]
  have e1 := c_last_act n h
  have e5 : rep r.last = .tuple [.int r.last.num, .int r.last.den] := rfl
  have e6 := ceil_of r.need
  have e7 := div_int (a := -r.need.num) (divOk_of ((need_ok h).2.2) (by have := r.need.den_pos; omega) (by decide))
  rw [e5] at e1
  by_cases hk : r.k = .U
  · have e8 : r.need = r.last := by rw [Rule.need, if_pos hk]
    rw [e8] at e7 e6
    simp [B_least_wait, retOf, exB, exS, stSeq, stRetE, stRetV, stRet, stAsg, stAsgT, stPar, stIf, stNx, stEx, evPs, evPnil, evPcons, stores, stor, asgT, asgTs, ee_cst, ee_glo, ee_var, ee_tup, ee_lst, ee_star, ee_bin, ee_neg, ee_cmp, ee_chn, ee_and, ee_or, ee_not, ee_ite, ee_ix, ee_sl, ee_bi, evE_fn1, evE_fn2, evE_fn3, evE_fn4, evBr, evBi, evBin, evCmp, evUn, evChn, evSl, evPart, partD, slD, evDisp, evStar, spread, seqD, evOs, evConsO, evNilO, opnd, gets, Opn.get, evC, evVar, evVs, evCons, evNil, outV, ixD, at0, at1, at2, at3, at4, at5, at6, at7, cmp_lt, cmp_le, cmp_gt, cmp_ge, cmp_eq_int, cmp_ne_int, cmp_is_none, cmp_isn_none, cmp_is_bool, cmp_isn_bool, isNoneD, add_int, sub_int, biD, negD, fz, List.replicate, lz0, lz1, lz2, lz3, lz4, lz5, lz6, lz7, lz8, e1, Rule.D] at *
    simp [e1, k_nuntil, hk, retOf, exB, exS, stSeq, stRetE, stRetV, stRet, stAsg, stAsgT, stPar, stIf, stNx, stEx, evPs, evPnil, evPcons, stores, stor, asgT, asgTs, ee_cst, ee_glo, ee_var, ee_tup, ee_lst, ee_star, ee_bin, ee_neg, ee_cmp, ee_chn, ee_and, ee_or, ee_not, ee_ite, ee_ix, ee_sl, ee_bi, evE_fn1, evE_fn2, evE_fn3, evE_fn4, evBr, evBi, evBin, evCmp, evUn, evChn, evSl, evPart, partD, slD, evDisp, evStar, spread, seqD, evOs, evConsO, evNilO, opnd, gets, Opn.get, evC, evVar, evVs, evCons, evNil, outV, ixD, at0, at1, at2, at3, at4, at5, at6, at7, cmp_lt, cmp_le, cmp_gt, cmp_ge, cmp_eq_int, cmp_ne_int, cmp_is_none, cmp_isn_none, cmp_is_bool, cmp_isn_bool, isNoneD, add_int, sub_int, biD, negD, fz, List.replicate, lz0, lz1, lz2, lz3, lz4, lz5, lz6, lz7, lz8, e7, Rule.lw, max_eq, e6, e8]
  · have e3 := c_times (n+1) (a := r.last.num) (b := r.last.den) (c := 1000 + r.apart) (d := 1000) r.last.den_pos (by omega) ((bn_last h).1.up (by decide)) ((bn_last h).2.up (by decide)) ((sz_of (k := 24) (by omega) (by omega)).up (by decide)) ((show Sz 24 1000 by decide).up (by decide))
    have e8 : r.need = r.last * (((1000 + r.apart : Int) : Rat) / ((1000 : Int) : Rat)) := by rw [Rule.need, if_neg hk]
    have e9 : (((1000 + r.apart : Int) : Rat) / (((1000 : Nat) : Int) : Rat)) = (((1000 + r.apart : Int) : Rat) / ((1000 : Int) : Rat)) := rfl
    rw [rat_eq, e9, ← e8] at e3
    have e10 : rep r.need = .tuple [.int r.need.num, .int r.need.den] := rfl
    rw [e10] at e3
    simp [B_least_wait, retOf, exB, exS, stSeq, stRetE, stRetV, stRet, stAsg, stAsgT, stPar, stIf, stNx, stEx, evPs, evPnil, evPcons, stores, stor, asgT, asgTs, ee_cst, ee_glo, ee_var, ee_tup, ee_lst, ee_star, ee_bin, ee_neg, ee_cmp, ee_chn, ee_and, ee_or, ee_not, ee_ite, ee_ix, ee_sl, ee_bi, evE_fn1, evE_fn2, evE_fn3, evE_fn4, evBr, evBi, evBin, evCmp, evUn, evChn, evSl, evPart, partD, slD, evDisp, evStar, spread, seqD, evOs, evConsO, evNilO, opnd, gets, Opn.get, evC, evVar, evVs, evCons, evNil, outV, ixD, at0, at1, at2, at3, at4, at5, at6, at7, cmp_lt, cmp_le, cmp_gt, cmp_ge, cmp_eq_int, cmp_ne_int, cmp_is_none, cmp_isn_none, cmp_is_bool, cmp_isn_bool, isNoneD, add_int, sub_int, biD, negD, fz, List.replicate, lz0, lz1, lz2, lz3, lz4, lz5, lz6, lz7, lz8, e1, Rule.D, pr] at *
    simp [e1, k_nuntil, hk, retOf, exB, exS, stSeq, stRetE, stRetV, stRet, stAsg, stAsgT, stPar, stIf, stNx, stEx, evPs, evPnil, evPcons, stores, stor, asgT, asgTs, ee_cst, ee_glo, ee_var, ee_tup, ee_lst, ee_star, ee_bin, ee_neg, ee_cmp, ee_chn, ee_and, ee_or, ee_not, ee_ite, ee_ix, ee_sl, ee_bi, evE_fn1, evE_fn2, evE_fn3, evE_fn4, evBr, evBi, evBin, evCmp, evUn, evChn, evSl, evPart, partD, slD, evDisp, evStar, spread, seqD, evOs, evConsO, evNilO, opnd, gets, Opn.get, evC, evVar, evVs, evCons, evNil, outV, ixD, at0, at1, at2, at3, at4, at5, at6, at7, cmp_lt, cmp_le, cmp_gt, cmp_ge, cmp_eq_int, cmp_ne_int, cmp_is_none, cmp_isn_none, cmp_is_bool, cmp_isn_bool, isNoneD, add_int, sub_int, biD, negD, fz, List.replicate, lz0, lz1, lz2, lz3, lz4, lz5, lz6, lz7, lz8, e3, e7, Rule.lw, max_eq, e6]
end K43

namespace EV
open PySem
theorem hi1 (xs : List D) : cutD xs none (some 1) = xs.take 1 := cut_hi xs 1
theorem hi3 (xs : List D) : cutD xs none (some 3) = xs.take 3 := cut_hi xs 3
theorem hi4 (xs : List D) : cutD xs none (some 4) = xs.take 4 := cut_hi xs 4
theorem hi5 (xs : List D) : cutD xs none (some 5) = xs.take 5 := cut_hi xs 5
theorem hi6 (xs : List D) : cutD xs none (some 6) = xs.take 6 := cut_hi xs 6
theorem hi63 (xs : List D) : cutD xs none (some 63) = xs.take 63 := cut_hi xs 63
theorem lo1 (xs : List D) : cutD xs (some 1) none = xs.drop 1 := cut_lo xs 1
theorem lo2 (xs : List D) : cutD xs (some 2) none = xs.drop 2 := cut_lo xs 2
theorem lo5 (xs : List D) : cutD xs (some 5) none = xs.drop 5 := cut_lo xs 5
theorem lo6 (xs : List D) : cutD xs (some 6) none = xs.drop 6 := cut_lo xs 6
theorem stays_val (d : D) (ρ ρ' : Ev) : stays [.val d] ρ ρ' := by
  intro o ho
  simp at ho
  subst ho
  trivial
theorem stays_refl (os : List Opn) (ρ : Ev) : stays os ρ ρ := by
  intro o ho
  cases o <;> trivial
theorem turns_map {os : List Opn} {f : D → Ev → Option (Option D × Ev)} {ρ : Ev} (g : D → D) : ∀ (xs : List D), (∀ x ∈ xs, f x ρ = some (some (g x), ρ)) → turns os f xs ρ = some (xs.map g, ρ)
  | [], _ => by simp [turns]
  | x :: xs, h => by
    rw [turns, h x (by simp)]
    simp [turns_map g xs (fun y hy => h y (by simp [hy])), stays_refl]
theorem turns_filter {os : List Opn} {f : D → Ev → Option (Option D × Ev)} {ρ : Ev} (g : D → Option D) : ∀ (xs : List D), (∀ x ∈ xs, f x ρ = some (g x, ρ)) → turns os f xs ρ = some (xs.filterMap g, ρ)
  | [], _ => by simp [turns]
  | x :: xs, h => by
    rw [turns, h x (by simp)]
    simp [turns_filter g xs (fun y hy => h y (by simp [hy])), stays_refl]
    cases hg : g x <;> simp [hg]
theorem turns_mapA {α : Type} {os : List Opn} {f : D → Ev → Option (Option D × Ev)} {ρ : Ev} (h : α → D) (g : α → D) : ∀ (xs : List α), (∀ x ∈ xs, f (h x) ρ = some (some (g x), ρ)) → turns os f (xs.map h) ρ = some (xs.map g, ρ)
  | [], _ => by simp [turns]
  | x :: xs, H => by
    rw [List.map_cons, turns, H x (by simp)]
    simp [turns_mapA h g xs (fun y hy => H y (by simp [hy])), stays_refl]
theorem turns_filterA {α : Type} {os : List Opn} {f : D → Ev → Option (Option D × Ev)} {ρ : Ev} (h : α → D) (g : α → Option D) : ∀ (xs : List α), (∀ x ∈ xs, f (h x) ρ = some (g x, ρ)) → turns os f (xs.map h) ρ = some (xs.filterMap g, ρ)
  | [], _ => by simp [turns]
  | x :: xs, H => by
    rw [List.map_cons, turns, H x (by simp)]
    simp [turns_filterA h g xs (fun y hy => H y (by simp [hy])), stays_refl]
    cases hg : g x <;> simp [hg]
theorem enumD_map {α : Type} (h : α → D) : ∀ (xs : List α) (n : Nat), enumD n (xs.map h) = (xs.zipIdx n).map fun p => .tuple [.int (p.2 : Nat), h p.1]
  | [], n => rfl
  | x :: xs, n => by simp [enumD, enumD_map h xs (n + 1)]
theorem lc_of {Φ : Orc} {elt : Ex} {tg : Tg} {k : ItK} {es ifs : List Ex} {own : List Nat} {ρ ρ1 ρ2 ρ3 : Ev} {os : List Opn} {ds xs ys : List D} (h1 : evOs Φ es ρ = some (os, ρ1)) (h2 : gets ρ1 os = some ds) (h3 : iterD k ds = some xs) (h4 : EV.free ρ1 own = true) (h5 : turns os (turn tg (evFs Φ ifs) (evE Φ elt) own) xs (clear ρ1 own) = some (ys, ρ2)) (h6 : ys.length ≤ sizeLine) (h7 : back ρ1 ρ2 own = ρ3) : evE Φ (.lc elt tg k es ifs own) ρ = some (.list ys, true, ρ3) := by
  rw [evE]
  unfold evLc
  simp [h1, h2, h3, h4, h5, h6, h7]
end EV
namespace K43
open PySem EV Tab
theorem c_with1 (n : Nat) (r : Rule) (m : Int) : callV prg (n+1) 12 [r.D, .int 1, .int m] = some (({r with hold := m} : Rule).D, false) := by
  rw [callV_eq p_with_number rfl]
  simp [B_with_number, Rule.D, retOf, exB, exS, stSeq, stRetE, stRetV, stRet, stAsg, stAsgT, stPar, stIf, stNx, stEx, evPs, evPnil, evPcons, stores, stor, asgT, asgTs, ee_cst, ee_glo, ee_var, ee_tup, ee_lst, ee_star, ee_bin, ee_neg, ee_cmp, ee_chn, ee_and, ee_or, ee_not, ee_ite, ee_ix, ee_sl, ee_bi, evE_fn1, evE_fn2, evE_fn3, evE_fn4, evBr, evBi, evBin, evCmp, evUn, evChn, evSl, evPart, partD, slD, evDisp, evStar, spread, seqD, evOs, evConsO, evNilO, opnd, gets, Opn.get, evC, evVar, evVs, evCons, evNil, outV, ixD, at0, at1, at2, at3, at4, at5, at6, at7, cmp_lt, cmp_le, cmp_gt, cmp_ge, cmp_eq_int, cmp_ne_int, cmp_is_none, cmp_isn_none, cmp_is_bool, cmp_isn_bool, isNoneD, add_int, sub_int, biD, negD, fz, List.replicate, lz0, lz1, lz2, lz3, lz4, lz5, lz6, lz7, lz8, hi1, lo2]
theorem c_with4 (n : Nat) (r : Rule) (m : Int) : callV prg (n+1) 12 [r.D, .int 4, .int m] = some (({r with run := m} : Rule).D, false) := by
  rw [callV_eq p_with_number rfl]
  simp [B_with_number, Rule.D, retOf, exB, exS, stSeq, stRetE, stRetV, stRet, stAsg, stAsgT, stPar, stIf, stNx, stEx, evPs, evPnil, evPcons, stores, stor, asgT, asgTs, ee_cst, ee_glo, ee_var, ee_tup, ee_lst, ee_star, ee_bin, ee_neg, ee_cmp, ee_chn, ee_and, ee_or, ee_not, ee_ite, ee_ix, ee_sl, ee_bi, evE_fn1, evE_fn2, evE_fn3, evE_fn4, evBr, evBi, evBin, evCmp, evUn, evChn, evSl, evPart, partD, slD, evDisp, evStar, spread, seqD, evOs, evConsO, evNilO, opnd, gets, Opn.get, evC, evVar, evVs, evCons, evNil, outV, ixD, at0, at1, at2, at3, at4, at5, at6, at7, cmp_lt, cmp_le, cmp_gt, cmp_ge, cmp_eq_int, cmp_ne_int, cmp_is_none, cmp_isn_none, cmp_is_bool, cmp_isn_bool, isNoneD, add_int, sub_int, biD, negD, fz, List.replicate, lz0, lz1, lz2, lz3, lz4, lz5, lz6, lz7, lz8, hi4, lo5]
/-- the middle again and again -/
def bis (p : Int → Bool) : Nat → Int → Int → Int
  | 0, l, _ => l
  | k + 1, l, h => if l < h then (if p ((l + h + 1) / 2) then bis p k ((l + h + 1) / 2) h else bis p k l ((l + h + 1) / 2 - 1)) else l
theorem bis_loop {t : EvR} {bd : StR} (p : Int → Bool) (lo hi : Int) (g : Int → Int → Option Sl → Ev) (ht : ∀ l h m, t (g l h m) = some (.bool (decide (l < h)), false, g l h m)) (hb : ∀ l h m, lo ≤ l → h ≤ hi → l < h → ∃ m', bd (g l h m) = some (.nx (if p ((l + h + 1) / 2) then g ((l + h + 1) / 2) h m' else g l ((l + h + 1) / 2 - 1) m'))) : ∀ (k : Nat) (l h : Int) (m : Option Sl), lo ≤ l → h ≤ hi → h - l ≤ k → ∃ K h' m', whileN t bd K (g l h m) = some (.nx (g (bis p k l h) h' m'))
  | 0, l, h, m, h1, h2, h3 => by
    refine ⟨1, h, m, ?_⟩
    rw [whileN, ht, decide_eq_false (by omega), bis]
  | k + 1, l, h, m, h1, h2, h3 => by
    by_cases h4 : l < h
    · obtain ⟨m', e⟩ := hb l h m h1 h2 h4
      by_cases h5 : p ((l + h + 1) / 2) = true
      · obtain ⟨K, h', m'', e2⟩ := bis_loop p lo hi g ht hb k ((l + h + 1) / 2) h m' (by omega) h2 (by omega)
        refine ⟨K + 1, h', m'', ?_⟩
        rw [whileN, ht, decide_eq_true h4, bis, if_pos h4, if_pos h5]
        rw [if_pos h5] at e
        simp only [e]
        exact e2
      · obtain ⟨K, h', m'', e2⟩ := bis_loop p lo hi g ht hb k l ((l + h + 1) / 2 - 1) m' h1 (by omega) (by omega)
        refine ⟨K + 1, h', m'', ?_⟩
        rw [whileN, ht, decide_eq_true h4, bis, if_pos h4, if_neg h5]
        rw [if_neg h5] at e
        simp only [e]
        exact e2
    · refine ⟨1, h, m, ?_⟩
      rw [whileN, ht, decide_eq_false h4, bis, if_neg h4]
def great (p : Int → Bool) (lo hi : Int) : D := if p lo then .int (bis p 1000000 lo hi) else .none
theorem c_greatest (n : Nat) (r : Rule) (a lo hi : Int) (p : Int → Bool) (w : Int → D) (h0 : lo ≤ hi) (h1 : hi - lo ≤ 1000000) (hw : ∀ m, callV prg n 12 [r.D, .int a, .int m] = some (w m, false)) (hs : ∀ m, lo ≤ m → m ≤ hi → callV prg n 10 [w m] = some (.bool (p m), false)) : callV prg (n+1) 13 [r.D, .int a, .int lo, .int hi] = some (great p lo hi, false) := by
  rw [callV_eq p_greatest rfl]
  have e0 := hs lo (by omega) h0
  have e1 := hw lo
  rw [B_greatest]
  rw [exB, stSeq]
  have e2 : exS (Phi prg n) (.cond (.not (.fn 10 [false] [.fn 12 [false, false, false] [.var 0, .var 1, .var 2]])) [.ret (.cst .none)] []) (List.map fz [r.D, .int a, .int lo, .int hi] ++ List.replicate (5 - 4) none) = if p lo then some (.nx [fz r.D, fz (.int a), fz (.int lo), fz (.int hi), none]) else some (.ret .none false [fz r.D, fz (.int a), fz (.int lo), fz (.int hi), none]) := by
    cases hp : p lo <;> rw [hp] at e0 <;> simp [retOf, exB, exS, stSeq, stRetE, stRetV, stRet, stAsg, stAsgT, stPar, stIf, stNx, stEx, evPs, evPnil, evPcons, stores, stor, asgT, asgTs, ee_cst, ee_glo, ee_var, ee_tup, ee_lst, ee_star, ee_bin, ee_neg, ee_cmp, ee_chn, ee_and, ee_or, ee_not, ee_ite, ee_ix, ee_sl, ee_bi, evE_fn1, evE_fn2, evE_fn3, evE_fn4, evBr, evBi, evBin, evCmp, evUn, evChn, evSl, evPart, partD, slD, evDisp, evStar, spread, seqD, evOs, evConsO, evNilO, opnd, gets, Opn.get, evC, evVar, evVs, evCons, evNil, outV, ixD, at0, at1, at2, at3, at4, at5, at6, at7, cmp_lt, cmp_le, cmp_gt, cmp_ge, cmp_eq_int, cmp_ne_int, cmp_is_none, cmp_isn_none, cmp_is_bool, cmp_isn_bool, isNoneD, add_int, sub_int, biD, negD, fz, List.replicate, lz0, lz1, lz2, lz3, lz4, lz5, lz6, lz7, lz8, e0, e1]
  rw [e2]
  cases hp : p lo
  · simp [great, hp, retOf]
  · obtain ⟨K, h', m', e3⟩ := bis_loop (t := evE (Phi prg n) (.cmp .lt (.var 2) (.var 3))) (bd := exB (Phi prg n) [.asg 4 (.bin .fdiv (.bin .add (.bin .add (.var 2) (.var 3)) (.cst (.int (1)))) (.cst (.int (2)))),
    .cond (.fn 10 [false] [.fn 12 [false, false, false] [.var 0, .var 1, .var 4]]) [.asg 2 (.var 4)] [.asg 3 (.bin .sub (.var 4) (.cst (.int (1))))]]) p lo hi (fun l h m => [fz r.D, fz (.int a), fz (.int l), fz (.int h), m.map fun s => ⟨s.d, false, false⟩])
      (fun l h m => by simp [retOf, exB, exS, stSeq, stRetE, stRetV, stRet, stAsg, stAsgT, stPar, stIf, stNx, stEx, evPs, evPnil, evPcons, stores, stor, asgT, asgTs, ee_cst, ee_glo, ee_var, ee_tup, ee_lst, ee_star, ee_bin, ee_neg, ee_cmp, ee_chn, ee_and, ee_or, ee_not, ee_ite, ee_ix, ee_sl, ee_bi, evE_fn1, evE_fn2, evE_fn3, evE_fn4, evBr, evBi, evBin, evCmp, evUn, evChn, evSl, evPart, partD, slD, evDisp, evStar, spread, seqD, evOs, evConsO, evNilO, opnd, gets, Opn.get, evC, evVar, evVs, evCons, evNil, outV, ixD, at0, at1, at2, at3, at4, at5, at6, at7, cmp_lt, cmp_le, cmp_gt, cmp_ge, cmp_eq_int, cmp_ne_int, cmp_is_none, cmp_isn_none, cmp_is_bool, cmp_isn_bool, isNoneD, add_int, sub_int, biD, negD, fz, List.replicate, lz0, lz1, lz2, lz3, lz4, lz5, lz6, lz7, lz8]) (fun l h m h1 h2 h3 => by
        refine ⟨some ⟨.int ((l + h + 1) / 2), false, false⟩, ?_⟩
        have e3 := hs ((l + h + 1) / 2) (by omega) (by omega)
        have e4 := hw ((l + h + 1) / 2)
        have e5 := div_int (a := l + h + 1) (b := 2) (by decide)
        cases hp : p ((l + h + 1) / 2) <;> rw [hp] at e3 <;> cases m <;> simp [retOf, exB, exS, stSeq, stRetE, stRetV, stRet, stAsg, stAsgT, stPar, stIf, stNx, stEx, evPs, evPnil, evPcons, stores, stor, asgT, asgTs, ee_cst, ee_glo, ee_var, ee_tup, ee_lst, ee_star, ee_bin, ee_neg, ee_cmp, ee_chn, ee_and, ee_or, ee_not, ee_ite, ee_ix, ee_sl, ee_bi, evE_fn1, evE_fn2, evE_fn3, evE_fn4, evBr, evBi, evBin, evCmp, evUn, evChn, evSl, evPart, partD, slD, evDisp, evStar, spread, seqD, evOs, evConsO, evNilO, opnd, gets, Opn.get, evC, evVar, evVs, evCons, evNil, outV, ixD, at0, at1, at2, at3, at4, at5, at6, at7, cmp_lt, cmp_le, cmp_gt, cmp_ge, cmp_eq_int, cmp_ne_int, cmp_is_none, cmp_isn_none, cmp_is_bool, cmp_isn_bool, isNoneD, add_int, sub_int, biD, negD, fz, List.replicate, lz0, lz1, lz2, lz3, lz4, lz5, lz6, lz7, lz8, e3, e4, e5]) 1000000 lo hi none (by omega) (by omega) (by omega)
    have e4 := whileC_of e3
    simp only [if_true, Option.map_none] at *
    rw [exB, stSeq, exS]
    simp only [e4]
    simp [great, hp, retOf, exB, exS, stSeq, stRetE, stRetV, stRet, stAsg, stAsgT, stPar, stIf, stNx, stEx, evPs, evPnil, evPcons, stores, stor, asgT, asgTs, ee_cst, ee_glo, ee_var, ee_tup, ee_lst, ee_star, ee_bin, ee_neg, ee_cmp, ee_chn, ee_and, ee_or, ee_not, ee_ite, ee_ix, ee_sl, ee_bi, evE_fn1, evE_fn2, evE_fn3, evE_fn4, evBr, evBi, evBin, evCmp, evUn, evChn, evSl, evPart, partD, slD, evDisp, evStar, spread, seqD, evOs, evConsO, evNilO, opnd, gets, Opn.get, evC, evVar, evVs, evCons, evNil, outV, ixD, at0, at1, at2, at3, at4, at5, at6, at7, cmp_lt, cmp_le, cmp_gt, cmp_ge, cmp_eq_int, cmp_ne_int, cmp_is_none, cmp_isn_none, cmp_is_bool, cmp_isn_bool, isNoneD, add_int, sub_int, biD, negD, fz, List.replicate, lz0, lz1, lz2, lz3, lz4, lz5, lz6, lz7, lz8]
theorem c_greatest_hold (n : Nat) (r : Rule) (p : Int → Bool) (hs : ∀ m, 1 ≤ m → m ≤ 1000000 → callV prg (n+1) 10 [({r with hold := m} : Rule).D] = some (.bool (p m), false)) : callV prg (n+3) 14 [r.D] = some (great p 1 1000000, false) := by
  rw [callV_eq p_greatest_hold rfl]
  have e := c_greatest (n+1) r 1 1 1000000 p (fun m => ({r with hold := m} : Rule).D) (by decide) (by decide) (fun m => c_with1 n r m) hs
  simp [B_greatest_hold, retOf, exB, exS, stSeq, stRetE, stRetV, stRet, stAsg, stAsgT, stPar, stIf, stNx, stEx, evPs, evPnil, evPcons, stores, stor, asgT, asgTs, ee_cst, ee_glo, ee_var, ee_tup, ee_lst, ee_star, ee_bin, ee_neg, ee_cmp, ee_chn, ee_and, ee_or, ee_not, ee_ite, ee_ix, ee_sl, ee_bi, evE_fn1, evE_fn2, evE_fn3, evE_fn4, evBr, evBi, evBin, evCmp, evUn, evChn, evSl, evPart, partD, slD, evDisp, evStar, spread, seqD, evOs, evConsO, evNilO, opnd, gets, Opn.get, evC, evVar, evVs, evCons, evNil, outV, ixD, at0, at1, at2, at3, at4, at5, at6, at7, cmp_lt, cmp_le, cmp_gt, cmp_ge, cmp_eq_int, cmp_ne_int, cmp_is_none, cmp_isn_none, cmp_is_bool, cmp_isn_bool, isNoneD, add_int, sub_int, biD, negD, fz, List.replicate, lz0, lz1, lz2, lz3, lz4, lz5, lz6, lz7, lz8, e]
theorem c_greatest_run (n : Nat) (r : Rule) (p : Int → Bool) (hs : ∀ m, 0 ≤ m → m ≤ 1000000 → callV prg (n+1) 10 [({r with run := m} : Rule).D] = some (.bool (p m), false)) : callV prg (n+3) 15 [r.D] = some (great p 0 1000000, false) := by
  rw [callV_eq p_greatest_run rfl]
  have e := c_greatest (n+1) r 4 0 1000000 p (fun m => ({r with run := m} : Rule).D) (by decide) (by decide) (fun m => c_with4 n r m) hs
  simp [B_greatest_run, retOf, exB, exS, stSeq, stRetE, stRetV, stRet, stAsg, stAsgT, stPar, stIf, stNx, stEx, evPs, evPnil, evPcons, stores, stor, asgT, asgTs, ee_cst, ee_glo, ee_var, ee_tup, ee_lst, ee_star, ee_bin, ee_neg, ee_cmp, ee_chn, ee_and, ee_or, ee_not, ee_ite, ee_ix, ee_sl, ee_bi, evE_fn1, evE_fn2, evE_fn3, evE_fn4, evBr, evBi, evBin, evCmp, evUn, evChn, evSl, evPart, partD, slD, evDisp, evStar, spread, seqD, evOs, evConsO, evNilO, opnd, gets, Opn.get, evC, evVar, evVs, evCons, evNil, outV, ixD, at0, at1, at2, at3, at4, at5, at6, at7, cmp_lt, cmp_le, cmp_gt, cmp_ge, cmp_eq_int, cmp_ne_int, cmp_is_none, cmp_isn_none, cmp_is_bool, cmp_isn_bool, isNoneD, add_int, sub_int, biD, negD, fz, List.replicate, lz0, lz1, lz2, lz3, lz4, lz5, lz6, lz7, lz8, e]
end K43

namespace K43
open PySem EV Tab
def rulesD (rs : List Rule) : D := .tuple (rs.map Rule.D)
theorem c_least_waits (n : Nat) (rs : List Rule) (h : ∀ r ∈ rs, r.Ok) (hl : rs.length ≤ sizeLine) : callV prg (n+6) 16 [rulesD rs] = some (.tuple (rs.map fun r => .int r.lw), false) := by
  rw [callV_eq p_least_waits rfl]
  have e := lc_of (Φ := Phi prg (n+5)) (tg := .name 1) (k := .seq) (es := [.var 0]) (ifs := []) (elt := .fn 11 [false] [.var 1]) (own := [1]) (ρ := [fz (rulesD rs), none]) (ρ1 := [fz (rulesD rs), none]) (ρ3 := [fz (rulesD rs), none]) (os := [.val (rulesD rs)]) (ds := [rulesD rs]) (xs := rs.map Rule.D)
    (by simp [retOf, exB, exS, stSeq, stRetE, stRetV, stRet, stAsg, stAsgT, stPar, stIf, stNx, stEx, evPs, evPnil, evPcons, stores, stor, asgT, asgTs, ee_cst, ee_glo, ee_var, ee_tup, ee_lst, ee_star, ee_bin, ee_neg, ee_cmp, ee_chn, ee_and, ee_or, ee_not, ee_ite, ee_ix, ee_sl, ee_bi, evE_fn1, evE_fn2, evE_fn3, evE_fn4, evBr, evBi, evBin, evCmp, evUn, evChn, evSl, evPart, partD, slD, evDisp, evStar, spread, seqD, evOs, evConsO, evNilO, opnd, gets, Opn.get, evC, evVar, evVs, evCons, evNil, outV, ixD, at0, at1, at2, at3, at4, at5, at6, at7, cmp_lt, cmp_le, cmp_gt, cmp_ge, cmp_eq_int, cmp_ne_int, cmp_is_none, cmp_isn_none, cmp_is_bool, cmp_isn_bool, isNoneD, add_int, sub_int, biD, negD, fz, List.replicate, lz0, lz1, lz2, lz3, lz4, lz5, lz6, lz7, lz8]) (by simp [retOf, exB, exS, stSeq, stRetE, stRetV, stRet, stAsg, stAsgT, stPar, stIf, stNx, stEx, evPs, evPnil, evPcons, stores, stor, asgT, asgTs, ee_cst, ee_glo, ee_var, ee_tup, ee_lst, ee_star, ee_bin, ee_neg, ee_cmp, ee_chn, ee_and, ee_or, ee_not, ee_ite, ee_ix, ee_sl, ee_bi, evE_fn1, evE_fn2, evE_fn3, evE_fn4, evBr, evBi, evBin, evCmp, evUn, evChn, evSl, evPart, partD, slD, evDisp, evStar, spread, seqD, evOs, evConsO, evNilO, opnd, gets, Opn.get, evC, evVar, evVs, evCons, evNil, outV, ixD, at0, at1, at2, at3, at4, at5, at6, at7, cmp_lt, cmp_le, cmp_gt, cmp_ge, cmp_eq_int, cmp_ne_int, cmp_is_none, cmp_isn_none, cmp_is_bool, cmp_isn_bool, isNoneD, add_int, sub_int, biD, negD, fz, List.replicate, lz0, lz1, lz2, lz3, lz4, lz5, lz6, lz7, lz8]) rfl rfl (turns_mapA Rule.D (fun r => .int r.lw) rs fun r hr => by
      have e1 := c_least_wait n (h r hr)
      simp [turn, tests, evFs, clear, retOf, exB, exS, stSeq, stRetE, stRetV, stRet, stAsg, stAsgT, stPar, stIf, stNx, stEx, evPs, evPnil, evPcons, stores, stor, asgT, asgTs, ee_cst, ee_glo, ee_var, ee_tup, ee_lst, ee_star, ee_bin, ee_neg, ee_cmp, ee_chn, ee_and, ee_or, ee_not, ee_ite, ee_ix, ee_sl, ee_bi, evE_fn1, evE_fn2, evE_fn3, evE_fn4, evBr, evBi, evBin, evCmp, evUn, evChn, evSl, evPart, partD, slD, evDisp, evStar, spread, seqD, evOs, evConsO, evNilO, opnd, gets, Opn.get, evC, evVar, evVs, evCons, evNil, outV, ixD, at0, at1, at2, at3, at4, at5, at6, at7, cmp_lt, cmp_le, cmp_gt, cmp_ge, cmp_eq_int, cmp_ne_int, cmp_is_none, cmp_isn_none, cmp_is_bool, cmp_isn_bool, isNoneD, add_int, sub_int, biD, negD, fz, List.replicate, lz0, lz1, lz2, lz3, lz4, lz5, lz6, lz7, lz8, e1]) (by simpa using hl) rfl
  rw [fz] at e
  simp [B_least_waits, retOf, exB, exS, stSeq, stRetE, stRetV, stRet, stAsg, stAsgT, stPar, stIf, stNx, stEx, evPs, evPnil, evPcons, stores, stor, asgT, asgTs, ee_cst, ee_glo, ee_var, ee_tup, ee_lst, ee_star, ee_bin, ee_neg, ee_cmp, ee_chn, ee_and, ee_or, ee_not, ee_ite, ee_ix, ee_sl, ee_bi, evE_fn1, evE_fn2, evE_fn3, evE_fn4, evBr, evBi, evBin, evCmp, evUn, evChn, evSl, evPart, partD, slD, evDisp, evStar, spread, seqD, evOs, evConsO, evNilO, opnd, gets, Opn.get, evC, evVar, evVs, evCons, evNil, outV, ixD, at0, at1, at2, at3, at4, at5, at6, at7, cmp_lt, cmp_le, cmp_gt, cmp_ge, cmp_eq_int, cmp_ne_int, cmp_is_none, cmp_isn_none, cmp_is_bool, cmp_isn_bool, isNoneD, add_int, sub_int, biD, negD, fz, List.replicate, lz0, lz1, lz2, lz3, lz4, lz5, lz6, lz7, lz8, e]
def faults (rs : List Rule) : D := .tuple (rs.zipIdx.filterMap fun p => if p.1.safe then none else some (.int (p.2 : Nat)))
theorem c_faults_of (n : Nat) (rs : List Rule) (h : ∀ r ∈ rs, r.Ok) (hl : rs.length ≤ sizeLine) : callV prg (n+6) 17 [rulesD rs] = some (faults rs, false) := by
  rw [callV_eq p_faults_of rfl]
  have e := lc_of (Φ := Phi prg (n+5)) (tg := .tup [.name 1, .name 2]) (k := .enm) (es := [.var 0]) (ifs := [.not (.fn 10 [false] [.var 2])]) (elt := .var 1) (own := [1, 2]) (ρ := [fz (rulesD rs), none, none]) (ρ1 := [fz (rulesD rs), none, none]) (ρ3 := [fz (rulesD rs), none, none]) (os := [.val (rulesD rs)]) (ds := [rulesD rs]) (xs := rs.zipIdx.map fun p => .tuple [.int (p.2 : Nat), p.1.D])
    (by simp [retOf, exB, exS, stSeq, stRetE, stRetV, stRet, stAsg, stAsgT, stPar, stIf, stNx, stEx, evPs, evPnil, evPcons, stores, stor, asgT, asgTs, ee_cst, ee_glo, ee_var, ee_tup, ee_lst, ee_star, ee_bin, ee_neg, ee_cmp, ee_chn, ee_and, ee_or, ee_not, ee_ite, ee_ix, ee_sl, ee_bi, evE_fn1, evE_fn2, evE_fn3, evE_fn4, evBr, evBi, evBin, evCmp, evUn, evChn, evSl, evPart, partD, slD, evDisp, evStar, spread, seqD, evOs, evConsO, evNilO, opnd, gets, Opn.get, evC, evVar, evVs, evCons, evNil, outV, ixD, at0, at1, at2, at3, at4, at5, at6, at7, cmp_lt, cmp_le, cmp_gt, cmp_ge, cmp_eq_int, cmp_ne_int, cmp_is_none, cmp_isn_none, cmp_is_bool, cmp_isn_bool, isNoneD, add_int, sub_int, biD, negD, fz, List.replicate, lz0, lz1, lz2, lz3, lz4, lz5, lz6, lz7, lz8]) (by simp [retOf, exB, exS, stSeq, stRetE, stRetV, stRet, stAsg, stAsgT, stPar, stIf, stNx, stEx, evPs, evPnil, evPcons, stores, stor, asgT, asgTs, ee_cst, ee_glo, ee_var, ee_tup, ee_lst, ee_star, ee_bin, ee_neg, ee_cmp, ee_chn, ee_and, ee_or, ee_not, ee_ite, ee_ix, ee_sl, ee_bi, evE_fn1, evE_fn2, evE_fn3, evE_fn4, evBr, evBi, evBin, evCmp, evUn, evChn, evSl, evPart, partD, slD, evDisp, evStar, spread, seqD, evOs, evConsO, evNilO, opnd, gets, Opn.get, evC, evVar, evVs, evCons, evNil, outV, ixD, at0, at1, at2, at3, at4, at5, at6, at7, cmp_lt, cmp_le, cmp_gt, cmp_ge, cmp_eq_int, cmp_ne_int, cmp_is_none, cmp_isn_none, cmp_is_bool, cmp_isn_bool, isNoneD, add_int, sub_int, biD, negD, fz, List.replicate, lz0, lz1, lz2, lz3, lz4, lz5, lz6, lz7, lz8]) (by simp [iterD, rulesD, seqD, enumD_map]) rfl (turns_filterA (fun p : Rule × Nat => .tuple [.int (p.2 : Nat), p.1.D]) (fun p => if p.1.safe then none else some (.int (p.2 : Nat))) rs.zipIdx fun p hp => by
      have e1 := c_is_safe n (h p.1 (List.fst_mem_of_mem_zipIdx hp))
      cases hs : p.1.safe <;> rw [hs] at e1 <;> simp [turn, tests, evFs, clear, retOf, exB, exS, stSeq, stRetE, stRetV, stRet, stAsg, stAsgT, stPar, stIf, stNx, stEx, evPs, evPnil, evPcons, stores, stor, asgT, asgTs, ee_cst, ee_glo, ee_var, ee_tup, ee_lst, ee_star, ee_bin, ee_neg, ee_cmp, ee_chn, ee_and, ee_or, ee_not, ee_ite, ee_ix, ee_sl, ee_bi, evE_fn1, evE_fn2, evE_fn3, evE_fn4, evBr, evBi, evBin, evCmp, evUn, evChn, evSl, evPart, partD, slD, evDisp, evStar, spread, seqD, evOs, evConsO, evNilO, opnd, gets, Opn.get, evC, evVar, evVs, evCons, evNil, outV, ixD, at0, at1, at2, at3, at4, at5, at6, at7, cmp_lt, cmp_le, cmp_gt, cmp_ge, cmp_eq_int, cmp_ne_int, cmp_is_none, cmp_isn_none, cmp_is_bool, cmp_isn_bool, isNoneD, add_int, sub_int, biD, negD, fz, List.replicate, lz0, lz1, lz2, lz3, lz4, lz5, lz6, lz7, lz8, e1]) (Nat.le_trans (List.length_filterMap_le ..) (by simpa using hl)) rfl
  rw [fz] at e
  simp [B_faults_of, retOf, exB, exS, stSeq, stRetE, stRetV, stRet, stAsg, stAsgT, stPar, stIf, stNx, stEx, evPs, evPnil, evPcons, stores, stor, asgT, asgTs, ee_cst, ee_glo, ee_var, ee_tup, ee_lst, ee_star, ee_bin, ee_neg, ee_cmp, ee_chn, ee_and, ee_or, ee_not, ee_ite, ee_ix, ee_sl, ee_bi, evE_fn1, evE_fn2, evE_fn3, evE_fn4, evBr, evBi, evBin, evCmp, evUn, evChn, evSl, evPart, partD, slD, evDisp, evStar, spread, seqD, evOs, evConsO, evNilO, opnd, gets, Opn.get, evC, evVar, evVs, evCons, evNil, outV, ixD, at0, at1, at2, at3, at4, at5, at6, at7, cmp_lt, cmp_le, cmp_gt, cmp_ge, cmp_eq_int, cmp_ne_int, cmp_is_none, cmp_isn_none, cmp_is_bool, cmp_isn_bool, isNoneD, add_int, sub_int, biD, negD, fz, List.replicate, lz0, lz1, lz2, lz3, lz4, lz5, lz6, lz7, lz8, e, faults]
/-! ### the law's own answers -/
theorem int_bool (b : Bool) : biD .int [.bool b] = some (.int (if b then 1 else 0), false) := rfl
theorem c_law_last_act (n : Nat) {r : Rule} (h : r.Ok) : callV prg (n+2) 32 [r.D] = some (rep r.last, false) := by
  have h1 := h.hold
  have h2 := h.apart
  have h3 := h.late
  have h4 := h.run
  rw [callV_eq p__law_last_act rfl]
  by_cases hk : r.k = .U
  · have hl : rep r.last = .tuple [.int (r.hold + r.apart + r.run), .int 1] := by rw [Rule.last, if_pos hk]; rfl
    simp [B__law_last_act, Rule.D, retOf, exB, exS, stSeq, stRetE, stRetV, stRet, stAsg, stAsgT, stPar, stIf, stNx, stEx, evPs, evPnil, evPcons, stores, stor, asgT, asgTs, ee_cst, ee_glo, ee_var, ee_tup, ee_lst, ee_star, ee_bin, ee_neg, ee_cmp, ee_chn, ee_and, ee_or, ee_not, ee_ite, ee_ix, ee_sl, ee_bi, evE_fn1, evE_fn2, evE_fn3, evE_fn4, evBr, evBi, evBin, evCmp, evUn, evChn, evSl, evPart, partD, slD, evDisp, evStar, spread, seqD, evOs, evConsO, evNilO, opnd, gets, Opn.get, evC, evVar, evVs, evCons, evNil, outV, ixD, at0, at1, at2, at3, at4, at5, at6, at7, cmp_lt, cmp_le, cmp_gt, cmp_ge, cmp_eq_int, cmp_ne_int, cmp_is_none, cmp_isn_none, cmp_is_bool, cmp_isn_bool, isNoneD, add_int, sub_int, biD, negD, fz, List.replicate, lz0, lz1, lz2, lz3, lz4, lz5, lz6, lz7, lz8, k_until, k_heard, hk, hl]
  · have hl : r.last = r.hr + r.moreR := by rw [Rule.last, if_neg hk]
    have hm := mul_int (mulOk_of (j := 1000) (a := 24) (b := 10) (sz_of h1.1 h1.2) (by decide) (by decide))
    have hm2 := mul_int (mulOk_of (i := r.more) (j := 1000 - r.apart) (a := 29) (b := 10) (bn_more h).1 (sz_of (by omega) (by omega)) (by decide))
    have hz := z_frac n (a := r.hold * 1000 + r.more * (1000 - r.apart)) (b := 1000 - r.apart) (((sz_of (k := 34) (i := r.hold * 1000) (by omega) (by omega)).add ((bn_more h).1.mul (sz_of (k := 10) (i := 1000 - r.apart) (by omega) (by omega)))).up (by decide)) (by omega) (by omega)
    have he : ((r.hold * 1000 + r.more * (1000 - r.apart) : Int) : Rat) / ((1000 - r.apart : Int) : Rat) = r.last := by
      rw [hl, Rule.hr, Rule.moreR]
      have : ((1000 - r.apart : Int) : Rat) ≠ 0 := by
        intro hc
        have := Rat.intCast_eq_zero_iff.1 hc
        omega
      generalize (1000 - r.apart : Int) = m at *
      simp only [Rat.intCast_add, Rat.intCast_mul]
      grind
    rw [he] at hz
    by_cases hh : r.k = .H
    · have hl2 : r.more = r.run + r.late := by simp [Rule.more, hh]
      have hm3 := mul_int (mulOk_of (i := r.late) (j := 1) (a := 24) (b := 1) (sz_of h3.1 h3.2) (by decide) (by decide))
      rw [hl2] at hz hm2
      simp [B__law_last_act, Rule.D, retOf, exB, exS, stSeq, stRetE, stRetV, stRet, stAsg, stAsgT, stPar, stIf, stNx, stEx, evPs, evPnil, evPcons, stores, stor, asgT, asgTs, ee_cst, ee_glo, ee_var, ee_tup, ee_lst, ee_star, ee_bin, ee_neg, ee_cmp, ee_chn, ee_and, ee_or, ee_not, ee_ite, ee_ix, ee_sl, ee_bi, evE_fn1, evE_fn2, evE_fn3, evE_fn4, evBr, evBi, evBin, evCmp, evUn, evChn, evSl, evPart, partD, slD, evDisp, evStar, spread, seqD, evOs, evConsO, evNilO, opnd, gets, Opn.get, evC, evVar, evVs, evCons, evNil, outV, ixD, at0, at1, at2, at3, at4, at5, at6, at7, cmp_lt, cmp_le, cmp_gt, cmp_ge, cmp_eq_int, cmp_ne_int, cmp_is_none, cmp_isn_none, cmp_is_bool, cmp_isn_bool, isNoneD, add_int, sub_int, biD, negD, fz, List.replicate, lz0, lz1, lz2, lz3, lz4, lz5, lz6, lz7, lz8, k_until, k_heard, hk, hh, hm, hm2, hm3, hz]
    · have hl2 : r.more = r.run := by simp [Rule.more, hh]
      have hm3 := mul_int (mulOk_of (i := r.late) (j := 0) (a := 24) (b := 1) (sz_of h3.1 h3.2) (by decide) (by decide))
      rw [hl2] at hz hm2
      simp [B__law_last_act, Rule.D, retOf, exB, exS, stSeq, stRetE, stRetV, stRet, stAsg, stAsgT, stPar, stIf, stNx, stEx, evPs, evPnil, evPcons, stores, stor, asgT, asgTs, ee_cst, ee_glo, ee_var, ee_tup, ee_lst, ee_star, ee_bin, ee_neg, ee_cmp, ee_chn, ee_and, ee_or, ee_not, ee_ite, ee_ix, ee_sl, ee_bi, evE_fn1, evE_fn2, evE_fn3, evE_fn4, evBr, evBi, evBin, evCmp, evUn, evChn, evSl, evPart, partD, slD, evDisp, evStar, spread, seqD, evOs, evConsO, evNilO, opnd, gets, Opn.get, evC, evVar, evVs, evCons, evNil, outV, ixD, at0, at1, at2, at3, at4, at5, at6, at7, cmp_lt, cmp_le, cmp_gt, cmp_ge, cmp_eq_int, cmp_ne_int, cmp_is_none, cmp_isn_none, cmp_is_bool, cmp_isn_bool, isNoneD, add_int, sub_int, biD, negD, fz, List.replicate, lz0, lz1, lz2, lz3, lz4, lz5, lz6, lz7, lz8, k_until, k_heard, hk, hh, hm, hm2, hm3, hz]
theorem c_law_first_settled (n : Nat) {r : Rule} (h : r.Ok) : callV prg (n+2) 33 [r.D] = some (rep r.sett, false) := by
  have h1 := h.wait
  have h2 := h.apart
  rw [callV_eq p__law_first_settled rfl]
  have hm := mul_int (mulOk_of (j := 1000) (a := 24) (b := 10) (sz_of h1.1 h1.2) (by decide) (by decide))
  have hf : callV prg (n+1) 30 [.int (r.wait * 1000), .int (1000 + r.apart)] = some (rep r.sr, false) := z_frac n ((sz_of (k := 34) (by omega) (by omega)).up (by decide)) (by omega) (by omega)
  by_cases hk : r.k = .U
  · have hl : rep r.sett = .tuple [.int r.wait, .int 1] := by rw [Rule.sett, if_pos hk]; rfl
    simp [B__law_first_settled, Rule.D, retOf, exB, exS, stSeq, stRetE, stRetV, stRet, stAsg, stAsgT, stPar, stIf, stNx, stEx, evPs, evPnil, evPcons, stores, stor, asgT, asgTs, ee_cst, ee_glo, ee_var, ee_tup, ee_lst, ee_star, ee_bin, ee_neg, ee_cmp, ee_chn, ee_and, ee_or, ee_not, ee_ite, ee_ix, ee_sl, ee_bi, evE_fn1, evE_fn2, evE_fn3, evE_fn4, evBr, evBi, evBin, evCmp, evUn, evChn, evSl, evPart, partD, slD, evDisp, evStar, spread, seqD, evOs, evConsO, evNilO, opnd, gets, Opn.get, evC, evVar, evVs, evCons, evNil, outV, ixD, at0, at1, at2, at3, at4, at5, at6, at7, cmp_lt, cmp_le, cmp_gt, cmp_ge, cmp_eq_int, cmp_ne_int, cmp_is_none, cmp_isn_none, cmp_is_bool, cmp_isn_bool, isNoneD, add_int, sub_int, biD, negD, fz, List.replicate, lz0, lz1, lz2, lz3, lz4, lz5, lz6, lz7, lz8, k_until, hk, hl]
  · have hl : r.sett = r.sr := by rw [Rule.sett, if_neg hk]
    simp [B__law_first_settled, Rule.D, retOf, exB, exS, stSeq, stRetE, stRetV, stRet, stAsg, stAsgT, stPar, stIf, stNx, stEx, evPs, evPnil, evPcons, stores, stor, asgT, asgTs, ee_cst, ee_glo, ee_var, ee_tup, ee_lst, ee_star, ee_bin, ee_neg, ee_cmp, ee_chn, ee_and, ee_or, ee_not, ee_ite, ee_ix, ee_sl, ee_bi, evE_fn1, evE_fn2, evE_fn3, evE_fn4, evBr, evBi, evBin, evCmp, evUn, evChn, evSl, evPart, partD, slD, evDisp, evStar, spread, seqD, evOs, evConsO, evNilO, opnd, gets, Opn.get, evC, evVar, evVs, evCons, evNil, outV, ixD, at0, at1, at2, at3, at4, at5, at6, at7, cmp_lt, cmp_le, cmp_gt, cmp_ge, cmp_eq_int, cmp_ne_int, cmp_is_none, cmp_isn_none, cmp_is_bool, cmp_isn_bool, isNoneD, add_int, sub_int, biD, negD, fz, List.replicate, lz0, lz1, lz2, lz3, lz4, lz5, lz6, lz7, lz8, k_until, hk, hl, hm, hf]
theorem c_law_is_less (n : Nat) {p q : Rat} (hp : Bn 4000 p) (hq : Bn 4000 q) : callV prg (n+1) 31 [rep p, rep q] = some (.bool (decide (p < q)), false) := by
  rw [callV_eq p__law_is_less rfl]
  have m1 := mul_int (mulOk_of hp.1 hq.2 (by decide))
  have m2 := mul_int (mulOk_of hq.1 hp.2 (by decide))
  simp [B__law_is_less, rep, pr, retOf, exB, exS, stSeq, stRetE, stRetV, stRet, stAsg, stAsgT, stPar, stIf, stNx, stEx, evPs, evPnil, evPcons, stores, stor, asgT, asgTs, ee_cst, ee_glo, ee_var, ee_tup, ee_lst, ee_star, ee_bin, ee_neg, ee_cmp, ee_chn, ee_and, ee_or, ee_not, ee_ite, ee_ix, ee_sl, ee_bi, evE_fn1, evE_fn2, evE_fn3, evE_fn4, evBr, evBi, evBin, evCmp, evUn, evChn, evSl, evPart, partD, slD, evDisp, evStar, spread, seqD, evOs, evConsO, evNilO, opnd, gets, Opn.get, evC, evVar, evVs, evCons, evNil, outV, ixD, at0, at1, at2, at3, at4, at5, at6, at7, cmp_lt, cmp_le, cmp_gt, cmp_ge, cmp_eq_int, cmp_ne_int, cmp_is_none, cmp_isn_none, cmp_is_bool, cmp_isn_bool, isNoneD, add_int, sub_int, biD, negD, fz, List.replicate, lz0, lz1, lz2, lz3, lz4, lz5, lz6, lz7, lz8, m1, m2, Rat.lt_iff]
theorem c_law_is_safe (n : Nat) {r : Rule} (h : r.Ok) : callV prg (n+3) 34 [r.D] = some (.bool r.safe, false) := by
  rw [callV_eq p__law_is_safe rfl]
  have e1 := c_law_last_act n h
  have e2 := c_law_first_settled n h
  have e3 := c_law_is_less (n+1) ((bn_sett h).up (by decide)) ((bn_last h).up (by decide))
  have e4 : (!decide (r.sett < r.last)) = r.safe := by
    rw [Rule.safe]
    by_cases h : r.sett < r.last <;> simp [h, ← Rat.not_lt]
  simp [B__law_is_safe, retOf, exB, exS, stSeq, stRetE, stRetV, stRet, stAsg, stAsgT, stPar, stIf, stNx, stEx, evPs, evPnil, evPcons, stores, stor, asgT, asgTs, ee_cst, ee_glo, ee_var, ee_tup, ee_lst, ee_star, ee_bin, ee_neg, ee_cmp, ee_chn, ee_and, ee_or, ee_not, ee_ite, ee_ix, ee_sl, ee_bi, evE_fn1, evE_fn2, evE_fn3, evE_fn4, evBr, evBi, evBin, evCmp, evUn, evChn, evSl, evPart, partD, slD, evDisp, evStar, spread, seqD, evOs, evConsO, evNilO, opnd, gets, Opn.get, evC, evVar, evVs, evCons, evNil, outV, ixD, at0, at1, at2, at3, at4, at5, at6, at7, cmp_lt, cmp_le, cmp_gt, cmp_ge, cmp_eq_int, cmp_ne_int, cmp_is_none, cmp_isn_none, cmp_is_bool, cmp_isn_bool, isNoneD, add_int, sub_int, biD, negD, fz, List.replicate, lz0, lz1, lz2, lz3, lz4, lz5, lz6, lz7, lz8, e1, e2, e3, e4]
def Rule.often (r : Rule) (n : Int) : Rule := ⟨r.k, r.hold * n, r.late * n, r.apart, r.run * n, r.wait * n⟩
theorem c_often (n : Nat) {r : Rule} (h : r.Ok) {m : Int} (hm : Sz 8 m) : callV prg (n+1) 39 [r.D, .int m] = some ((r.often m).D, false) := by
  rw [callV_eq p__law_often rfl]
  have m1 := mul_int (mulOk_of (sz_of h.hold.1 h.hold.2) hm (by decide))
  have m2 := mul_int (mulOk_of (sz_of h.late.1 h.late.2) hm (by decide))
  have m3 := mul_int (mulOk_of (sz_of h.run.1 h.run.2) hm (by decide))
  have m4 := mul_int (mulOk_of (sz_of h.wait.1 h.wait.2) hm (by decide))
  simp [B__law_often, Rule.D, Rule.often, retOf, exB, exS, stSeq, stRetE, stRetV, stRet, stAsg, stAsgT, stPar, stIf, stNx, stEx, evPs, evPnil, evPcons, stores, stor, asgT, asgTs, ee_cst, ee_glo, ee_var, ee_tup, ee_lst, ee_star, ee_bin, ee_neg, ee_cmp, ee_chn, ee_and, ee_or, ee_not, ee_ite, ee_ix, ee_sl, ee_bi, evE_fn1, evE_fn2, evE_fn3, evE_fn4, evBr, evBi, evBin, evCmp, evUn, evChn, evSl, evPart, partD, slD, evDisp, evStar, spread, seqD, evOs, evConsO, evNilO, opnd, gets, Opn.get, evC, evVar, evVs, evCons, evNil, outV, ixD, at0, at1, at2, at3, at4, at5, at6, at7, cmp_lt, cmp_le, cmp_gt, cmp_ge, cmp_eq_int, cmp_ne_int, cmp_is_none, cmp_isn_none, cmp_is_bool, cmp_isn_bool, isNoneD, add_int, sub_int, biD, negD, fz, List.replicate, lz0, lz1, lz2, lz3, lz4, lz5, lz6, lz7, lz8, m1, m2, m3, m4]
theorem c_in_bounds (n : Nat) (r : Rule) : callV prg (n+1) 40 [r.D] = some (.bool (decide (r.hold ≤ 1000000 ∧ r.late ≤ 1000000 ∧ r.run ≤ 1000000 ∧ r.wait ≤ 1000000)), false) := by
  rw [callV_eq p__law_in_bounds rfl]
  simp [B__law_in_bounds, Rule.D, retOf, exB, exS, stSeq, stRetE, stRetV, stRet, stAsg, stAsgT, stPar, stIf, stNx, stEx, evPs, evPnil, evPcons, stores, stor, asgT, asgTs, ee_cst, ee_glo, ee_var, ee_tup, ee_lst, ee_star, ee_bin, ee_neg, ee_cmp, ee_chn, ee_and, ee_or, ee_not, ee_ite, ee_ix, ee_sl, ee_bi, evE_fn1, evE_fn2, evE_fn3, evE_fn4, evBr, evBi, evBin, evCmp, evUn, evChn, evSl, evPart, partD, slD, evDisp, evStar, spread, seqD, evOs, evConsO, evNilO, opnd, gets, Opn.get, evC, evVar, evVs, evCons, evNil, outV, ixD, at0, at1, at2, at3, at4, at5, at6, at7, cmp_lt, cmp_le, cmp_gt, cmp_ge, cmp_eq_int, cmp_ne_int, cmp_is_none, cmp_isn_none, cmp_is_bool, cmp_isn_bool, isNoneD, add_int, sub_int, biD, negD, fz, List.replicate, lz0, lz1, lz2, lz3, lz4, lz5, lz6, lz7, lz8, maxL]
  rw [Bool.eq_iff_iff]
  simp
  omega
theorem c_frac_often (n : Nat) {q : Rat} (hq : Bn 3000 q) {m : Int} (hm : Sz 8 m) : callV prg (n+2) 41 [rep q, .int m] = some (rep (q * (m : Rat)), false) := by
  rw [callV_eq p__law_frac_often rfl]
  have m1 := mul_int (mulOk_of hq.1 hm (by decide))
  have e := c_law_frac n (a := q.num * m) q.den_pos ((hq.1.mul hm).up (by decide)) (hq.2.up (by decide))
  have e2 : ((q.num * m : Int) : Rat) / ((q.den : Nat) : Int) = q * (m : Rat) := by
    have e3 := rat_eq q
    have e4 : (((q.den : Nat) : Int) : Rat) ≠ 0 := by
      have := q.den_pos
      simp; omega
    rw [Rat.intCast_mul]
    generalize (((q.den : Nat) : Int) : Rat) = d at *
    generalize (q.num : Rat) = t at *
    subst e3
    grind
  rw [e2] at e
  simp [B__law_frac_often, rep, pr, retOf, exB, exS, stSeq, stRetE, stRetV, stRet, stAsg, stAsgT, stPar, stIf, stNx, stEx, evPs, evPnil, evPcons, stores, stor, asgT, asgTs, ee_cst, ee_glo, ee_var, ee_tup, ee_lst, ee_star, ee_bin, ee_neg, ee_cmp, ee_chn, ee_and, ee_or, ee_not, ee_ite, ee_ix, ee_sl, ee_bi, evE_fn1, evE_fn2, evE_fn3, evE_fn4, evBr, evBi, evBin, evCmp, evUn, evChn, evSl, evPart, partD, slD, evDisp, evStar, spread, seqD, evOs, evConsO, evNilO, opnd, gets, Opn.get, evC, evVar, evVs, evCons, evNil, outV, ixD, at0, at1, at2, at3, at4, at5, at6, at7, cmp_lt, cmp_le, cmp_gt, cmp_ge, cmp_eq_int, cmp_ne_int, cmp_is_none, cmp_isn_none, cmp_is_bool, cmp_isn_bool, isNoneD, add_int, sub_int, biD, negD, fz, List.replicate, lz0, lz1, lz2, lz3, lz4, lz5, lz6, lz7, lz8, m1, e]
end K43

namespace K43
open PySem EV Tab
/-! ### courses -/
def Rule.low (r : Rule) : Rat := ((1000 - r.apart : Int) : Rat) / ((1000 : Int) : Rat)
def Rule.high (r : Rule) : Rat := ((1000 + r.apart : Int) : Rat) / ((1000 : Int) : Rat)
def Rule.hostD (r : Rule) : PyData := if r.k = .U then .int (-r.apart) else rep r.low
def Rule.storeD (r : Rule) : PyData := if r.k = .U then .int 0 else rep r.high
structure Tm where
  a : Rat
  g : Rat
  c : Rat
  b : Rat
  t : Rat
  s : Rat
def Tm.D (r : Rule) (x : Tm) : PyData := .tuple [rep x.a, rep x.g, rep x.c, rep x.b, rep x.t, rep x.s, r.hostD, r.storeD]
structure Tm.Bn (x : Tm) : Prop where
  a : K43.Bn 2000 x.a
  g : K43.Bn 2000 x.g
  c : K43.Bn 2000 x.c
  b : K43.Bn 2000 x.b
  t : K43.Bn 2000 x.t
  s : K43.Bn 2000 x.s
theorem bn_low {r : Rule} (h : r.Ok) : Bn 24 r.low := by
  have h2 := h.apart
  exact Bn.frac (b := 1000) (by omega) (sz_of (by omega) (by omega)) (by decide)
theorem bn_high {r : Rule} (h : r.Ok) : Bn 24 r.high := by
  have h2 := h.apart
  exact Bn.frac (b := 1000) (by omega) (sz_of (by omega) (by omega)) (by decide)
theorem c_is_time (n : Nat) (q : Rat) : callV prg (n+2) 18 [rep q] = some (.bool true, false) := by
  rw [callV_eq p_is_time rfl]
  have e := lc_of (Φ := Phi prg (n+1)) (tg := .name 1) (k := .seq) (es := [.var 0]) (ifs := []) (elt := .fn 0 [false] [.var 1]) (own := [1]) (ρ := [fz (rep q), none]) (ρ1 := [fz (rep q), none]) (ρ3 := [fz (rep q), none]) (os := [.val (rep q)]) (ds := [rep q]) (xs := [q.num, (q.den : Int)].map .int)
    (by simp [retOf, exB, exS, stSeq, stRetE, stRetV, stRet, stAsg, stAsgT, stPar, stIf, stNx, stEx, evPs, evPnil, evPcons, stores, stor, asgT, asgTs, ee_cst, ee_glo, ee_var, ee_tup, ee_lst, ee_star, ee_bin, ee_neg, ee_cmp, ee_chn, ee_and, ee_or, ee_not, ee_ite, ee_ix, ee_sl, ee_bi, evE_fn1, evE_fn2, evE_fn3, evE_fn4, evBr, evBi, evBin, evCmp, evUn, evChn, evSl, evPart, partD, slD, evDisp, evStar, spread, seqD, evOs, evConsO, evNilO, opnd, gets, Opn.get, evC, evVar, evVs, evCons, evNil, outV, ixD, at0, at1, at2, at3, at4, at5, at6, at7, cmp_lt, cmp_le, cmp_gt, cmp_ge, cmp_eq_int, cmp_ne_int, cmp_is_none, cmp_isn_none, cmp_is_bool, cmp_isn_bool, isNoneD, add_int, sub_int, biD, negD, fz, List.replicate, lz0, lz1, lz2, lz3, lz4, lz5, lz6, lz7, lz8]) (by simp [retOf, exB, exS, stSeq, stRetE, stRetV, stRet, stAsg, stAsgT, stPar, stIf, stNx, stEx, evPs, evPnil, evPcons, stores, stor, asgT, asgTs, ee_cst, ee_glo, ee_var, ee_tup, ee_lst, ee_star, ee_bin, ee_neg, ee_cmp, ee_chn, ee_and, ee_or, ee_not, ee_ite, ee_ix, ee_sl, ee_bi, evE_fn1, evE_fn2, evE_fn3, evE_fn4, evBr, evBi, evBin, evCmp, evUn, evChn, evSl, evPart, partD, slD, evDisp, evStar, spread, seqD, evOs, evConsO, evNilO, opnd, gets, Opn.get, evC, evVar, evVs, evCons, evNil, outV, ixD, at0, at1, at2, at3, at4, at5, at6, at7, cmp_lt, cmp_le, cmp_gt, cmp_ge, cmp_eq_int, cmp_ne_int, cmp_is_none, cmp_isn_none, cmp_is_bool, cmp_isn_bool, isNoneD, add_int, sub_int, biD, negD, fz, List.replicate, lz0, lz1, lz2, lz3, lz4, lz5, lz6, lz7, lz8]) rfl rfl (turns_mapA .int (fun _ => .bool true) [q.num, (q.den : Int)] fun r hr => by
      have e1 := c_is_number n r
      simp [turn, tests, evFs, clear, retOf, exB, exS, stSeq, stRetE, stRetV, stRet, stAsg, stAsgT, stPar, stIf, stNx, stEx, evPs, evPnil, evPcons, stores, stor, asgT, asgTs, ee_cst, ee_glo, ee_var, ee_tup, ee_lst, ee_star, ee_bin, ee_neg, ee_cmp, ee_chn, ee_and, ee_or, ee_not, ee_ite, ee_ix, ee_sl, ee_bi, evE_fn1, evE_fn2, evE_fn3, evE_fn4, evBr, evBi, evBin, evCmp, evUn, evChn, evSl, evPart, partD, slD, evDisp, evStar, spread, seqD, evOs, evConsO, evNilO, opnd, gets, Opn.get, evC, evVar, evVs, evCons, evNil, outV, ixD, at0, at1, at2, at3, at4, at5, at6, at7, cmp_lt, cmp_le, cmp_gt, cmp_ge, cmp_eq_int, cmp_ne_int, cmp_is_none, cmp_isn_none, cmp_is_bool, cmp_isn_bool, isNoneD, add_int, sub_int, biD, negD, fz, List.replicate, lz0, lz1, lz2, lz3, lz4, lz5, lz6, lz7, lz8, e1]) (by simp [lz6, lz2, lz1]) rfl
  have h1 : (1 : Int) ≤ q.den := by have := q.den_pos; omega
  have h2 := c_gcd n q.num.natAbs q.den
  have h3 : (if q.num < 0 then -q.num else q.num) = ((q.num.natAbs : Nat) : Int) := by omega
  have h4 : Nat.gcd q.num.natAbs q.den = 1 := q.reduced
  rw [h4] at h2
  have h5 : rep q = .tuple [.int q.num, .int q.den] := rfl
  rw [fz] at e
  rw [h5] at e
  simp [B_is_time, h5, retOf, exB, exS, stSeq, stRetE, stRetV, stRet, stAsg, stAsgT, stPar, stIf, stNx, stEx, evPs, evPnil, evPcons, stores, stor, asgT, asgTs, ee_cst, ee_glo, ee_var, ee_tup, ee_lst, ee_star, ee_bin, ee_neg, ee_cmp, ee_chn, ee_and, ee_or, ee_not, ee_ite, ee_ix, ee_sl, ee_bi, evE_fn1, evE_fn2, evE_fn3, evE_fn4, evBr, evBi, evBin, evCmp, evUn, evChn, evSl, evPart, partD, slD, evDisp, evStar, spread, seqD, evOs, evConsO, evNilO, opnd, gets, Opn.get, evC, evVar, evVs, evCons, evNil, outV, ixD, at0, at1, at2, at3, at4, at5, at6, at7, cmp_lt, cmp_le, cmp_gt, cmp_ge, cmp_eq_int, cmp_ne_int, cmp_is_none, cmp_isn_none, cmp_is_bool, cmp_isn_bool, isNoneD, add_int, sub_int, biD, negD, fz, List.replicate, lz0, lz1, lz2, lz3, lz4, lz5, lz6, lz7, lz8, e, bolsD, h1, h2, h3]
theorem c_is_form (n : Nat) (r : Rule) (x : Tm) : callV prg (n+3) 19 [r.D, x.D r] = some (.bool true, false) := by
  rw [callV_eq p_is_form rfl]
  have e := lc_of (Φ := Phi prg (n+2)) (tg := .name 2) (k := .seq) (es := [.sl false true (.var 1) (.cst .none) (.cst (.int 6))]) (ifs := []) (elt := .fn 18 [false] [.var 2]) (own := [2]) (ρ := [fz r.D, fz (x.D r), none]) (ρ1 := [fz r.D, fz (x.D r), none]) (ρ3 := [fz r.D, fz (x.D r), none]) (os := [.val (.tuple ([x.a, x.g, x.c, x.b, x.t, x.s].map rep))]) (ds := [.tuple ([x.a, x.g, x.c, x.b, x.t, x.s].map rep)]) (xs := [x.a, x.g, x.c, x.b, x.t, x.s].map rep)
    (by simp [retOf, exB, exS, stSeq, stRetE, stRetV, stRet, stAsg, stAsgT, stPar, stIf, stNx, stEx, evPs, evPnil, evPcons, stores, stor, asgT, asgTs, ee_cst, ee_glo, ee_var, ee_tup, ee_lst, ee_star, ee_bin, ee_neg, ee_cmp, ee_chn, ee_and, ee_or, ee_not, ee_ite, ee_ix, ee_sl, ee_bi, evE_fn1, evE_fn2, evE_fn3, evE_fn4, evBr, evBi, evBin, evCmp, evUn, evChn, evSl, evPart, partD, slD, evDisp, evStar, spread, seqD, evOs, evConsO, evNilO, opnd, gets, Opn.get, evC, evVar, evVs, evCons, evNil, outV, ixD, at0, at1, at2, at3, at4, at5, at6, at7, cmp_lt, cmp_le, cmp_gt, cmp_ge, cmp_eq_int, cmp_ne_int, cmp_is_none, cmp_isn_none, cmp_is_bool, cmp_isn_bool, isNoneD, add_int, sub_int, biD, negD, fz, List.replicate, lz0, lz1, lz2, lz3, lz4, lz5, lz6, lz7, lz8, Tm.D, hi6]) (by simp [retOf, exB, exS, stSeq, stRetE, stRetV, stRet, stAsg, stAsgT, stPar, stIf, stNx, stEx, evPs, evPnil, evPcons, stores, stor, asgT, asgTs, ee_cst, ee_glo, ee_var, ee_tup, ee_lst, ee_star, ee_bin, ee_neg, ee_cmp, ee_chn, ee_and, ee_or, ee_not, ee_ite, ee_ix, ee_sl, ee_bi, evE_fn1, evE_fn2, evE_fn3, evE_fn4, evBr, evBi, evBin, evCmp, evUn, evChn, evSl, evPart, partD, slD, evDisp, evStar, spread, seqD, evOs, evConsO, evNilO, opnd, gets, Opn.get, evC, evVar, evVs, evCons, evNil, outV, ixD, at0, at1, at2, at3, at4, at5, at6, at7, cmp_lt, cmp_le, cmp_gt, cmp_ge, cmp_eq_int, cmp_ne_int, cmp_is_none, cmp_isn_none, cmp_is_bool, cmp_isn_bool, isNoneD, add_int, sub_int, biD, negD, fz, List.replicate, lz0, lz1, lz2, lz3, lz4, lz5, lz6, lz7, lz8]) rfl rfl (turns_mapA rep (fun _ => .bool true) _ fun q hq => by
      have e1 := c_is_time n q
      simp [turn, tests, evFs, clear, retOf, exB, exS, stSeq, stRetE, stRetV, stRet, stAsg, stAsgT, stPar, stIf, stNx, stEx, evPs, evPnil, evPcons, stores, stor, asgT, asgTs, ee_cst, ee_glo, ee_var, ee_tup, ee_lst, ee_star, ee_bin, ee_neg, ee_cmp, ee_chn, ee_and, ee_or, ee_not, ee_ite, ee_ix, ee_sl, ee_bi, evE_fn1, evE_fn2, evE_fn3, evE_fn4, evBr, evBi, evBin, evCmp, evUn, evChn, evSl, evPart, partD, slD, evDisp, evStar, spread, seqD, evOs, evConsO, evNilO, opnd, gets, Opn.get, evC, evVar, evVs, evCons, evNil, outV, ixD, at0, at1, at2, at3, at4, at5, at6, at7, cmp_lt, cmp_le, cmp_gt, cmp_ge, cmp_eq_int, cmp_ne_int, cmp_is_none, cmp_isn_none, cmp_is_bool, cmp_isn_bool, isNoneD, add_int, sub_int, biD, negD, fz, List.replicate, lz0, lz1, lz2, lz3, lz4, lz5, lz6, lz7, lz8, e1]) (by simp [lz6, lz2, lz1]) rfl
  have e2 := lc_of (Φ := Phi prg (n+2)) (tg := .name 2) (k := .seq) (es := [.sl true false (.var 1) (.cst (.int 6)) (.cst .none)]) (ifs := []) (elt := .ite (.cmp .eq (.ix (.var 0) (.cst (.int (0)))) (.cst (.str "until"))) (.fn 0 [false] [.var 2]) (.fn 18 [false] [.var 2])) (own := [2]) (ρ := [fz r.D, fz (x.D r), none]) (ρ1 := [fz r.D, fz (x.D r), none]) (ρ3 := [fz r.D, fz (x.D r), none]) (os := [.val (.tuple [r.hostD, r.storeD])]) (ds := [.tuple [r.hostD, r.storeD]]) (xs := [r.hostD, r.storeD])
    (by simp [retOf, exB, exS, stSeq, stRetE, stRetV, stRet, stAsg, stAsgT, stPar, stIf, stNx, stEx, evPs, evPnil, evPcons, stores, stor, asgT, asgTs, ee_cst, ee_glo, ee_var, ee_tup, ee_lst, ee_star, ee_bin, ee_neg, ee_cmp, ee_chn, ee_and, ee_or, ee_not, ee_ite, ee_ix, ee_sl, ee_bi, evE_fn1, evE_fn2, evE_fn3, evE_fn4, evBr, evBi, evBin, evCmp, evUn, evChn, evSl, evPart, partD, slD, evDisp, evStar, spread, seqD, evOs, evConsO, evNilO, opnd, gets, Opn.get, evC, evVar, evVs, evCons, evNil, outV, ixD, at0, at1, at2, at3, at4, at5, at6, at7, cmp_lt, cmp_le, cmp_gt, cmp_ge, cmp_eq_int, cmp_ne_int, cmp_is_none, cmp_isn_none, cmp_is_bool, cmp_isn_bool, isNoneD, add_int, sub_int, biD, negD, fz, List.replicate, lz0, lz1, lz2, lz3, lz4, lz5, lz6, lz7, lz8, Tm.D, lo6]) (by simp [retOf, exB, exS, stSeq, stRetE, stRetV, stRet, stAsg, stAsgT, stPar, stIf, stNx, stEx, evPs, evPnil, evPcons, stores, stor, asgT, asgTs, ee_cst, ee_glo, ee_var, ee_tup, ee_lst, ee_star, ee_bin, ee_neg, ee_cmp, ee_chn, ee_and, ee_or, ee_not, ee_ite, ee_ix, ee_sl, ee_bi, evE_fn1, evE_fn2, evE_fn3, evE_fn4, evBr, evBi, evBin, evCmp, evUn, evChn, evSl, evPart, partD, slD, evDisp, evStar, spread, seqD, evOs, evConsO, evNilO, opnd, gets, Opn.get, evC, evVar, evVs, evCons, evNil, outV, ixD, at0, at1, at2, at3, at4, at5, at6, at7, cmp_lt, cmp_le, cmp_gt, cmp_ge, cmp_eq_int, cmp_ne_int, cmp_is_none, cmp_isn_none, cmp_is_bool, cmp_isn_bool, isNoneD, add_int, sub_int, biD, negD, fz, List.replicate, lz0, lz1, lz2, lz3, lz4, lz5, lz6, lz7, lz8]) rfl rfl (turns_map (fun _ => .bool true) _ fun q hq => by
      by_cases hk : r.k = .U
      · have : ∃ i, q = .int i := by
          simp [Rule.hostD, Rule.storeD, hk] at hq
          rcases hq with rfl | rfl
          · exact ⟨_, rfl⟩
          · exact ⟨_, rfl⟩
        obtain ⟨i, rfl⟩ := this
        have e1 := c_is_number (n+1) i
        simp [turn, tests, evFs, clear, retOf, exB, exS, stSeq, stRetE, stRetV, stRet, stAsg, stAsgT, stPar, stIf, stNx, stEx, evPs, evPnil, evPcons, stores, stor, asgT, asgTs, ee_cst, ee_glo, ee_var, ee_tup, ee_lst, ee_star, ee_bin, ee_neg, ee_cmp, ee_chn, ee_and, ee_or, ee_not, ee_ite, ee_ix, ee_sl, ee_bi, evE_fn1, evE_fn2, evE_fn3, evE_fn4, evBr, evBi, evBin, evCmp, evUn, evChn, evSl, evPart, partD, slD, evDisp, evStar, spread, seqD, evOs, evConsO, evNilO, opnd, gets, Opn.get, evC, evVar, evVs, evCons, evNil, outV, ixD, at0, at1, at2, at3, at4, at5, at6, at7, cmp_lt, cmp_le, cmp_gt, cmp_ge, cmp_eq_int, cmp_ne_int, cmp_is_none, cmp_isn_none, cmp_is_bool, cmp_isn_bool, isNoneD, add_int, sub_int, biD, negD, fz, List.replicate, lz0, lz1, lz2, lz3, lz4, lz5, lz6, lz7, lz8, e1, Rule.D, k_until, hk]
      · have : ∃ i, q = rep i := by
          simp [Rule.hostD, Rule.storeD, hk] at hq
          rcases hq with rfl | rfl
          · exact ⟨_, rfl⟩
          · exact ⟨_, rfl⟩
        obtain ⟨i, rfl⟩ := this
        have e1 := c_is_time n i
        simp [turn, tests, evFs, clear, retOf, exB, exS, stSeq, stRetE, stRetV, stRet, stAsg, stAsgT, stPar, stIf, stNx, stEx, evPs, evPnil, evPcons, stores, stor, asgT, asgTs, ee_cst, ee_glo, ee_var, ee_tup, ee_lst, ee_star, ee_bin, ee_neg, ee_cmp, ee_chn, ee_and, ee_or, ee_not, ee_ite, ee_ix, ee_sl, ee_bi, evE_fn1, evE_fn2, evE_fn3, evE_fn4, evBr, evBi, evBin, evCmp, evUn, evChn, evSl, evPart, partD, slD, evDisp, evStar, spread, seqD, evOs, evConsO, evNilO, opnd, gets, Opn.get, evC, evVar, evVs, evCons, evNil, outV, ixD, at0, at1, at2, at3, at4, at5, at6, at7, cmp_lt, cmp_le, cmp_gt, cmp_ge, cmp_eq_int, cmp_ne_int, cmp_is_none, cmp_isn_none, cmp_is_bool, cmp_isn_bool, isNoneD, add_int, sub_int, biD, negD, fz, List.replicate, lz0, lz1, lz2, lz3, lz4, lz5, lz6, lz7, lz8, e1, Rule.D, k_until, hk]) (by simp [lz2]) rfl
  have h5 : x.D r = .tuple [rep x.a, rep x.g, rep x.c, rep x.b, rep x.t, rep x.s, r.hostD, r.storeD] := rfl
  rw [fz, fz] at e e2
  rw [h5] at e e2
  simp [B_is_form, h5, retOf, exB, exS, stSeq, stRetE, stRetV, stRet, stAsg, stAsgT, stPar, stIf, stNx, stEx, evPs, evPnil, evPcons, stores, stor, asgT, asgTs, ee_cst, ee_glo, ee_var, ee_tup, ee_lst, ee_star, ee_bin, ee_neg, ee_cmp, ee_chn, ee_and, ee_or, ee_not, ee_ite, ee_ix, ee_sl, ee_bi, evE_fn1, evE_fn2, evE_fn3, evE_fn4, evBr, evBi, evBin, evCmp, evUn, evChn, evSl, evPart, partD, slD, evDisp, evStar, spread, seqD, evOs, evConsO, evNilO, opnd, gets, Opn.get, evC, evVar, evVs, evCons, evNil, outV, ixD, at0, at1, at2, at3, at4, at5, at6, at7, cmp_lt, cmp_le, cmp_gt, cmp_ge, cmp_eq_int, cmp_ne_int, cmp_is_none, cmp_isn_none, cmp_is_bool, cmp_isn_bool, isNoneD, add_int, sub_int, biD, negD, fz, List.replicate, lz0, lz1, lz2, lz3, lz4, lz5, lz6, lz7, lz8, e, e2, bolsD]
theorem c_are_clocks (n : Nat) {r : Rule} (h : r.Ok) (x : Tm) : callV prg (n+6) 21 [r.D, x.D r] = some (.bool true, false) := by
  have h2 := h.apart
  rw [callV_eq p_are_clocks rfl]
  have h5 : x.D r = .tuple [rep x.a, rep x.g, rep x.c, rep x.b, rep x.t, rep x.s, r.hostD, r.storeD] := rfl
  by_cases hk : r.k = .U
  · have h6 : r.hostD = .int (-r.apart) := by rw [Rule.hostD, if_pos hk]
    have h7 : r.storeD = .int 0 := by rw [Rule.storeD, if_pos hk]
    have h8 : (if -r.apart < 0 then r.apart else -r.apart) ≤ r.apart := by split <;> omega
    simp [B_are_clocks, h5, retOf, exB, exS, stSeq, stRetE, stRetV, stRet, stAsg, stAsgT, stPar, stIf, stNx, stEx, evPs, evPnil, evPcons, stores, stor, asgT, asgTs, ee_cst, ee_glo, ee_var, ee_tup, ee_lst, ee_star, ee_bin, ee_neg, ee_cmp, ee_chn, ee_and, ee_or, ee_not, ee_ite, ee_ix, ee_sl, ee_bi, evE_fn1, evE_fn2, evE_fn3, evE_fn4, evBr, evBi, evBin, evCmp, evUn, evChn, evSl, evPart, partD, slD, evDisp, evStar, spread, seqD, evOs, evConsO, evNilO, opnd, gets, Opn.get, evC, evVar, evVs, evCons, evNil, outV, ixD, at0, at1, at2, at3, at4, at5, at6, at7, cmp_lt, cmp_le, cmp_gt, cmp_ge, cmp_eq_int, cmp_ne_int, cmp_is_none, cmp_isn_none, cmp_is_bool, cmp_isn_bool, isNoneD, add_int, sub_int, biD, negD, fz, List.replicate, lz0, lz1, lz2, lz3, lz4, lz5, lz6, lz7, lz8, Rule.D, h6, h7, k_until, hk]
    split <;> omega
  · have h6 : r.hostD = rep r.low := by rw [Rule.hostD, if_neg hk]
    have h7 : r.storeD = rep r.high := by rw [Rule.storeD, if_neg hk]
    have hle : r.low ≤ r.high := by
      have h3 : ((1000 - r.apart : Int) : Rat) ≤ ((1000 + r.apart : Int) : Rat) := Rat.intCast_le_intCast.2 (by omega)
      unfold Rule.low Rule.high
      grind
    have s1 : Sz 4000 (1000 - r.apart) := (sz_of (k := 24) (by omega) (by omega)).up (by decide)
    have s2 : Sz 4000 (1000 + r.apart) := (sz_of (k := 24) (by omega) (by omega)).up (by decide)
    have s3 : Sz 4000 ((1000 : Nat) : Int) := (show Sz 24 ((1000 : Nat) : Int) by decide).up (by decide)
    have lowb : ∀ q : Rat, Bn 4000 q → callV prg (n+5) 20 [rep q, pr (1000 - r.apart) 1000] = some (.bool (decide (q < r.low)), false) := fun q hq => by
      have := c_is_below n q.den_pos (d := 1000) (by decide) hq.1 hq.2 s1 s3
      rw [rat_eq] at this
      exact this
    have highb : ∀ q : Rat, Bn 4000 q → callV prg (n+5) 20 [pr (1000 + r.apart) 1000, rep q] = some (.bool (decide (r.high < q)), false) := fun q hq => by
      have := c_is_below n (b := 1000) (by decide) q.den_pos s2 s3 hq.1 hq.2
      rw [rat_eq] at this
      exact this
    have e := lc_of (Φ := Phi prg (n+5)) (tg := .name 7) (k := .seq) (es := [.tup [.var 3, .var 4]]) (ifs := []) (elt := .or (.fn 20 [false, false] [.var 7, .var 5]) (.fn 20 [false, false] [.var 6, .var 7])) (own := [7]) (ρ := [fz r.D, fz (x.D r), fz (.int r.apart), fz (rep r.low), fz (rep r.high), fz (pr (1000 - r.apart) 1000), fz (pr (1000 + r.apart) 1000), none]) (ρ1 := [fz r.D, fz (x.D r), fz (.int r.apart), fz (rep r.low), fz (rep r.high), fz (pr (1000 - r.apart) 1000), fz (pr (1000 + r.apart) 1000), none]) (ρ3 := [fz r.D, fz (x.D r), fz (.int r.apart), fz (rep r.low), fz (rep r.high), fz (pr (1000 - r.apart) 1000), fz (pr (1000 + r.apart) 1000), none]) (os := [.val (.tuple [rep r.low, rep r.high])]) (ds := [.tuple [rep r.low, rep r.high]]) (xs := [r.low, r.high].map rep)
      (by simp [retOf, exB, exS, stSeq, stRetE, stRetV, stRet, stAsg, stAsgT, stPar, stIf, stNx, stEx, evPs, evPnil, evPcons, stores, stor, asgT, asgTs, ee_cst, ee_glo, ee_var, ee_tup, ee_lst, ee_star, ee_bin, ee_neg, ee_cmp, ee_chn, ee_and, ee_or, ee_not, ee_ite, ee_ix, ee_sl, ee_bi, evE_fn1, evE_fn2, evE_fn3, evE_fn4, evBr, evBi, evBin, evCmp, evUn, evChn, evSl, evPart, partD, slD, evDisp, evStar, spread, seqD, evOs, evConsO, evNilO, opnd, gets, Opn.get, evC, evVar, evVs, evCons, evNil, outV, ixD, at0, at1, at2, at3, at4, at5, at6, at7, cmp_lt, cmp_le, cmp_gt, cmp_ge, cmp_eq_int, cmp_ne_int, cmp_is_none, cmp_isn_none, cmp_is_bool, cmp_isn_bool, isNoneD, add_int, sub_int, biD, negD, fz, List.replicate, lz0, lz1, lz2, lz3, lz4, lz5, lz6, lz7, lz8]) (by simp [retOf, exB, exS, stSeq, stRetE, stRetV, stRet, stAsg, stAsgT, stPar, stIf, stNx, stEx, evPs, evPnil, evPcons, stores, stor, asgT, asgTs, ee_cst, ee_glo, ee_var, ee_tup, ee_lst, ee_star, ee_bin, ee_neg, ee_cmp, ee_chn, ee_and, ee_or, ee_not, ee_ite, ee_ix, ee_sl, ee_bi, evE_fn1, evE_fn2, evE_fn3, evE_fn4, evBr, evBi, evBin, evCmp, evUn, evChn, evSl, evPart, partD, slD, evDisp, evStar, spread, seqD, evOs, evConsO, evNilO, opnd, gets, Opn.get, evC, evVar, evVs, evCons, evNil, outV, ixD, at0, at1, at2, at3, at4, at5, at6, at7, cmp_lt, cmp_le, cmp_gt, cmp_ge, cmp_eq_int, cmp_ne_int, cmp_is_none, cmp_isn_none, cmp_is_bool, cmp_isn_bool, isNoneD, add_int, sub_int, biD, negD, fz, List.replicate, lz0, lz1, lz2, lz3, lz4, lz5, lz6, lz7, lz8]) rfl rfl (turns_mapA rep (fun _ => .bool false) _ fun q hq => by
        have hq2 : r.low ≤ q ∧ q ≤ r.high ∧ Bn 4000 q := by
          simp at hq
          rcases hq with rfl | rfl
          · exact ⟨Rat.le_refl, hle, (bn_low h).up (by decide)⟩
          · exact ⟨hle, Rat.le_refl, (bn_high h).up (by decide)⟩
        have e1 := lowb q hq2.2.2
        have e2 := highb q hq2.2.2
        rw [decide_eq_false (by rw [Rat.not_lt]; exact hq2.1)] at e1
        rw [decide_eq_false (by rw [Rat.not_lt]; exact hq2.2.1)] at e2
        simp [turn, tests, evFs, clear, retOf, exB, exS, stSeq, stRetE, stRetV, stRet, stAsg, stAsgT, stPar, stIf, stNx, stEx, evPs, evPnil, evPcons, stores, stor, asgT, asgTs, ee_cst, ee_glo, ee_var, ee_tup, ee_lst, ee_star, ee_bin, ee_neg, ee_cmp, ee_chn, ee_and, ee_or, ee_not, ee_ite, ee_ix, ee_sl, ee_bi, evE_fn1, evE_fn2, evE_fn3, evE_fn4, evBr, evBi, evBin, evCmp, evUn, evChn, evSl, evPart, partD, slD, evDisp, evStar, spread, seqD, evOs, evConsO, evNilO, opnd, gets, Opn.get, evC, evVar, evVs, evCons, evNil, outV, ixD, at0, at1, at2, at3, at4, at5, at6, at7, cmp_lt, cmp_le, cmp_gt, cmp_ge, cmp_eq_int, cmp_ne_int, cmp_is_none, cmp_isn_none, cmp_is_bool, cmp_isn_bool, isNoneD, add_int, sub_int, biD, negD, fz, List.replicate, lz0, lz1, lz2, lz3, lz4, lz5, lz6, lz7, lz8, e1, e2]) (by simp [lz2]) rfl
    rw [fz, fz] at e
    rw [h5, h6, h7] at e
    simp only [pr] at e
    simp [Rule.D] at e
    simp [B_are_clocks, h5, retOf, exB, exS, stSeq, stRetE, stRetV, stRet, stAsg, stAsgT, stPar, stIf, stNx, stEx, evPs, evPnil, evPcons, stores, stor, asgT, asgTs, ee_cst, ee_glo, ee_var, ee_tup, ee_lst, ee_star, ee_bin, ee_neg, ee_cmp, ee_chn, ee_and, ee_or, ee_not, ee_ite, ee_ix, ee_sl, ee_bi, evE_fn1, evE_fn2, evE_fn3, evE_fn4, evBr, evBi, evBin, evCmp, evUn, evChn, evSl, evPart, partD, slD, evDisp, evStar, spread, seqD, evOs, evConsO, evNilO, opnd, gets, Opn.get, evC, evVar, evVs, evCons, evNil, outV, ixD, at0, at1, at2, at3, at4, at5, at6, at7, cmp_lt, cmp_le, cmp_gt, cmp_ge, cmp_eq_int, cmp_ne_int, cmp_is_none, cmp_isn_none, cmp_is_bool, cmp_isn_bool, isNoneD, add_int, sub_int, biD, negD, fz, List.replicate, lz0, lz1, lz2, lz3, lz4, lz5, lz6, lz7, lz8, Rule.D, h6, h7, k_until, hk, e, bolsD]
end K43

namespace K43
open PySem EV Tab
/-- the hold by the true time, whatever the clock -/
def Rule.held (r : Rule) : Rat := if r.k = .U then ((r.hold + r.apart : Int) : Rat) else r.hr
def Tm.first (r : Rule) (x : Tm) : Rat := if r.k = .U then x.g else if r.k = .A then x.a else x.c
def Tm.lend (r : Rule) (x : Tm) : Rat := x.first r + r.held
theorem bn_held {r : Rule} (h : r.Ok) : Bn 40 r.held := by
  have h1 := h.hold
  have h2 := h.apart
  unfold Rule.held
  split
  · exact Bn.int (sz_of (by omega) (by omega)) (by decide)
  · exact bn_hr h
theorem bn_first {r : Rule} {x : Tm} (hx : x.Bn) : Bn 2000 (x.first r) := by
  unfold Tm.first
  split
  · exact hx.g
  · split
    · exact hx.a
    · exact hx.c
theorem turned {q x y : Rat} (hq : q = x / y) (h0 : x ≠ 0) (hy : y ≠ 0) : ((q.den : Nat) : Int) / (q.num : Rat) = y / x := by
  have e := rat_eq q
  have e1 : (((q.den : Nat) : Int) : Rat) ≠ 0 := by
    have := q.den_pos
    simp; omega
  have e2 : (q.num : Rat) ≠ 0 := by
    intro hc
    rw [hc] at e
    apply h0
    have : q = 0 := by rw [← e]; grind
    rw [this] at hq
    grind
  generalize (((q.den : Nat) : Int) : Rat) = d at *
  generalize (q.num : Rat) = t at *
  grind
theorem ne_of_pos {i : Int} (h : 0 < i) : (i : Rat) ≠ 0 := by
  intro hc
  have := Rat.intCast_eq_zero_iff.1 hc
  omega
theorem num_pos {i j : Int} (hi : 0 < i) (hj : 0 < j) : 0 < ((i : Rat) / (j : Rat)).num := by
  have h : (0 : Rat) < (i : Rat) / (j : Rat) := by
    rw [Rat.lt_div_iff (Rat.intCast_pos.2 hj), Rat.zero_mul]
    exact Rat.intCast_pos.2 hi
  have h2 := Rat.num_nonneg (q := (i : Rat) / (j : Rat))
  have h3 := Rat.num_eq_zero (q := (i : Rat) / (j : Rat))
  have h4 : 0 ≤ ((i : Rat) / (j : Rat)).num := h2.2 (Rat.le_of_lt h)
  have h5 : ((i : Rat) / (j : Rat)).num ≠ 0 := fun hc => by
    rw [h3.1 hc] at h
    exact absurd h Rat.lt_irrefl
  omega
/-- the first by the clock's speed -/
theorem c_turn (n : Nat) {a i : Int} (ha : Sz 24 a) (hi : 0 < i) (hi2 : i < 2 ^ 20) : callV prg (n+2) 2 [.int (((i : Rat) / ((1000 : Int) : Rat)).den : Nat), .int ((i : Rat) / ((1000 : Int) : Rat)).num] = some (rep (((1000 : Int) : Rat) / (i : Rat)), false) := by
  have h1 := num_pos hi (j := 1000) (by decide)
  have h2 : Bn 24 ((i : Rat) / ((1000 : Int) : Rat)) := Bn.frac (b := 1000) (by decide) (sz_of (by omega) (by omega)) (by decide)
  have h3 : ((i : Rat) / ((1000 : Int) : Rat)).num < 2 ^ 24 := by
    have := h2.1
    unfold Sz at this
    omega
  have := z_fraction n (a := (((i : Rat) / ((1000 : Int) : Rat)).den : Nat)) h1 h3
  rw [turned rfl (ne_of_pos hi) (ne_of_pos (by decide))] at this
  exact this
theorem c_lease_end (n : Nat) {r : Rule} (h : r.Ok) {x : Tm} (hx : x.Bn) : callV prg (n+4) 22 [r.D, x.D r] = some (rep (x.lend r), false) := by
  have h1 := h.hold
  have h2 := h.apart
  rw [callV_eq p_lease_end rfl]
  have h5 : x.D r = .tuple [rep x.a, rep x.g, rep x.c, rep x.b, rep x.t, rep x.s, r.hostD, r.storeD] := rfl
  have hp := r_plus n ((bn_first (r := r) hx).up (by decide)) ((bn_held h).up (by decide))
  have hl : x.lend r = x.first r + r.held := rfl
  rw [← hl] at hp
  by_cases hk : r.k = .U
  · have h6 : r.hostD = .int (-r.apart) := by rw [Rule.hostD, if_pos hk]
    have h7 : r.storeD = .int 0 := by rw [Rule.storeD, if_pos hk]
    have h8 : rep r.held = .tuple [.int (r.hold + r.apart), .int 1] := by rw [Rule.held, if_pos hk]; rfl
    have h9 : x.first r = x.g := by rw [Tm.first, if_pos hk]
    rw [h8, h9] at hp
    have e : r.hold - -r.apart = r.hold + r.apart := by omega
    simp [B_lease_end, h5, retOf, exB, exS, stSeq, stRetE, stRetV, stRet, stAsg, stAsgT, stPar, stIf, stNx, stEx, evPs, evPnil, evPcons, stores, stor, asgT, asgTs, ee_cst, ee_glo, ee_var, ee_tup, ee_lst, ee_star, ee_bin, ee_neg, ee_cmp, ee_chn, ee_and, ee_or, ee_not, ee_ite, ee_ix, ee_sl, ee_bi, evE_fn1, evE_fn2, evE_fn3, evE_fn4, evBr, evBi, evBin, evCmp, evUn, evChn, evSl, evPart, partD, slD, evDisp, evStar, spread, seqD, evOs, evConsO, evNilO, opnd, gets, Opn.get, evC, evVar, evVs, evCons, evNil, outV, ixD, at0, at1, at2, at3, at4, at5, at6, at7, cmp_lt, cmp_le, cmp_gt, cmp_ge, cmp_eq_int, cmp_ne_int, cmp_is_none, cmp_isn_none, cmp_is_bool, cmp_isn_bool, isNoneD, add_int, sub_int, biD, negD, fz, List.replicate, lz0, lz1, lz2, lz3, lz4, lz5, lz6, lz7, lz8, Rule.D, h6, h7, k_until, hk, e, hp]
  · have h6 : r.hostD = .tuple [.int r.low.num, .int r.low.den] := by rw [Rule.hostD, if_neg hk]; rfl
    have e1 : callV prg (n+1+2) 2 [.int r.low.den, .int r.low.num] = some (rep (((1000 : Int) : Rat) / ((1000 - r.apart : Int) : Rat)), false) := c_turn (n+1) (a := 0) (by decide) (by omega) (by omega)
    have hb : Bn 24 (((1000 : Int) : Rat) / ((1000 - r.apart : Int) : Rat)) := by
      obtain ⟨m, hm⟩ : ∃ m : Nat, 1000 - r.apart = m := ⟨(1000 - r.apart).toNat, by omega⟩
      rw [hm]
      exact Bn.frac (by omega) (by decide) (sz_of (by omega) (by omega))
    have e2 := r_times n (p := (r.hold : Rat)) ((Bn.int (sz_of (k := 24) h1.1 h1.2) (by decide)).up (by decide)) (hb.up (by decide))
    have e3 : (r.hold : Rat) * (((1000 : Int) : Rat) / ((1000 - r.apart : Int) : Rat)) = r.held := by
      rw [Rule.held, if_neg hk, Rule.hr, Rat.intCast_mul]
      grind
    have e4 : rep (r.hold : Rat) = .tuple [.int r.hold, .int 1] := rfl
    rw [e3, e4] at e2
    clear e3
    generalize ((1000 : Int) : Rat) / ((1000 - r.apart : Int) : Rat) = v at *
    by_cases ha : r.k = .A
    · have h9 : x.first r = x.a := by rw [Tm.first, if_neg hk, if_pos ha]
      rw [h9] at hp
      simp [B_lease_end, h5, retOf, exB, exS, stSeq, stRetE, stRetV, stRet, stAsg, stAsgT, stPar, stIf, stNx, stEx, evPs, evPnil, evPcons, stores, stor, asgT, asgTs, ee_cst, ee_glo, ee_var, ee_tup, ee_lst, ee_star, ee_bin, ee_neg, ee_cmp, ee_chn, ee_and, ee_or, ee_not, ee_ite, ee_ix, ee_sl, ee_bi, evE_fn1, evE_fn2, evE_fn3, evE_fn4, evBr, evBi, evBin, evCmp, evUn, evChn, evSl, evPart, partD, slD, evDisp, evStar, spread, seqD, evOs, evConsO, evNilO, opnd, gets, Opn.get, evC, evVar, evVs, evCons, evNil, outV, ixD, at0, at1, at2, at3, at4, at5, at6, at7, cmp_lt, cmp_le, cmp_gt, cmp_ge, cmp_eq_int, cmp_ne_int, cmp_is_none, cmp_isn_none, cmp_is_bool, cmp_isn_bool, isNoneD, add_int, sub_int, biD, negD, fz, List.replicate, lz0, lz1, lz2, lz3, lz4, lz5, lz6, lz7, lz8, Rule.D, h6, k_until, k_asked, ha, e1, e2, hp]
    · have h9 : x.first r = x.c := by rw [Tm.first, if_neg hk, if_neg ha]
      rw [h9] at hp
      simp [B_lease_end, h5, retOf, exB, exS, stSeq, stRetE, stRetV, stRet, stAsg, stAsgT, stPar, stIf, stNx, stEx, evPs, evPnil, evPcons, stores, stor, asgT, asgTs, ee_cst, ee_glo, ee_var, ee_tup, ee_lst, ee_star, ee_bin, ee_neg, ee_cmp, ee_chn, ee_and, ee_or, ee_not, ee_ite, ee_ix, ee_sl, ee_bi, evE_fn1, evE_fn2, evE_fn3, evE_fn4, evBr, evBi, evBin, evCmp, evUn, evChn, evSl, evPart, partD, slD, evDisp, evStar, spread, seqD, evOs, evConsO, evNilO, opnd, gets, Opn.get, evC, evVar, evVs, evCons, evNil, outV, ixD, at0, at1, at2, at3, at4, at5, at6, at7, cmp_lt, cmp_le, cmp_gt, cmp_ge, cmp_eq_int, cmp_ne_int, cmp_is_none, cmp_isn_none, cmp_is_bool, cmp_isn_bool, isNoneD, add_int, sub_int, biD, negD, fz, List.replicate, lz0, lz1, lz2, lz3, lz4, lz5, lz6, lz7, lz8, Rule.D, h6, k_until, k_asked, hk, ha, e1, e2, hp]
theorem c_settling (n : Nat) {r : Rule} (h : r.Ok) (x : Tm) : callV prg (n+4) 23 [r.D, x.D r] = some (rep r.sett, false) := by
  have h1 := h.wait
  have h2 := h.apart
  rw [callV_eq p_settling rfl]
  have h5 : x.D r = .tuple [rep x.a, rep x.g, rep x.c, rep x.b, rep x.t, rep x.s, r.hostD, r.storeD] := rfl
  by_cases hk : r.k = .U
  · have hl : rep r.sett = .tuple [.int r.wait, .int 1] := by rw [Rule.sett, if_pos hk]; rfl
    simp [B_settling, Rule.D, retOf, exB, exS, stSeq, stRetE, stRetV, stRet, stAsg, stAsgT, stPar, stIf, stNx, stEx, evPs, evPnil, evPcons, stores, stor, asgT, asgTs, ee_cst, ee_glo, ee_var, ee_tup, ee_lst, ee_star, ee_bin, ee_neg, ee_cmp, ee_chn, ee_and, ee_or, ee_not, ee_ite, ee_ix, ee_sl, ee_bi, evE_fn1, evE_fn2, evE_fn3, evE_fn4, evBr, evBi, evBin, evCmp, evUn, evChn, evSl, evPart, partD, slD, evDisp, evStar, spread, seqD, evOs, evConsO, evNilO, opnd, gets, Opn.get, evC, evVar, evVs, evCons, evNil, outV, ixD, at0, at1, at2, at3, at4, at5, at6, at7, cmp_lt, cmp_le, cmp_gt, cmp_ge, cmp_eq_int, cmp_ne_int, cmp_is_none, cmp_isn_none, cmp_is_bool, cmp_isn_bool, isNoneD, add_int, sub_int, biD, negD, fz, List.replicate, lz0, lz1, lz2, lz3, lz4, lz5, lz6, lz7, lz8, k_until, hk, hl]
  · have h6 : r.storeD = .tuple [.int r.high.num, .int r.high.den] := by rw [Rule.storeD, if_neg hk]; rfl
    have e1 : callV prg (n+1+2) 2 [.int r.high.den, .int r.high.num] = some (rep (((1000 : Int) : Rat) / ((1000 + r.apart : Int) : Rat)), false) := c_turn (n+1) (a := 0) (by decide) (by omega) (by omega)
    have hb : Bn 24 (((1000 : Int) : Rat) / ((1000 + r.apart : Int) : Rat)) := by
      obtain ⟨m, hm⟩ : ∃ m : Nat, 1000 + r.apart = m := ⟨(1000 + r.apart).toNat, by omega⟩
      rw [hm]
      exact Bn.frac (by omega) (by decide) (sz_of (by omega) (by omega))
    have e2 := r_times n (p := (r.wait : Rat)) ((Bn.int (sz_of (k := 24) h1.1 h1.2) (by decide)).up (by decide)) (hb.up (by decide))
    have e3 : (r.wait : Rat) * (((1000 : Int) : Rat) / ((1000 + r.apart : Int) : Rat)) = r.sett := by
      rw [Rule.sett, if_neg hk, Rule.sr, Rat.intCast_mul]
      grind
    have e4 : rep (r.wait : Rat) = .tuple [.int r.wait, .int 1] := rfl
    rw [e3, e4] at e2
    clear e3
    generalize ((1000 : Int) : Rat) / ((1000 + r.apart : Int) : Rat) = v at *
    simp [B_settling, h5, retOf, exB, exS, stSeq, stRetE, stRetV, stRet, stAsg, stAsgT, stPar, stIf, stNx, stEx, evPs, evPnil, evPcons, stores, stor, asgT, asgTs, ee_cst, ee_glo, ee_var, ee_tup, ee_lst, ee_star, ee_bin, ee_neg, ee_cmp, ee_chn, ee_and, ee_or, ee_not, ee_ite, ee_ix, ee_sl, ee_bi, evE_fn1, evE_fn2, evE_fn3, evE_fn4, evBr, evBi, evBin, evCmp, evUn, evChn, evSl, evPart, partD, slD, evDisp, evStar, spread, seqD, evOs, evConsO, evNilO, opnd, gets, Opn.get, evC, evVar, evVs, evCons, evNil, outV, ixD, at0, at1, at2, at3, at4, at5, at6, at7, cmp_lt, cmp_le, cmp_gt, cmp_ge, cmp_eq_int, cmp_ne_int, cmp_is_none, cmp_isn_none, cmp_is_bool, cmp_isn_bool, isNoneD, add_int, sub_int, biD, negD, fz, List.replicate, lz0, lz1, lz2, lz3, lz4, lz5, lz6, lz7, lz8, Rule.D, h6, k_until, hk, e1, e2]
theorem c_is_behind (n : Nat) {p q : Rat} {m : Int} (hp : Bn 2000 p) (hq : Bn 2000 q) (hm : Sz 24 m) : callV prg (n+6) 24 [rep p, rep q, .int m] = some (.bool (decide (p ≤ q) && decide (q ≤ p + (m : Rat))), false) := by
  rw [callV_eq p_is_behind rfl]
  have hm' : Bn 24 (m : Rat) := Bn.int hm (by decide)
  have e1 := r_below n (hq.up (by decide)) (hp.up (by decide))
  have e2 := r_plus (n+2) (hp.up (by decide)) (hm'.up (by decide))
  have e3 := r_below n ((hp.add hm').up (by decide)) (hq.up (by decide))
  have e4 : rep (m : Rat) = .tuple [.int m, .int 1] := rfl
  rw [e4] at e2
  by_cases h1 : q < p
  · have h2 : ¬ p ≤ q := by rw [Rat.not_le]; exact h1
    rw [decide_eq_true h1] at e1
    simp [B_is_behind, retOf, exB, exS, stSeq, stRetE, stRetV, stRet, stAsg, stAsgT, stPar, stIf, stNx, stEx, evPs, evPnil, evPcons, stores, stor, asgT, asgTs, ee_cst, ee_glo, ee_var, ee_tup, ee_lst, ee_star, ee_bin, ee_neg, ee_cmp, ee_chn, ee_and, ee_or, ee_not, ee_ite, ee_ix, ee_sl, ee_bi, evE_fn1, evE_fn2, evE_fn3, evE_fn4, evBr, evBi, evBin, evCmp, evUn, evChn, evSl, evPart, partD, slD, evDisp, evStar, spread, seqD, evOs, evConsO, evNilO, opnd, gets, Opn.get, evC, evVar, evVs, evCons, evNil, outV, ixD, at0, at1, at2, at3, at4, at5, at6, at7, cmp_lt, cmp_le, cmp_gt, cmp_ge, cmp_eq_int, cmp_ne_int, cmp_is_none, cmp_isn_none, cmp_is_bool, cmp_isn_bool, isNoneD, add_int, sub_int, biD, negD, fz, List.replicate, lz0, lz1, lz2, lz3, lz4, lz5, lz6, lz7, lz8, e1, h2]
  · have h2 : p ≤ q := by rw [← Rat.not_lt]; exact h1
    have h3 : (!decide (p + (m : Rat) < q)) = decide (q ≤ p + (m : Rat)) := by
      by_cases h : p + (m : Rat) < q <;> simp [h, ← Rat.not_lt]
    rw [decide_eq_false h1] at e1
    simp [B_is_behind, retOf, exB, exS, stSeq, stRetE, stRetV, stRet, stAsg, stAsgT, stPar, stIf, stNx, stEx, evPs, evPnil, evPcons, stores, stor, asgT, asgTs, ee_cst, ee_glo, ee_var, ee_tup, ee_lst, ee_star, ee_bin, ee_neg, ee_cmp, ee_chn, ee_and, ee_or, ee_not, ee_ite, ee_ix, ee_sl, ee_bi, evE_fn1, evE_fn2, evE_fn3, evE_fn4, evBr, evBi, evBin, evCmp, evUn, evChn, evSl, evPart, partD, slD, evDisp, evStar, spread, seqD, evOs, evConsO, evNilO, opnd, gets, Opn.get, evC, evVar, evVs, evCons, evNil, outV, ixD, at0, at1, at2, at3, at4, at5, at6, at7, cmp_lt, cmp_le, cmp_gt, cmp_ge, cmp_eq_int, cmp_ne_int, cmp_is_none, cmp_isn_none, cmp_is_bool, cmp_isn_bool, isNoneD, add_int, sub_int, biD, negD, fz, List.replicate, lz0, lz1, lz2, lz3, lz4, lz5, lz6, lz7, lz8, e1, e2, e3, h2, h3]
/-- no fault -/
structure Tm.Good (r : Rule) (x : Tm) : Prop where
  asked : x.a ≤ x.g
  given : x.g < 0
  came : x.g ≤ x.c ∧ x.c ≤ x.g + (r.late : Rat)
  begun : x.c ≤ x.b
  lease : x.b < x.lend r
  acted : x.b ≤ x.t ∧ x.t ≤ x.b + (r.run : Rat)
  settled : r.sett ≤ x.s
theorem bn_lend {r : Rule} (h : r.Ok) {x : Tm} (hx : x.Bn) : Bn 2100 (x.lend r) := ((bn_first hx).add (bn_held h)).up (by decide)
theorem c_course_fault (n : Nat) {r : Rule} (h : r.Ok) {x : Tm} (hx : x.Bn) (g : x.Good r) : callV prg (n+7) 25 [r.D, x.D r] = some (.none, false) := by
  rw [callV_eq p_course_fault rfl]
  have h5 : x.D r = .tuple [rep x.a, rep x.g, rep x.c, rep x.b, rep x.t, rep x.s, r.hostD, r.storeD] := rfl
  have f1 := c_is_form (n+3) r x
  have f2 := c_are_clocks n h x
  have f3 := r_below (n+1) (hx.g.up (by decide)) (hx.a.up (by decide))
  rw [decide_eq_false (by rw [Rat.not_lt]; exact g.asked)] at f3
  have f4 := r_below (n+1) (hx.g.up (by decide)) (q := 0) ((show Bn 1 0 from ⟨by decide, by decide⟩).up (by decide))
  rw [decide_eq_true g.given] at f4
  have f5 := c_is_behind n hx.g hx.c (sz_of h.late.1 h.late.2)
  rw [decide_eq_true g.came.1, decide_eq_true g.came.2] at f5
  have f6 := r_below (n+1) (hx.b.up (by decide)) (hx.c.up (by decide))
  rw [decide_eq_false (by rw [Rat.not_lt]; exact g.begun)] at f6
  have f7 := r_below (n+1) (hx.b.up (by decide)) ((bn_lend h hx).up (by decide))
  rw [decide_eq_true g.lease] at f7
  have f8 := c_lease_end (n+2) h hx
  have f9 := c_is_behind n hx.b hx.t (sz_of h.run.1 h.run.2)
  rw [decide_eq_true g.acted.1, decide_eq_true g.acted.2] at f9
  have f10 := r_below (n+1) (hx.s.up (by decide)) ((bn_sett h).up (by decide))
  rw [decide_eq_false (by rw [Rat.not_lt]; exact g.settled)] at f10
  have f11 := c_settling (n+2) h x
  have z : rep 0 = .tuple [.int 0, .int 1] := rfl
  have hd : r.D = .tuple [.str r.k.s, .int r.hold, .int r.late, .int r.apart, .int r.run, .int r.wait] := rfl
  rw [z] at f4
  rw [h5] at f1 f2 f8 f11
  rw [hd] at f1 f2 f8 f11
  simp [B_course_fault, h5, hd, retOf, exB, exS, stSeq, stRetE, stRetV, stRet, stAsg, stAsgT, stPar, stIf, stNx, stEx, evPs, evPnil, evPcons, stores, stor, asgT, asgTs, ee_cst, ee_glo, ee_var, ee_tup, ee_lst, ee_star, ee_bin, ee_neg, ee_cmp, ee_chn, ee_and, ee_or, ee_not, ee_ite, ee_ix, ee_sl, ee_bi, evE_fn1, evE_fn2, evE_fn3, evE_fn4, evBr, evBi, evBin, evCmp, evUn, evChn, evSl, evPart, partD, slD, evDisp, evStar, spread, seqD, evOs, evConsO, evNilO, opnd, gets, Opn.get, evC, evVar, evVs, evCons, evNil, outV, ixD, at0, at1, at2, at3, at4, at5, at6, at7, cmp_lt, cmp_le, cmp_gt, cmp_ge, cmp_eq_int, cmp_ne_int, cmp_is_none, cmp_isn_none, cmp_is_bool, cmp_isn_bool, isNoneD, add_int, sub_int, biD, negD, fz, List.replicate, lz0, lz1, lz2, lz3, lz4, lz5, lz6, lz7, lz8, f1, f2, f3, f4, f5, f6, f7, f8, f9, f10, f11]
theorem c_is_course (n : Nat) {r : Rule} (h : r.Ok) {x : Tm} (hx : x.Bn) (g : x.Good r) : callV prg (n+8) 26 [r.D, x.D r] = some (.bool true, false) := by
  rw [callV_eq p_is_course rfl]
  simp [B_is_course, retOf, exB, exS, stSeq, stRetE, stRetV, stRet, stAsg, stAsgT, stPar, stIf, stNx, stEx, evPs, evPnil, evPcons, stores, stor, asgT, asgTs, ee_cst, ee_glo, ee_var, ee_tup, ee_lst, ee_star, ee_bin, ee_neg, ee_cmp, ee_chn, ee_and, ee_or, ee_not, ee_ite, ee_ix, ee_sl, ee_bi, evE_fn1, evE_fn2, evE_fn3, evE_fn4, evBr, evBi, evBin, evCmp, evUn, evChn, evSl, evPart, partD, slD, evDisp, evStar, spread, seqD, evOs, evConsO, evNilO, opnd, gets, Opn.get, evC, evVar, evVs, evCons, evNil, outV, ixD, at0, at1, at2, at3, at4, at5, at6, at7, cmp_lt, cmp_le, cmp_gt, cmp_ge, cmp_eq_int, cmp_ne_int, cmp_is_none, cmp_isn_none, cmp_is_bool, cmp_isn_bool, isNoneD, add_int, sub_int, biD, negD, fz, List.replicate, lz0, lz1, lz2, lz3, lz4, lz5, lz6, lz7, lz8, c_course_fault n h hx g]
theorem c_spare (n : Nat) (r : Rule) {x : Tm} (hx : x.Bn) : callV prg (n+5) 27 [r.D, x.D r] = some (rep (x.s - x.t), false) := by
  rw [callV_eq p_spare rfl]
  have h5 : x.D r = .tuple [rep x.a, rep x.g, rep x.c, rep x.b, rep x.t, rep x.s, r.hostD, r.storeD] := rfl
  have e := r_less n (hx.s.up (by decide)) (hx.t.up (by decide))
  simp [B_spare, retOf, exB, exS, stSeq, stRetE, stRetV, stRet, stAsg, stAsgT, stPar, stIf, stNx, stEx, evPs, evPnil, evPcons, stores, stor, asgT, asgTs, ee_cst, ee_glo, ee_var, ee_tup, ee_lst, ee_star, ee_bin, ee_neg, ee_cmp, ee_chn, ee_and, ee_or, ee_not, ee_ite, ee_ix, ee_sl, ee_bi, evE_fn1, evE_fn2, evE_fn3, evE_fn4, evBr, evBi, evBin, evCmp, evUn, evChn, evSl, evPart, partD, slD, evDisp, evStar, spread, seqD, evOs, evConsO, evNilO, opnd, gets, Opn.get, evC, evVar, evVs, evCons, evNil, outV, ixD, at0, at1, at2, at3, at4, at5, at6, at7, cmp_lt, cmp_le, cmp_gt, cmp_ge, cmp_eq_int, cmp_ne_int, cmp_is_none, cmp_isn_none, cmp_is_bool, cmp_isn_bool, isNoneD, add_int, sub_int, biD, negD, fz, List.replicate, lz0, lz1, lz2, lz3, lz4, lz5, lz6, lz7, lz8, h5, e]
theorem c_is_break (n : Nat) {r : Rule} (h : r.Ok) {x : Tm} (hx : x.Bn) (g : x.Good r) (hb : x.s ≤ x.t) : callV prg (n+9) 28 [r.D, x.D r] = some (.bool true, false) := by
  rw [callV_eq p_is_break rfl]
  have e := c_spare (n+3) r hx
  have e2 : (x.s - x.t).num ≤ 0 := by
    have h1 : 0 ≤ -(x.s - x.t) := by grind
    have h2 := Rat.num_nonneg.2 h1
    rw [Rat.neg_num] at h2
    omega
  simp [B_is_break, retOf, exB, exS, stSeq, stRetE, stRetV, stRet, stAsg, stAsgT, stPar, stIf, stNx, stEx, evPs, evPnil, evPcons, stores, stor, asgT, asgTs, ee_cst, ee_glo, ee_var, ee_tup, ee_lst, ee_star, ee_bin, ee_neg, ee_cmp, ee_chn, ee_and, ee_or, ee_not, ee_ite, ee_ix, ee_sl, ee_bi, evE_fn1, evE_fn2, evE_fn3, evE_fn4, evBr, evBi, evBin, evCmp, evUn, evChn, evSl, evPart, partD, slD, evDisp, evStar, spread, seqD, evOs, evConsO, evNilO, opnd, gets, Opn.get, evC, evVar, evVs, evCons, evNil, outV, ixD, at0, at1, at2, at3, at4, at5, at6, at7, cmp_lt, cmp_le, cmp_gt, cmp_ge, cmp_eq_int, cmp_ne_int, cmp_is_none, cmp_isn_none, cmp_is_bool, cmp_isn_bool, isNoneD, add_int, sub_int, biD, negD, fz, List.replicate, lz0, lz1, lz2, lz3, lz4, lz5, lz6, lz7, lz8, c_is_course n h hx g, e, rep, pr, e2]
end K43

namespace K43
open PySem EV Tab
def Rule.gap (r : Rule) : Rat := r.last - r.sett
def Rule.lit (r : Rule) : Rat := r.gap * (((1 : Int) : Rat) / ((4 : Int) : Rat))
def Rule.came (r : Rule) : Rat := if r.k = .H then -r.lit + (r.late : Rat) else -r.lit
def Rule.beg0 (r : Rule) : Rat := r.came + r.held - r.lit
def Rule.beg (r : Rule) : Rat := if r.beg0 < r.came then r.came else r.beg0
def Rule.brk (r : Rule) : Tm := ⟨-r.lit, -r.lit, r.came, r.beg, r.beg + (r.run : Rat), r.sett⟩
theorem bn_gap {r : Rule} (h : r.Ok) : Bn 120 r.gap := ((bn_last h).sub (bn_sett h)).up (by decide)
theorem bn_lit {r : Rule} (h : r.Ok) : Bn 130 r.lit := ((bn_gap h).mul (q := ((1 : Int) : Rat) / ((4 : Int) : Rat)) (Bn.frac (k := 4) (b := 4) (by decide) (by decide) (by decide))).up (by decide)
theorem bn_int {i : Int} (h : 0 ≤ i ∧ i < 2 ^ 24) : Bn 24 (i : Rat) := Bn.int (sz_of h.1 h.2) (by decide)
theorem bn_came {r : Rule} (h : r.Ok) : Bn 160 r.came := by
  unfold Rule.came
  split
  · exact ((bn_lit h).neg.add (bn_int h.late)).up (by decide)
  · exact (bn_lit h).neg.up (by decide)
theorem bn_beg0 {r : Rule} (h : r.Ok) : Bn 340 r.beg0 := (((bn_came h).add (bn_held h)).sub (bn_lit h)).up (by decide)
theorem bn_beg {r : Rule} (h : r.Ok) : Bn 340 r.beg := by
  unfold Rule.beg
  split
  · exact (bn_came h).up (by decide)
  · exact bn_beg0 h
theorem bn_brk {r : Rule} (h : r.Ok) : r.brk.Bn := ⟨(bn_lit h).neg.up (by decide), (bn_lit h).neg.up (by decide), (bn_came h).up (by decide), (bn_beg h).up (by decide), ((bn_beg h).add (bn_int h.run)).up (by decide), (bn_sett h).up (by decide)⟩
theorem c_break_of_safe (n : Nat) {r : Rule} (h : r.Ok) (hs : r.safe = true) : callV prg (n+6) 29 [r.D] = some (.none, false) := by
  rw [callV_eq p_break_of rfl]
  have e := c_is_safe n h
  rw [hs] at e
  simp [B_break_of, retOf, exB, exS, stSeq, stRetE, stRetV, stRet, stAsg, stAsgT, stPar, stIf, stNx, stEx, evPs, evPnil, evPcons, stores, stor, asgT, asgTs, ee_cst, ee_glo, ee_var, ee_tup, ee_lst, ee_star, ee_bin, ee_neg, ee_cmp, ee_chn, ee_and, ee_or, ee_not, ee_ite, ee_ix, ee_sl, ee_bi, evE_fn1, evE_fn2, evE_fn3, evE_fn4, evBr, evBi, evBin, evCmp, evUn, evChn, evSl, evPart, partD, slD, evDisp, evStar, spread, seqD, evOs, evConsO, evNilO, opnd, gets, Opn.get, evC, evVar, evVs, evCons, evNil, outV, ixD, at0, at1, at2, at3, at4, at5, at6, at7, cmp_lt, cmp_le, cmp_gt, cmp_ge, cmp_eq_int, cmp_ne_int, cmp_is_none, cmp_isn_none, cmp_is_bool, cmp_isn_bool, isNoneD, add_int, sub_int, biD, negD, fz, List.replicate, lz0, lz1, lz2, lz3, lz4, lz5, lz6, lz7, lz8, e]
def Rule.c0 (r : Rule) : Tm := ⟨-r.lit, -r.lit, r.came, 0, 0, r.sett⟩
theorem bn_c0 {r : Rule} (h : r.Ok) : r.c0.Bn := ⟨(bn_lit h).neg.up (by decide), (bn_lit h).neg.up (by decide), (bn_came h).up (by decide), (show Bn 1 0 from ⟨by decide, by decide⟩).up (by decide), (show Bn 1 0 from ⟨by decide, by decide⟩).up (by decide), (bn_sett h).up (by decide)⟩
theorem c0_lend (r : Rule) : r.c0.lend r = r.came + r.held := by
  unfold Tm.lend Tm.first Rule.c0
  by_cases hk : r.k = .H
  · simp [hk]
  · by_cases hu : r.k = .U
    · simp [hu, Rule.came]
    · have ha : r.k = .A := by cases hr : r.k <;> simp_all
      simp [ha, Rule.came]
abbrev bE (r : Rule) (x7 x8 x9 x10 x11 x12 x13 x14 : Option Sl) : Ev := [fz r.D, fz (.str r.k.s), fz (.int r.hold), fz (.int r.late), fz (.int r.apart), fz (.int r.run), fz (.int r.wait), x7, x8, x9, x10, x11, x12, x13, x14]
theorem c_break_of (n : Nat) {r : Rule} (h : r.Ok) (hs : r.safe = false) : callV prg (n+6) 29 [r.D] = some (r.brk.D r, false) := by
  have h2 := h.apart
  rw [callV_eq p_break_of rfl, B_break_of]
  have e1 := c_is_safe n h
  rw [hs] at e1
  have e2 := c_last_act (n+1) h
  have e3 := c_first_settled (n+2) h
  have e4 : callV prg (n+1+4) 4 [rep r.last, rep r.sett] = some (rep r.gap, false) := r_less (n+1) ((bn_last h).up (by decide)) ((bn_sett h).up (by decide))
  have e5 := c_times (n+2) (c := 1) (d := 4) r.gap.den_pos (by decide) ((bn_gap h).1.up (by decide)) ((bn_gap h).2.up (by decide)) ((show Sz 4 1 by decide).up (by decide)) ((show Sz 4 ((4 : Nat) : Int) by decide).up (by decide))
  rw [rat_eq] at e5
  have e5 : callV prg (n+2+3) 5 [rep r.gap, .tuple [.int 1, .int 4]] = some (rep r.lit, false) := e5
  have l1 : rep r.lit = .tuple [.int r.lit.num, .int r.lit.den] := rfl
  have e6 : callV prg (n+3+2) 2 [.int (1000 - r.apart), .int 1000] = some (rep r.low, false) := z_fraction (n+3) (by decide) (by decide)
  have e7 : callV prg (n+3+2) 2 [.int (1000 + r.apart), .int 1000] = some (rep r.high, false) := z_fraction (n+3) (by decide) (by decide)
  have e8 := r_plus (n+2) ((bn_lit h).neg.up (by decide)) ((bn_int h.late).up (by decide))
  rw [show rep (r.late : Rat) = .tuple [.int r.late, .int 1] from rfl] at e8
  have e9 := c_lease_end (n+1) h (bn_c0 h)
  rw [c0_lend] at e9
  have e11 : callV prg (n+1+4) 4 [rep (r.came + r.held), rep r.lit] = some (rep r.beg0, false) := r_less (n+1) (((bn_came h).add (bn_held h)).up (by decide)) ((bn_lit h).up (by decide))
  have e12 := r_below n ((bn_beg0 h).up (by decide)) ((bn_came h).up (by decide))
  have e13 := r_plus (n+2) ((bn_beg h).up (by decide)) ((bn_int h.run).up (by decide))
  rw [show rep (r.run : Rat) = .tuple [.int r.run, .int 1] from rfl] at e13
  generalize hS : r.came + r.held = S at *
  have hd : r.D = .tuple [.str r.k.s, .int r.hold, .int r.late, .int r.apart, .int r.run, .int r.wait] := rfl
  refine st_nx (ρ' := [fz r.D, none, none, none, none, none, none, none, none, none, none, none, none, none, none]) (by simp [retOf, exB, exS, stSeq, stRetE, stRetV, stRet, stAsg, stAsgT, stPar, stIf, stNx, stEx, evPs, evPnil, evPcons, stores, stor, asgT, asgTs, ee_cst, ee_glo, ee_var, ee_tup, ee_lst, ee_star, ee_bin, ee_neg, ee_cmp, ee_chn, ee_and, ee_or, ee_not, ee_ite, ee_ix, ee_sl, ee_bi, evE_fn1, evE_fn2, evE_fn3, evE_fn4, evBr, evBi, evBin, evCmp, evUn, evChn, evSl, evPart, partD, slD, evDisp, evStar, spread, seqD, evOs, evConsO, evNilO, opnd, gets, Opn.get, evC, evVar, evVs, evCons, evNil, outV, ixD, at0, at1, at2, at3, at4, at5, at6, at7, cmp_lt, cmp_le, cmp_gt, cmp_ge, cmp_eq_int, cmp_ne_int, cmp_is_none, cmp_isn_none, cmp_is_bool, cmp_isn_bool, isNoneD, add_int, sub_int, biD, negD, fz, List.replicate, lz0, lz1, lz2, lz3, lz4, lz5, lz6, lz7, lz8, e1]) ?_
  refine st_nx (ρ' := bE r none none none none none none none none) (by simp [retOf, exB, exS, stSeq, stRetE, stRetV, stRet, stAsg, stAsgT, stPar, stIf, stNx, stEx, evPs, evPnil, evPcons, stores, stor, asgT, asgTs, ee_cst, ee_glo, ee_var, ee_tup, ee_lst, ee_star, ee_bin, ee_neg, ee_cmp, ee_chn, ee_and, ee_or, ee_not, ee_ite, ee_ix, ee_sl, ee_bi, evE_fn1, evE_fn2, evE_fn3, evE_fn4, evBr, evBi, evBin, evCmp, evUn, evChn, evSl, evPart, partD, slD, evDisp, evStar, spread, seqD, evOs, evConsO, evNilO, opnd, gets, Opn.get, evC, evVar, evVs, evCons, evNil, outV, ixD, at0, at1, at2, at3, at4, at5, at6, at7, cmp_lt, cmp_le, cmp_gt, cmp_ge, cmp_eq_int, cmp_ne_int, cmp_is_none, cmp_isn_none, cmp_is_bool, cmp_isn_bool, isNoneD, add_int, sub_int, biD, negD, fz, List.replicate, lz0, lz1, lz2, lz3, lz4, lz5, lz6, lz7, lz8, hd]) ?_
  refine st_nx (ρ' := bE r (fz (rep r.gap)) none none none none none none none) (by simp [retOf, exB, exS, stSeq, stRetE, stRetV, stRet, stAsg, stAsgT, stPar, stIf, stNx, stEx, evPs, evPnil, evPcons, stores, stor, asgT, asgTs, ee_cst, ee_glo, ee_var, ee_tup, ee_lst, ee_star, ee_bin, ee_neg, ee_cmp, ee_chn, ee_and, ee_or, ee_not, ee_ite, ee_ix, ee_sl, ee_bi, evE_fn1, evE_fn2, evE_fn3, evE_fn4, evBr, evBi, evBin, evCmp, evUn, evChn, evSl, evPart, partD, slD, evDisp, evStar, spread, seqD, evOs, evConsO, evNilO, opnd, gets, Opn.get, evC, evVar, evVs, evCons, evNil, outV, ixD, at0, at1, at2, at3, at4, at5, at6, at7, cmp_lt, cmp_le, cmp_gt, cmp_ge, cmp_eq_int, cmp_ne_int, cmp_is_none, cmp_isn_none, cmp_is_bool, cmp_isn_bool, isNoneD, add_int, sub_int, biD, negD, fz, List.replicate, lz0, lz1, lz2, lz3, lz4, lz5, lz6, lz7, lz8, e2, e3, e4]) ?_
  refine st_nx (ρ' := bE r (fz (rep r.gap)) (fz (rep r.lit)) none none none none none none) (by simp [retOf, exB, exS, stSeq, stRetE, stRetV, stRet, stAsg, stAsgT, stPar, stIf, stNx, stEx, evPs, evPnil, evPcons, stores, stor, asgT, asgTs, ee_cst, ee_glo, ee_var, ee_tup, ee_lst, ee_star, ee_bin, ee_neg, ee_cmp, ee_chn, ee_and, ee_or, ee_not, ee_ite, ee_ix, ee_sl, ee_bi, evE_fn1, evE_fn2, evE_fn3, evE_fn4, evBr, evBi, evBin, evCmp, evUn, evChn, evSl, evPart, partD, slD, evDisp, evStar, spread, seqD, evOs, evConsO, evNilO, opnd, gets, Opn.get, evC, evVar, evVs, evCons, evNil, outV, ixD, at0, at1, at2, at3, at4, at5, at6, at7, cmp_lt, cmp_le, cmp_gt, cmp_ge, cmp_eq_int, cmp_ne_int, cmp_is_none, cmp_isn_none, cmp_is_bool, cmp_isn_bool, isNoneD, add_int, sub_int, biD, negD, fz, List.replicate, lz0, lz1, lz2, lz3, lz4, lz5, lz6, lz7, lz8, e5]) ?_
  refine st_nx (ρ' := bE r (fz (rep r.gap)) (fz (rep r.lit)) (fz (rep (-r.lit))) none none none none none) (by simp [retOf, exB, exS, stSeq, stRetE, stRetV, stRet, stAsg, stAsgT, stPar, stIf, stNx, stEx, evPs, evPnil, evPcons, stores, stor, asgT, asgTs, ee_cst, ee_glo, ee_var, ee_tup, ee_lst, ee_star, ee_bin, ee_neg, ee_cmp, ee_chn, ee_and, ee_or, ee_not, ee_ite, ee_ix, ee_sl, ee_bi, evE_fn1, evE_fn2, evE_fn3, evE_fn4, evBr, evBi, evBin, evCmp, evUn, evChn, evSl, evPart, partD, slD, evDisp, evStar, spread, seqD, evOs, evConsO, evNilO, opnd, gets, Opn.get, evC, evVar, evVs, evCons, evNil, outV, ixD, at0, at1, at2, at3, at4, at5, at6, at7, cmp_lt, cmp_le, cmp_gt, cmp_ge, cmp_eq_int, cmp_ne_int, cmp_is_none, cmp_isn_none, cmp_is_bool, cmp_isn_bool, isNoneD, add_int, sub_int, biD, negD, fz, List.replicate, lz0, lz1, lz2, lz3, lz4, lz5, lz6, lz7, lz8, rep, pr]) ?_
  refine st_nx (ρ' := bE r (fz (rep r.gap)) (fz (rep r.lit)) (fz (rep (-r.lit))) (fz (.int (-r.apart))) (fz (.int 0)) none none none) (by simp [retOf, exB, exS, stSeq, stRetE, stRetV, stRet, stAsg, stAsgT, stPar, stIf, stNx, stEx, evPs, evPnil, evPcons, stores, stor, asgT, asgTs, ee_cst, ee_glo, ee_var, ee_tup, ee_lst, ee_star, ee_bin, ee_neg, ee_cmp, ee_chn, ee_and, ee_or, ee_not, ee_ite, ee_ix, ee_sl, ee_bi, evE_fn1, evE_fn2, evE_fn3, evE_fn4, evBr, evBi, evBin, evCmp, evUn, evChn, evSl, evPart, partD, slD, evDisp, evStar, spread, seqD, evOs, evConsO, evNilO, opnd, gets, Opn.get, evC, evVar, evVs, evCons, evNil, outV, ixD, at0, at1, at2, at3, at4, at5, at6, at7, cmp_lt, cmp_le, cmp_gt, cmp_ge, cmp_eq_int, cmp_ne_int, cmp_is_none, cmp_isn_none, cmp_is_bool, cmp_isn_bool, isNoneD, add_int, sub_int, biD, negD, fz, List.replicate, lz0, lz1, lz2, lz3, lz4, lz5, lz6, lz7, lz8]) ?_
  refine st_nx (ρ' := bE r (fz (rep r.gap)) (fz (rep r.lit)) (fz (rep (-r.lit))) (fz r.hostD) (fz r.storeD) none none none) (by
    by_cases hk : r.k = .U
    · have h6 : r.hostD = .int (-r.apart) := by rw [Rule.hostD, if_pos hk]
      have h7 : r.storeD = .int 0 := by rw [Rule.storeD, if_pos hk]
      simp [retOf, exB, exS, stSeq, stRetE, stRetV, stRet, stAsg, stAsgT, stPar, stIf, stNx, stEx, evPs, evPnil, evPcons, stores, stor, asgT, asgTs, ee_cst, ee_glo, ee_var, ee_tup, ee_lst, ee_star, ee_bin, ee_neg, ee_cmp, ee_chn, ee_and, ee_or, ee_not, ee_ite, ee_ix, ee_sl, ee_bi, evE_fn1, evE_fn2, evE_fn3, evE_fn4, evBr, evBi, evBin, evCmp, evUn, evChn, evSl, evPart, partD, slD, evDisp, evStar, spread, seqD, evOs, evConsO, evNilO, opnd, gets, Opn.get, evC, evVar, evVs, evCons, evNil, outV, ixD, at0, at1, at2, at3, at4, at5, at6, at7, cmp_lt, cmp_le, cmp_gt, cmp_ge, cmp_eq_int, cmp_ne_int, cmp_is_none, cmp_isn_none, cmp_is_bool, cmp_isn_bool, isNoneD, add_int, sub_int, biD, negD, fz, List.replicate, lz0, lz1, lz2, lz3, lz4, lz5, lz6, lz7, lz8, k_nuntil, hk, h6, h7]
    · have h6 : r.hostD = rep r.low := by rw [Rule.hostD, if_neg hk]
      have h7 : r.storeD = rep r.high := by rw [Rule.storeD, if_neg hk]
      simp [retOf, exB, exS, stSeq, stRetE, stRetV, stRet, stAsg, stAsgT, stPar, stIf, stNx, stEx, evPs, evPnil, evPcons, stores, stor, asgT, asgTs, ee_cst, ee_glo, ee_var, ee_tup, ee_lst, ee_star, ee_bin, ee_neg, ee_cmp, ee_chn, ee_and, ee_or, ee_not, ee_ite, ee_ix, ee_sl, ee_bi, evE_fn1, evE_fn2, evE_fn3, evE_fn4, evBr, evBi, evBin, evCmp, evUn, evChn, evSl, evPart, partD, slD, evDisp, evStar, spread, seqD, evOs, evConsO, evNilO, opnd, gets, Opn.get, evC, evVar, evVs, evCons, evNil, outV, ixD, at0, at1, at2, at3, at4, at5, at6, at7, cmp_lt, cmp_le, cmp_gt, cmp_ge, cmp_eq_int, cmp_ne_int, cmp_is_none, cmp_isn_none, cmp_is_bool, cmp_isn_bool, isNoneD, add_int, sub_int, biD, negD, fz, List.replicate, lz0, lz1, lz2, lz3, lz4, lz5, lz6, lz7, lz8, k_nuntil, hk, h6, h7, e6, e7]) ?_
  refine st_nx (ρ' := bE r (fz (rep r.gap)) (fz (rep r.lit)) (fz (rep (-r.lit))) (fz r.hostD) (fz r.storeD) (fz (rep r.came)) none none) (by
    by_cases hk : r.k = .H
    · simp [retOf, exB, exS, stSeq, stRetE, stRetV, stRet, stAsg, stAsgT, stPar, stIf, stNx, stEx, evPs, evPnil, evPcons, stores, stor, asgT, asgTs, ee_cst, ee_glo, ee_var, ee_tup, ee_lst, ee_star, ee_bin, ee_neg, ee_cmp, ee_chn, ee_and, ee_or, ee_not, ee_ite, ee_ix, ee_sl, ee_bi, evE_fn1, evE_fn2, evE_fn3, evE_fn4, evBr, evBi, evBin, evCmp, evUn, evChn, evSl, evPart, partD, slD, evDisp, evStar, spread, seqD, evOs, evConsO, evNilO, opnd, gets, Opn.get, evC, evVar, evVs, evCons, evNil, outV, ixD, at0, at1, at2, at3, at4, at5, at6, at7, cmp_lt, cmp_le, cmp_gt, cmp_ge, cmp_eq_int, cmp_ne_int, cmp_is_none, cmp_isn_none, cmp_is_bool, cmp_isn_bool, isNoneD, add_int, sub_int, biD, negD, fz, List.replicate, lz0, lz1, lz2, lz3, lz4, lz5, lz6, lz7, lz8, k_heard, hk, e8, Rule.came]
    · simp [retOf, exB, exS, stSeq, stRetE, stRetV, stRet, stAsg, stAsgT, stPar, stIf, stNx, stEx, evPs, evPnil, evPcons, stores, stor, asgT, asgTs, ee_cst, ee_glo, ee_var, ee_tup, ee_lst, ee_star, ee_bin, ee_neg, ee_cmp, ee_chn, ee_and, ee_or, ee_not, ee_ite, ee_ix, ee_sl, ee_bi, evE_fn1, evE_fn2, evE_fn3, evE_fn4, evBr, evBi, evBin, evCmp, evUn, evChn, evSl, evPart, partD, slD, evDisp, evStar, spread, seqD, evOs, evConsO, evNilO, opnd, gets, Opn.get, evC, evVar, evVs, evCons, evNil, outV, ixD, at0, at1, at2, at3, at4, at5, at6, at7, cmp_lt, cmp_le, cmp_gt, cmp_ge, cmp_eq_int, cmp_ne_int, cmp_is_none, cmp_isn_none, cmp_is_bool, cmp_isn_bool, isNoneD, add_int, sub_int, biD, negD, fz, List.replicate, lz0, lz1, lz2, lz3, lz4, lz5, lz6, lz7, lz8, k_heard, hk, Rule.came]) ?_
  refine st_nx (ρ' := bE r (fz (rep r.gap)) (fz (rep r.lit)) (fz (rep (-r.lit))) (fz r.hostD) (fz r.storeD) (fz (rep r.came)) (fz (r.c0.D r)) none) (by
    have z : rep 0 = .tuple [.int 0, .int 1] := rfl
    simp [retOf, exB, exS, stSeq, stRetE, stRetV, stRet, stAsg, stAsgT, stPar, stIf, stNx, stEx, evPs, evPnil, evPcons, stores, stor, asgT, asgTs, ee_cst, ee_glo, ee_var, ee_tup, ee_lst, ee_star, ee_bin, ee_neg, ee_cmp, ee_chn, ee_and, ee_or, ee_not, ee_ite, ee_ix, ee_sl, ee_bi, evE_fn1, evE_fn2, evE_fn3, evE_fn4, evBr, evBi, evBin, evCmp, evUn, evChn, evSl, evPart, partD, slD, evDisp, evStar, spread, seqD, evOs, evConsO, evNilO, opnd, gets, Opn.get, evC, evVar, evVs, evCons, evNil, outV, ixD, at0, at1, at2, at3, at4, at5, at6, at7, cmp_lt, cmp_le, cmp_gt, cmp_ge, cmp_eq_int, cmp_ne_int, cmp_is_none, cmp_isn_none, cmp_is_bool, cmp_isn_bool, isNoneD, add_int, sub_int, biD, negD, fz, List.replicate, lz0, lz1, lz2, lz3, lz4, lz5, lz6, lz7, lz8, e3, Tm.D, Rule.c0, z]) ?_
  refine st_nx (ρ' := bE r (fz (rep r.gap)) (fz (rep r.lit)) (fz (rep (-r.lit))) (fz r.hostD) (fz r.storeD) (fz (rep r.came)) (fz (r.c0.D r)) (fz (rep r.beg0))) (by simp [retOf, exB, exS, stSeq, stRetE, stRetV, stRet, stAsg, stAsgT, stPar, stIf, stNx, stEx, evPs, evPnil, evPcons, stores, stor, asgT, asgTs, ee_cst, ee_glo, ee_var, ee_tup, ee_lst, ee_star, ee_bin, ee_neg, ee_cmp, ee_chn, ee_and, ee_or, ee_not, ee_ite, ee_ix, ee_sl, ee_bi, evE_fn1, evE_fn2, evE_fn3, evE_fn4, evBr, evBi, evBin, evCmp, evUn, evChn, evSl, evPart, partD, slD, evDisp, evStar, spread, seqD, evOs, evConsO, evNilO, opnd, gets, Opn.get, evC, evVar, evVs, evCons, evNil, outV, ixD, at0, at1, at2, at3, at4, at5, at6, at7, cmp_lt, cmp_le, cmp_gt, cmp_ge, cmp_eq_int, cmp_ne_int, cmp_is_none, cmp_isn_none, cmp_is_bool, cmp_isn_bool, isNoneD, add_int, sub_int, biD, negD, fz, List.replicate, lz0, lz1, lz2, lz3, lz4, lz5, lz6, lz7, lz8, e9, e11]) ?_
  refine st_nx (ρ' := bE r (fz (rep r.gap)) (fz (rep r.lit)) (fz (rep (-r.lit))) (fz r.hostD) (fz r.storeD) (fz (rep r.came)) (fz (r.c0.D r)) (fz (rep r.beg))) (by
    by_cases hb : r.beg0 < r.came
    · rw [decide_eq_true hb] at e12
      simp [retOf, exB, exS, stSeq, stRetE, stRetV, stRet, stAsg, stAsgT, stPar, stIf, stNx, stEx, evPs, evPnil, evPcons, stores, stor, asgT, asgTs, ee_cst, ee_glo, ee_var, ee_tup, ee_lst, ee_star, ee_bin, ee_neg, ee_cmp, ee_chn, ee_and, ee_or, ee_not, ee_ite, ee_ix, ee_sl, ee_bi, evE_fn1, evE_fn2, evE_fn3, evE_fn4, evBr, evBi, evBin, evCmp, evUn, evChn, evSl, evPart, partD, slD, evDisp, evStar, spread, seqD, evOs, evConsO, evNilO, opnd, gets, Opn.get, evC, evVar, evVs, evCons, evNil, outV, ixD, at0, at1, at2, at3, at4, at5, at6, at7, cmp_lt, cmp_le, cmp_gt, cmp_ge, cmp_eq_int, cmp_ne_int, cmp_is_none, cmp_isn_none, cmp_is_bool, cmp_isn_bool, isNoneD, add_int, sub_int, biD, negD, fz, List.replicate, lz0, lz1, lz2, lz3, lz4, lz5, lz6, lz7, lz8, e12, Rule.beg, hb]
    · rw [decide_eq_false hb] at e12
      simp [retOf, exB, exS, stSeq, stRetE, stRetV, stRet, stAsg, stAsgT, stPar, stIf, stNx, stEx, evPs, evPnil, evPcons, stores, stor, asgT, asgTs, ee_cst, ee_glo, ee_var, ee_tup, ee_lst, ee_star, ee_bin, ee_neg, ee_cmp, ee_chn, ee_and, ee_or, ee_not, ee_ite, ee_ix, ee_sl, ee_bi, evE_fn1, evE_fn2, evE_fn3, evE_fn4, evBr, evBi, evBin, evCmp, evUn, evChn, evSl, evPart, partD, slD, evDisp, evStar, spread, seqD, evOs, evConsO, evNilO, opnd, gets, Opn.get, evC, evVar, evVs, evCons, evNil, outV, ixD, at0, at1, at2, at3, at4, at5, at6, at7, cmp_lt, cmp_le, cmp_gt, cmp_ge, cmp_eq_int, cmp_ne_int, cmp_is_none, cmp_isn_none, cmp_is_bool, cmp_isn_bool, isNoneD, add_int, sub_int, biD, negD, fz, List.replicate, lz0, lz1, lz2, lz3, lz4, lz5, lz6, lz7, lz8, e12, Rule.beg, hb]) ?_
  refine st_ret (ρ' := bE r (fz (rep r.gap)) (fz (rep r.lit)) (fz (rep (-r.lit))) (fz r.hostD) (fz r.storeD) (fz (rep r.came)) (fz (r.c0.D r)) (fz (rep r.beg))) (by
    simp [retOf, exB, exS, stSeq, stRetE, stRetV, stRet, stAsg, stAsgT, stPar, stIf, stNx, stEx, evPs, evPnil, evPcons, stores, stor, asgT, asgTs, ee_cst, ee_glo, ee_var, ee_tup, ee_lst, ee_star, ee_bin, ee_neg, ee_cmp, ee_chn, ee_and, ee_or, ee_not, ee_ite, ee_ix, ee_sl, ee_bi, evE_fn1, evE_fn2, evE_fn3, evE_fn4, evBr, evBi, evBin, evCmp, evUn, evChn, evSl, evPart, partD, slD, evDisp, evStar, spread, seqD, evOs, evConsO, evNilO, opnd, gets, Opn.get, evC, evVar, evVs, evCons, evNil, outV, ixD, at0, at1, at2, at3, at4, at5, at6, at7, cmp_lt, cmp_le, cmp_gt, cmp_ge, cmp_eq_int, cmp_ne_int, cmp_is_none, cmp_isn_none, cmp_is_bool, cmp_isn_bool, isNoneD, add_int, sub_int, biD, negD, fz, List.replicate, lz0, lz1, lz2, lz3, lz4, lz5, lz6, lz7, lz8, e13, Tm.D, Rule.c0, Rule.brk, hi3, lo5])
end K43

namespace K43
open PySem EV Tab
/-! ### the plain laws -/
theorem den_pos {r : Rule} (h : r.Ok) : (0 : Rat) < ((1000 - r.apart : Int) : Rat) ∧ (0 : Rat) < ((1000 + r.apart : Int) : Rat) := by
  have := h.apart
  exact ⟨Rat.intCast_pos.2 (by omega), Rat.intCast_pos.2 (by omega)⟩
theorem hr_eq {r : Rule} (h : r.Ok) : r.hr * ((1000 - r.apart : Int) : Rat) = ((r.hold * 1000 : Int) : Rat) := Rat.div_mul_cancel (Rat.ne_of_gt (den_pos h).1)
theorem sr_eq {r : Rule} (h : r.Ok) : r.sr * ((1000 + r.apart : Int) : Rat) = ((r.wait * 1000 : Int) : Rat) := Rat.div_mul_cancel (Rat.ne_of_gt (den_pos h).2)
theorem q_le {x y p q a b : Rat} (hx : x * p = a) (hy : y * q = b) (hab : a ≤ b) (hqp : q ≤ p) (hq : 0 < q) (h0 : 0 ≤ x) : x ≤ y := by
  rcases Rat.le_total (a := x) (b := y) with h | h
  · exact h
  · by_cases e : x = y
    · rw [e]; exact Rat.le_refl
    · have h1 : y < x := Rat.lt_of_le_of_ne h (Ne.symm e)
      have h2 : y * q < x * q := Rat.mul_lt_mul_of_pos_right h1 hq
      have h3 : x * q ≤ x * p := Rat.mul_le_mul_of_nonneg_left hqp h0
      rw [hx] at h3
      rw [hy] at h2
      exact absurd (Rat.le_trans h3 hab) (by rw [Rat.not_le]; grind)
theorem cast_le {i j : Int} (h : i ≤ j) : (i : Rat) ≤ (j : Rat) := Rat.intCast_le_intCast.2 h
theorem cast_nn {i : Int} (h : 0 ≤ i) : (0 : Rat) ≤ (i : Rat) := Rat.intCast_nonneg.2 h
theorem hr_nonneg {r : Rule} (h : r.Ok) : 0 ≤ r.hr := by
  rw [Rule.hr, Rat.div_def]
  exact Rat.mul_nonneg (cast_nn (by have := h.hold; omega)) (Rat.le_of_lt (Rat.inv_pos.2 (den_pos h).1))
theorem hr_pos {r : Rule} (h : r.Ok) (h0 : 0 < r.hold) : 0 < r.hr := by
  rw [Rule.hr, Rat.div_def]
  exact Rat.mul_pos (Rat.intCast_pos.2 (by omega)) (Rat.inv_pos.2 (den_pos h).1)
theorem held_pos {r : Rule} (h : r.Ok) (h0 : 0 < r.hold) : 0 < r.held := by
  have := h.apart
  unfold Rule.held
  split
  · exact Rat.intCast_pos.2 (by omega)
  · exact hr_pos h h0
theorem last_held (r : Rule) : r.last = r.held + (r.run : Rat) + (if r.k = .H then (r.late : Rat) else 0) := by
  unfold Rule.last Rule.held
  by_cases hu : r.k = .U
  · simp [hu]
    grind
  · by_cases hh : r.k = .H
    · simp [hh, Rule.moreR, Rule.more]
      grind
    · simp [hu, hh, Rule.moreR, Rule.more]
      grind
theorem gap_pos {r : Rule} (hs : r.safe = false) : 0 < r.gap := by
  have : ¬ r.last ≤ r.sett := by simpa [Rule.safe] using hs
  rw [Rat.not_le] at this
  unfold Rule.gap
  grind
theorem lit_eq (r : Rule) : r.lit * 4 = r.gap := by
  have e : (((1 : Int) : Rat) / ((4 : Int) : Rat)) * 4 = 1 := Rat.div_mul_cancel (by decide)
  rw [Rule.lit, Rat.mul_assoc, e, Rat.mul_one]
theorem lit_pos {r : Rule} (hs : r.safe = false) : 0 < r.lit := by
  have h1 := lit_eq r
  have h2 := gap_pos hs
  grind
theorem brk_good {r : Rule} (h : r.Ok) (h0 : 0 < r.hold) (hs : r.safe = false) : r.brk.Good r ∧ r.brk.s ≤ r.brk.t := by
  have g1 := gap_pos hs
  have g2 := lit_eq r
  have g3 := lit_pos hs
  have g4 := held_pos h h0
  have g5 : (0 : Rat) ≤ (r.late : Rat) := cast_nn h.late.1
  have g6 : (0 : Rat) ≤ (r.run : Rat) := cast_nn h.run.1
  have g7 := last_held r
  have g8 : r.gap = r.last - r.sett := rfl
  have g9 : r.brk.lend r = r.came + r.held := c0_lend r
  have g10 : r.beg0 = r.came + r.held - r.lit := rfl
  have g11 : r.came = -r.lit + (if r.k = .H then (r.late : Rat) else 0) := by
    unfold Rule.came
    split <;> grind
  have g12 : r.came ≤ r.beg ∧ r.beg0 ≤ r.beg ∧ r.beg < r.came + r.held := by
    unfold Rule.beg
    split
    · refine ⟨Rat.le_refl, ?_, ?_⟩ <;> grind
    · refine ⟨?_, Rat.le_refl, ?_⟩ <;> grind
  have g13 : (0 : Rat) ≤ (if r.k = .H then (r.late : Rat) else 0) ∧ (if r.k = .H then (r.late : Rat) else 0) ≤ (r.late : Rat) := by
    split
    · exact ⟨g5, Rat.le_refl⟩
    · exact ⟨Rat.le_refl, g5⟩
  generalize (if r.k = .H then (r.late : Rat) else 0) = L at *
  refine ⟨⟨?_, ?_, ⟨?_, ?_⟩, ?_, ?_, ⟨?_, ?_⟩, ?_⟩, ?_⟩
  · exact Rat.le_refl
  · show -r.lit < 0
    grind
  · show -r.lit ≤ r.came
    grind
  · show r.came ≤ -r.lit + (r.late : Rat)
    grind
  · exact g12.1
  · rw [g9]; exact g12.2.2
  · show r.beg ≤ r.beg + (r.run : Rat)
    grind
  · exact Rat.le_refl
  · exact Rat.le_refl
  · show r.sett ≤ r.beg + (r.run : Rat)
    grind
/-! ### all times so often -/
def Tm.scale (x : Tm) (m : Rat) : Tm := ⟨x.a * m, x.g * m, x.c * m, x.b * m, x.t * m, x.s * m⟩
section
variable {r : Rule} {m : Int} (hk : r.k ≠ .U)
theorem o_hr (r : Rule) (m : Int) : (r.often m).hr = r.hr * (m : Rat) := by
  unfold Rule.hr Rule.often
  simp only [Rat.intCast_mul]
  generalize ((1000 - r.apart : Int) : Rat) = d
  grind
theorem o_sr (r : Rule) (m : Int) : (r.often m).sr = r.sr * (m : Rat) := by
  unfold Rule.sr Rule.often
  simp only [Rat.intCast_mul]
  generalize ((1000 + r.apart : Int) : Rat) = d
  grind
theorem o_more (r : Rule) (m : Int) : (r.often m).moreR = r.moreR * (m : Rat) := by
  unfold Rule.moreR Rule.more Rule.often
  simp only [← Rat.intCast_mul]
  congr 1
  split <;> grind
include hk
theorem o_last : (r.often m).last = r.last * (m : Rat) := by
  have e : (r.often m).k = r.k := rfl
  rw [Rule.last, Rule.last, e, if_neg hk, if_neg hk, o_hr, o_more, Rat.add_mul]
theorem o_sett : (r.often m).sett = r.sett * (m : Rat) := by
  have e : (r.often m).k = r.k := rfl
  rw [Rule.sett, Rule.sett, e, if_neg hk, if_neg hk, o_sr]
theorem o_held : (r.often m).held = r.held * (m : Rat) := by
  have e : (r.often m).k = r.k := rfl
  rw [Rule.held, Rule.held, e, if_neg hk, if_neg hk, o_hr]
theorem o_need : (r.often m).need = r.need * (m : Rat) := by
  have e : (r.often m).k = r.k := rfl
  have e2 : (r.often m).apart = r.apart := rfl
  rw [Rule.need, Rule.need, e, if_neg hk, if_neg hk, o_last hk, e2, Rat.mul_assoc, Rat.mul_comm (m : Rat), Rat.mul_assoc]
theorem o_gap : (r.often m).gap = r.gap * (m : Rat) := by
  rw [Rule.gap, Rule.gap, o_last hk, o_sett hk]; grind
theorem o_lit : (r.often m).lit = r.lit * (m : Rat) := by
  rw [Rule.lit, Rule.lit, o_gap hk, Rat.mul_assoc, Rat.mul_comm (m : Rat), Rat.mul_assoc]
theorem o_came : (r.often m).came = r.came * (m : Rat) := by
  have e : (r.often m).k = r.k := rfl
  have e2 : (r.often m).late = r.late * m := rfl
  rw [Rule.came, Rule.came, e, o_lit hk, e2, Rat.intCast_mul]
  split <;> grind
theorem o_safe (hm : 0 < m) : (r.often m).safe = r.safe := by
  have hm' : (0 : Rat) < (m : Rat) := Rat.intCast_pos.2 hm
  rw [Rule.safe, Rule.safe, o_last hk, o_sett hk]
  congr 1
  rw [eq_iff_iff]
  exact ⟨fun h => Rat.le_of_mul_le_mul_right h hm', fun h => Rat.mul_le_mul_of_nonneg_right h (Rat.le_of_lt hm')⟩
theorem o_brk (hm : 0 < m) : (r.often m).brk = r.brk.scale (m : Rat) := by
  have hm' : (0 : Rat) < (m : Rat) := Rat.intCast_pos.2 hm
  have e1 : (r.often m).beg0 = r.beg0 * (m : Rat) := by
    rw [Rule.beg0, Rule.beg0, o_came hk, o_held hk, o_lit hk]; grind
  have e2 : (r.often m).beg = r.beg * (m : Rat) := by
    rw [Rule.beg, Rule.beg, e1, o_came hk]
    by_cases h : r.beg0 < r.came
    · rw [if_pos h, if_pos (Rat.mul_lt_mul_of_pos_right h hm')]
    · rw [if_neg h, if_neg (fun hc => h ((Rat.mul_lt_mul_right hm').1 hc))]
  have e3 : (r.often m).run = r.run * m := rfl
  rw [Rule.brk, e2, o_came hk, o_lit hk, o_sett hk, e3, Rat.intCast_mul]
  unfold Tm.scale Rule.brk
  simp only [Tm.mk.injEq]
  refine ⟨?_, ?_, trivial, trivial, ?_, trivial⟩ <;> grind
theorem o_lend (hm : 0 < m) : (r.often m).brk.lend (r.often m) = r.brk.lend r * (m : Rat) := by
  have e1 : (r.often m).brk.lend (r.often m) = (r.often m).came + (r.often m).held := c0_lend _
  have e2 : r.brk.lend r = r.came + r.held := c0_lend _
  rw [e1, e2, o_came hk, o_held hk, Rat.add_mul]
end
/-! ### the least wait -/
theorem need_pos {r : Rule} (h : r.Ok) (h0 : 0 < r.hold) : 0 < r.need := by
  have hl : 0 < r.last := by
    have g4 := held_pos h h0
    have g5 : (0 : Rat) ≤ (if r.k = .H then (r.late : Rat) else 0) := by
      split
      · exact cast_nn h.late.1
      · exact Rat.le_refl
    have g6 : (0 : Rat) ≤ (r.run : Rat) := cast_nn h.run.1
    rw [last_held]
    grind
  unfold Rule.need
  split
  · exact hl
  · refine Rat.mul_pos hl ?_
    rw [Rat.lt_div_iff (by decide), Rat.zero_mul]
    exact (den_pos h).2
theorem lw_ceil {r : Rule} (h : r.Ok) (h0 : 0 < r.hold) : r.lw = r.need.ceil := by
  have h1 := need_pos h h0
  have h2 : 0 < r.need.ceil := by
    rw [Rat.lt_ceil_iff]
    exact h1
  unfold Rule.lw
  omega
theorem safe_need {r : Rule} (h : r.Ok) : r.safe = true ↔ r.need ≤ (r.wait : Rat) := by
  have hd := den_pos h
  have hs := sr_eq h
  unfold Rule.safe Rule.need Rule.sett
  by_cases hk : r.k = .U
  · simp [hk]
  · rw [if_neg hk, if_neg hk, decide_eq_true_iff]
    have e : ∀ x : Rat, x * (((1000 + r.apart : Int) : Rat) / ((1000 : Int) : Rat)) = x * ((1000 + r.apart : Int) : Rat) / 1000 := fun x => by
      rw [Rat.div_def, Rat.div_def, Rat.mul_assoc]; rfl
    rw [e]
    generalize ((1000 + r.apart : Int) : Rat) = d at *
    rw [Rat.intCast_mul] at hs
    have h1000 : ((1000 : Int) : Rat) = 1000 := rfl
    rw [h1000] at hs
    constructor
    · intro hle
      have := Rat.mul_le_mul_of_nonneg_right hle (Rat.le_of_lt hd.2)
      rw [hs] at this
      grind
    · intro hle
      refine Rat.le_of_mul_le_mul_right ?_ hd.2
      rw [hs]
      grind
theorem safe_lw {r : Rule} (h : r.Ok) (h0 : 0 < r.hold) : r.safe = true ↔ r.lw ≤ r.wait := by
  rw [safe_need h, lw_ceil h h0, Rat.ceil_le_iff]
theorem need_wait (r : Rule) (w : Int) : ({r with wait := w} : Rule).need = r.need := rfl
theorem lw_wait (r : Rule) (w : Int) : ({r with wait := w} : Rule).lw = r.lw := rfl
theorem ceil_mono {x y : Rat} (h : x ≤ y) : x.ceil ≤ y.ceil := by
  rw [Rat.ceil_le_iff]
  exact Rat.le_trans h Rat.le_ceil
theorem lw_mono {e r : Rule} (h : e.need ≤ r.need) : e.lw ≤ r.lw := by
  have := ceil_mono h
  unfold Rule.lw
  omega
theorem safe_mono {e r : Rule} (he : e.Ok) (hr : r.Ok) (h : e.need ≤ r.need) (hw : r.wait ≤ e.wait) (hs : r.safe = true) : e.safe = true := by
  rw [safe_need he]
  rw [safe_need hr] at hs
  exact Rat.le_trans h (Rat.le_trans hs (cast_le hw))
theorem need_mono {e r : Rule} (he : e.Ok) (hr : r.Ok) (hk : e.k = r.k ∨ (e.k = .A ∧ r.k = .H)) (h1 : e.hold ≤ r.hold) (h2 : e.late ≤ r.late) (h3 : e.apart ≤ r.apart) (h4 : e.run ≤ r.run) : e.need ≤ r.need := by
  have hu : (e.k = .U ↔ r.k = .U) := by
    rcases hk with h | ⟨h, h'⟩
    · rw [h]
    · rw [h, h']; decide
  by_cases hU : r.k = .U
  · have hE := hu.2 hU
    unfold Rule.need Rule.last
    rw [if_pos hU, if_pos hE, if_pos hU, if_pos hE]
    exact cast_le (by omega)
  · have hE := fun hc => hU (hu.1 hc)
    have a1 : e.hr ≤ r.hr := q_le (hr_eq he) (hr_eq hr) (cast_le (by omega)) (cast_le (by omega)) (den_pos hr).1 (hr_nonneg he)
    have a2 : e.moreR ≤ r.moreR := by
      refine cast_le ?_
      have := hr.late
      have := he.late
      unfold Rule.more
      rcases hk with h | ⟨h, h'⟩
      · rw [h]; split <;> omega
      · rw [h, h', if_neg (by decide), if_pos rfl]; omega
    have a3 : e.last ≤ r.last := by
      unfold Rule.last
      rw [if_neg hU, if_neg hE]
      grind
    have a4 : (0 : Rat) ≤ e.last := by
      have b1 := hr_nonneg he
      have b2 : (0 : Rat) ≤ e.moreR := by
        refine cast_nn ?_
        have := he.late
        have := he.run
        unfold Rule.more
        split <;> omega
      unfold Rule.last
      rw [if_neg hE]
      grind
    have a5 : ((1000 + e.apart : Int) : Rat) / ((1000 : Int) : Rat) ≤ ((1000 + r.apart : Int) : Rat) / ((1000 : Int) : Rat) := by
      rw [Rat.div_def, Rat.div_def]
      exact Rat.mul_le_mul_of_nonneg_right (cast_le (by omega)) (Rat.le_of_lt (Rat.inv_pos.2 (by decide)))
    have a6 : (0 : Rat) ≤ ((1000 + r.apart : Int) : Rat) / ((1000 : Int) : Rat) := by
      rw [Rat.div_def]
      exact Rat.mul_nonneg (Rat.le_of_lt (den_pos hr).2) (Rat.le_of_lt (Rat.inv_pos.2 (by decide)))
    unfold Rule.need
    rw [if_neg hU, if_neg hE]
    exact Rat.le_trans (Rat.mul_le_mul_of_nonneg_left a5 a4) (Rat.mul_le_mul_of_nonneg_right a3 a6)
/-! ### neither late nor apart -/
def bareR (k : Kd) (hold run wait : Int) : Rule := ⟨k, hold, 0, 0, run, wait⟩
theorem bare_last (k : Kd) (hold run wait : Int) : (bareR k hold run wait).last = ((hold + run : Int) : Rat) := by
  unfold Rule.last bareR Rule.hr Rule.moreR Rule.more
  simp only [Rat.intCast_mul, Rat.intCast_add]
  have : ((1000 - 0 : Int) : Rat) = 1000 := rfl
  have h2 : ((1000 : Int) : Rat) = 1000 := rfl
  rw [this, h2]
  split
  · have : ((0 : Int) : Rat) = 0 := rfl
    rw [this]; grind
  · have : (if k = .H then (0 : Int) else 0) = 0 := by split <;> rfl
    have : ((0 : Int) : Rat) = 0 := rfl
    simp only [ite_self]
    grind
theorem bare_need (k : Kd) (hold run wait : Int) : (bareR k hold run wait).need = ((hold + run : Int) : Rat) := by
  have e := bare_last k hold run wait
  unfold Rule.need
  rw [e]
  split
  · rfl
  · have : ((1000 + (bareR k hold run wait).apart : Int) : Rat) / ((1000 : Int) : Rat) = 1 := by
      show ((1000 : Int) : Rat) / ((1000 : Int) : Rat) = 1
      have h : ((1000 : Int) : Rat) ≠ 0 := by decide
      grind
    rw [this, Rat.mul_one]
theorem bare_safe {k : Kd} {hold run wait : Int} (h : (bareR k hold run wait).Ok) : (bareR k hold run wait).safe = decide (hold + run ≤ wait) := by
  have := safe_need h
  rw [bare_need, Rat.intCast_le_intCast] at this
  rw [Bool.eq_iff_iff, this, decide_eq_true_iff]
  rfl
theorem bare_lw {k : Kd} {hold run wait : Int} (h0 : 1 ≤ hold) (h1 : 0 ≤ run) : (bareR k hold run wait).lw = hold + run := by
  unfold Rule.lw
  rw [bare_need, Rat.ceil_intCast]
  omega
/-! ### bounds told go along -/
theorem lw_often {r : Rule} {m : Int} (hk : r.k ≠ .U) (h : r.Ok) (ho : (r.often m).Ok) (h0 : 0 < r.hold) (hm : 0 < m) : m * (r.lw - 1) < (r.often m).lw ∧ (r.often m).lw ≤ m * r.lw := by
  have hm' : (0 : Rat) < (m : Rat) := Rat.intCast_pos.2 hm
  rw [lw_ceil h h0, lw_ceil ho (Int.mul_pos h0 hm), o_need hk]
  constructor
  · rw [Rat.lt_ceil_iff, Rat.intCast_mul, Rat.mul_comm]
    refine Rat.mul_lt_mul_of_pos_right ?_ hm'
    rw [← Rat.lt_ceil_iff]
    omega
  · rw [Rat.ceil_le_iff, Rat.intCast_mul, Rat.mul_comm (m : Rat)]
    exact Rat.mul_le_mul_of_nonneg_right Rat.le_ceil (Rat.le_of_lt hm')
theorem sz_lw {r : Rule} (h : r.Ok) : Sz 210 r.lw := by
  have h1 := (need_ok h).2.1
  have e := ceil_of r.need
  have h2 : (-r.need.num / (r.need.den : Int)).natAbs ≤ (-r.need.num).natAbs := Int.natAbs_ediv_le_natAbs _ _
  unfold Rule.lw
  have h3 : Sz 200 r.need.ceil := by
    rw [e]
    refine h1.of_le ?_
    omega
  have h4 : Sz 200 1 := by decide
  have h5 : max 1 r.need.ceil = 1 ∨ max 1 r.need.ceil = r.need.ceil := by omega
  rcases h5 with e | e <;> rw [e]
  · exact h4.up (by decide)
  · exact h3.up (by decide)
theorem c_course_often (n : Nat) (r : Rule) {x : Tm} (hx : x.Bn) {m : Int} (hm : Sz 8 m) : callV prg (n+3) 42 [x.D r, .int m] = some ((x.scale (m : Rat)).D r, false) := by
  rw [callV_eq p__law_course_often rfl]
  have e := lc_of (Φ := Phi prg (n+2)) (tg := .name 2) (k := .seq) (es := [.sl false true (.var 0) (.cst .none) (.cst (.int 6))]) (ifs := []) (elt := .fn 41 [false, false] [.var 2, .var 1]) (own := [2]) (ρ := [fz (x.D r), fz (.int m), none]) (ρ1 := [fz (x.D r), fz (.int m), none]) (ρ3 := [fz (x.D r), fz (.int m), none]) (os := [.val (.tuple ([x.a, x.g, x.c, x.b, x.t, x.s].map rep))]) (ds := [.tuple ([x.a, x.g, x.c, x.b, x.t, x.s].map rep)]) (xs := [x.a, x.g, x.c, x.b, x.t, x.s].map rep)
    (by simp [retOf, exB, exS, stSeq, stRetE, stRetV, stRet, stAsg, stAsgT, stPar, stIf, stNx, stEx, evPs, evPnil, evPcons, stores, stor, asgT, asgTs, ee_cst, ee_glo, ee_var, ee_tup, ee_lst, ee_star, ee_bin, ee_neg, ee_cmp, ee_chn, ee_and, ee_or, ee_not, ee_ite, ee_ix, ee_sl, ee_bi, evE_fn1, evE_fn2, evE_fn3, evE_fn4, evBr, evBi, evBin, evCmp, evUn, evChn, evSl, evPart, partD, slD, evDisp, evStar, spread, seqD, evOs, evConsO, evNilO, opnd, gets, Opn.get, evC, evVar, evVs, evCons, evNil, outV, ixD, at0, at1, at2, at3, at4, at5, at6, at7, cmp_lt, cmp_le, cmp_gt, cmp_ge, cmp_eq_int, cmp_ne_int, cmp_is_none, cmp_isn_none, cmp_is_bool, cmp_isn_bool, isNoneD, add_int, sub_int, biD, negD, fz, List.replicate, lz0, lz1, lz2, lz3, lz4, lz5, lz6, lz7, lz8, Tm.D, hi6]) (by simp [retOf, exB, exS, stSeq, stRetE, stRetV, stRet, stAsg, stAsgT, stPar, stIf, stNx, stEx, evPs, evPnil, evPcons, stores, stor, asgT, asgTs, ee_cst, ee_glo, ee_var, ee_tup, ee_lst, ee_star, ee_bin, ee_neg, ee_cmp, ee_chn, ee_and, ee_or, ee_not, ee_ite, ee_ix, ee_sl, ee_bi, evE_fn1, evE_fn2, evE_fn3, evE_fn4, evBr, evBi, evBin, evCmp, evUn, evChn, evSl, evPart, partD, slD, evDisp, evStar, spread, seqD, evOs, evConsO, evNilO, opnd, gets, Opn.get, evC, evVar, evVs, evCons, evNil, outV, ixD, at0, at1, at2, at3, at4, at5, at6, at7, cmp_lt, cmp_le, cmp_gt, cmp_ge, cmp_eq_int, cmp_ne_int, cmp_is_none, cmp_isn_none, cmp_is_bool, cmp_isn_bool, isNoneD, add_int, sub_int, biD, negD, fz, List.replicate, lz0, lz1, lz2, lz3, lz4, lz5, lz6, lz7, lz8]) rfl rfl (turns_mapA rep (fun q => rep (q * (m : Rat))) _ fun q hq => by
      have hq2 : Bn 3000 q := by
        simp at hq
        rcases hq with rfl | rfl | rfl | rfl | rfl | rfl
        · exact hx.a.up (by decide)
        · exact hx.g.up (by decide)
        · exact hx.c.up (by decide)
        · exact hx.b.up (by decide)
        · exact hx.t.up (by decide)
        · exact hx.s.up (by decide)
      have e1 := c_frac_often n hq2 hm
      simp [turn, tests, evFs, clear, retOf, exB, exS, stSeq, stRetE, stRetV, stRet, stAsg, stAsgT, stPar, stIf, stNx, stEx, evPs, evPnil, evPcons, stores, stor, asgT, asgTs, ee_cst, ee_glo, ee_var, ee_tup, ee_lst, ee_star, ee_bin, ee_neg, ee_cmp, ee_chn, ee_and, ee_or, ee_not, ee_ite, ee_ix, ee_sl, ee_bi, evE_fn1, evE_fn2, evE_fn3, evE_fn4, evBr, evBi, evBin, evCmp, evUn, evChn, evSl, evPart, partD, slD, evDisp, evStar, spread, seqD, evOs, evConsO, evNilO, opnd, gets, Opn.get, evC, evVar, evVs, evCons, evNil, outV, ixD, at0, at1, at2, at3, at4, at5, at6, at7, cmp_lt, cmp_le, cmp_gt, cmp_ge, cmp_eq_int, cmp_ne_int, cmp_is_none, cmp_isn_none, cmp_is_bool, cmp_isn_bool, isNoneD, add_int, sub_int, biD, negD, fz, List.replicate, lz0, lz1, lz2, lz3, lz4, lz5, lz6, lz7, lz8, e1]) (by simp [lz6]) rfl
  have h5 : x.D r = .tuple [rep x.a, rep x.g, rep x.c, rep x.b, rep x.t, rep x.s, r.hostD, r.storeD] := rfl
  rw [fz, fz] at e
  rw [h5] at e
  simp [B__law_course_often, h5, retOf, exB, exS, stSeq, stRetE, stRetV, stRet, stAsg, stAsgT, stPar, stIf, stNx, stEx, evPs, evPnil, evPcons, stores, stor, asgT, asgTs, ee_cst, ee_glo, ee_var, ee_tup, ee_lst, ee_star, ee_bin, ee_neg, ee_cmp, ee_chn, ee_and, ee_or, ee_not, ee_ite, ee_ix, ee_sl, ee_bi, evE_fn1, evE_fn2, evE_fn3, evE_fn4, evBr, evBi, evBin, evCmp, evUn, evChn, evSl, evPart, partD, slD, evDisp, evStar, spread, seqD, evOs, evConsO, evNilO, opnd, gets, Opn.get, evC, evVar, evVs, evCons, evNil, outV, ixD, at0, at1, at2, at3, at4, at5, at6, at7, cmp_lt, cmp_le, cmp_gt, cmp_ge, cmp_eq_int, cmp_ne_int, cmp_is_none, cmp_isn_none, cmp_is_bool, cmp_isn_bool, isNoneD, add_int, sub_int, biD, negD, fz, List.replicate, lz0, lz1, lz2, lz3, lz4, lz5, lz6, lz7, lz8, e, lo6, binD, Tm.scale, Tm.D]
end K43

namespace EV
open PySem
def retE (np : Nat) : Option Out → Option (D × Bool × Ev)
  | some (.ret d fr ρ) => some (d, fr, ρ.take np)
  | some (.nx ρ) => some (.none, false, ρ.take np)
  | _ => none
theorem Phi_eq {P : Prg} {n f : Nat} {nm : Str} {np ns : Nat} {B : List Sm} {args : List (Option Sl)} (h : P[f]? = some ⟨nm, np, ns, B⟩) (hl : args.length = np) : Phi P (n + 1) f args = retE np (exB (Phi P n) B (args ++ List.replicate (ns - np) none)) := by
  rw [Phi, h]
  show runF (Phi P n) ⟨nm, np, ns, B⟩ _ = _
  unfold runF
  rw [if_pos hl]
  cases e : exB (Phi P n) B (args ++ List.replicate (ns - np) none) with
  | none => rfl
  | some o => cases o <;> rfl
theorem se_nx {Φ : Orc} {np : Nat} {s : Sm} {ss : List Sm} {ρ ρ' : Ev} {x : Option (D × Bool × Ev)} (h : exS Φ s ρ = some (.nx ρ')) (k : retE np (exB Φ ss ρ') = x) : retE np (exB Φ (s :: ss) ρ) = x := by
  rw [exB, stSeq, h]
  exact k
theorem se_ret {Φ : Orc} {np : Nat} {s : Sm} {ss : List Sm} {ρ ρ' : Ev} {d : D} {fr : Bool} (h : exS Φ s ρ = some (.ret d fr ρ')) : retE np (exB Φ (s :: ss) ρ) = some (d, fr, ρ'.take np) := by
  rw [exB, stSeq, h]
  rfl
/-- a call to which the name i lends its list -/
theorem fn_lent {Φ : Orc} {f i : Nat} {e : Ex} {ρ ρ1 : Ev} {d0 d d2 d3 d' : D} {lk0 lk lk' fr2 fr3 : Bool} {o : Option Sl} (h1 : ρ[i]? = some (some ⟨d0, true, lk0⟩)) (h2 : evE Φ e ρ = some (d2, fr2, ρ1)) (h3 : ρ1[i]? = some (some ⟨d, true, lk⟩)) (h4 : Φ f [some ⟨d, true, true⟩, fz d2] = some (d3, fr3, [some ⟨d', true, lk'⟩, o])) : evE Φ (.fn f [true, false] [.var i, e]) ρ = some (d3, fr3, ρ1.set i (some ⟨d', true, lk⟩)) := by
  rw [evE, evAs, evAs, evAs]
  simp [evFn, evConsO, evNilO, opnd, evFrz, h1, h2, argsOf, argOf, h3, bors, h4, backs]
theorem fn_lent1 {Φ : Orc} {f i : Nat} {ρ : Ev} {d d3 d' : D} {lk lk' fr3 : Bool} (h3 : ρ[i]? = some (some ⟨d, true, lk⟩)) (h4 : Φ f [some ⟨d, true, true⟩] = some (d3, fr3, [some ⟨d', true, lk'⟩])) : evE Φ (.fn f [true] [.var i]) ρ = some (d3, fr3, ρ.set i (some ⟨d', true, lk⟩)) := by
  rw [evE, evAs, evAs]
  simp [evFn, evConsO, evNilO, opnd, argsOf, argOf, h3, bors, h4, backs]
theorem if_t {Φ : Orc} {c : Ex} {a b : List Sm} {ρ ρ1 : Ev} {fr : Bool} (h : evE Φ c ρ = some (.bool true, fr, ρ1)) : exS Φ (.cond c a b) ρ = exB Φ a ρ1 := by
  rw [exS, stIf, h]
  rfl
theorem if_f {Φ : Orc} {c : Ex} {a b : List Sm} {ρ ρ1 : Ev} {fr : Bool} (h : evE Φ c ρ = some (.bool false, fr, ρ1)) : exS Φ (.cond c a b) ρ = exB Φ b ρ1 := by
  rw [exS, stIf, h]
  rfl
theorem b_nx {Φ : Orc} {s : Sm} {ss : List Sm} {ρ ρ' : Ev} {x : Option Out} (h : exS Φ s ρ = some (.nx ρ')) (k : exB Φ ss ρ' = x) : exB Φ (s :: ss) ρ = x := by
  rw [exB, stSeq, h]
  exact k
theorem b_ret {Φ : Orc} {s : Sm} {ss : List Sm} {ρ ρ' : Ev} {d : D} {fr : Bool} (h : exS Φ s ρ = some (.ret d fr ρ')) : exB Φ (s :: ss) ρ = some (.ret d fr ρ') := by
  rw [exB, stSeq, h]
theorem b_nil {Φ : Orc} {ρ : Ev} : exB Φ [] ρ = some (.nx ρ) := by
  rw [exB]; rfl
theorem aug_int (a b : Int) : augD .add (.int a) (.int b) = some (.int (a + b)) := rfl
theorem ix0 : L2.ixN 4 0 = some 0 := by decide
theorem ix1 : L2.ixN 4 1 = some 1 := by decide
theorem ix2 : L2.ixN 4 2 = some 2 := by decide
theorem add_list {xs ys : List D} (h : xs.length + ys.length ≤ sizeLine) : binD .add (.list xs) (.list ys) = some (.list (xs ++ ys), true) := by simp [binD, h]
end EV
namespace K43
open PySem EV Tab
structure Bag where
  x0 : Int
  x1 : Int
  x2 : Int
  sc : List Int
def Bag.D (b : Bag) : PyData := .list [.int b.x0, .int b.x1, .int b.x2, .list (b.sc.map .int)]
structure Bag.V (b : Bag) (m : Nat) : Prop where
  h0 : 0 ≤ b.x0
  h1 : 0 ≤ b.x1 ∧ b.x1 < 2147483647
  h2 : 0 ≤ b.x2 ∧ b.x2 ≤ m
  hs : ∀ z ∈ b.sc, 0 ≤ z
  hl : b.sc.length ≤ 63
theorem cell {b : Bag} {m : Nat} (h : b.V m) : ∃ z : Int, 0 ≤ z ∧ (cutD (b.sc.map PyData.int) (some b.x2) none ++ [PyData.int 0])[0]? = some (.int z) := by
  obtain ⟨k, hk⟩ : ∃ k : Nat, b.x2 = k := ⟨b.x2.toNat, by have := h.h2; omega⟩
  rw [hk, cut_lo, ← List.map_drop]
  cases e : b.sc.drop k with
  | nil => exact ⟨0, Int.le_refl _, rfl⟩
  | cons z r => exact ⟨z, h.hs z (List.mem_of_mem_drop (i := k) (by rw [e]; simp)), rfl⟩
abbrev tE (b : Bag) (many : Int) (x2 x3 x4 x5 x6 : Option Sl) : Ev := [some ⟨b.D, true, true⟩, fz (.int many), x2, x3, x4, x5, x6]
theorem own_bag (b : Bag) (many : Int) (x2 x3 x4 x5 x6 : Option Sl) : ownL 0 (tE b many x2 x3 x4 x5 x6) = true := rfl
theorem pow18 : binD .pow (.int 10) (.int 18) = some (.int 1000000000000000000, false) := by kernel_rfl
theorem c_take (n : Nat) {b : Bag} {m : Nat} (h : b.V m) (hm : m < 10000) {many : Int} (h1 : 0 < many) (h2 : many < 2 ^ 24) : ∃ (v : Int) (b' : Bag), 0 ≤ v ∧ v < many ∧ b'.V (m + 1) ∧ Phi prg (n+1) 37 [some ⟨b.D, true, true⟩, fz (.int many)] = some (.int v, false, [some ⟨b'.D, true, true⟩, fz (.int many)]) := by
  obtain ⟨z, hz, ez⟩ := cell h
  have q1 := h.h1
  have q2 := h.h2
  have m1 := mul_int (mulOk_of (i := b.x1) (j := 48271) (a := 32) (b := 20) (sz_of (by omega) (by omega)) (by decide) (by decide))
  have m2 := mul_int (mulOk_of (i := 7919) (j := b.x2 + 1) (a := 20) (b := 20) (by decide) (sz_of (by omega) (by omega)) (by decide))
  have d1 := fun x => mod_int (a := x) (b := 2147483647) (by decide)
  have d2 := fun x => mod_int (a := x) (b := many) h1
  have d3 := fun x => div_int (a := x) (b := many) (divOk_of (a := 24) (sz_of (by omega) h2) h1 (by decide))
  have d4 := fun x => mod_int (a := x) (b := 1000000007) (by decide)
  have d5 := fun x => mod_int (a := x) (b := 998244353) (by decide)
  have d6 := fun x => div_int (a := x) (b := 7) (divOk_of (a := 24) (by decide) (by decide) (by decide))
  have al : binD .add (.list (cutD (b.sc.map .int) (some b.x2) none)) (.list [.int 0]) = some (.list (cutD (b.sc.map .int) (some b.x2) none ++ [.int 0]), true) := add_list (by
    have e1 := h.hl
    have e2 : 100 ≤ sizeLine := by decide
    unfold cutD
    simp
    omega)
  have ez : atD (cutD (b.sc.map .int) (some b.x2) none ++ [.int 0]) 0 = some (.int z) := by rw [at0]; exact ez
  rw [Phi_eq p__law_take rfl, B__law_take]
  have part : ∃ (b' : Bag) (x2 x3 : Option Sl), b'.V (m + 1) ∧ exS (Phi prg n) (.cond (.cmp .eq (.ix (.var 0) (.cst (.int (0)))) (.cst (.int (0)))) [.asg 2 (.ix (.bin .add (.sl true false (.ix (.var 0) (.cst (.int (3)))) (.ix (.var 0) (.cst (.int (2)))) (.cst .none)) (.lst [.cst (.int (0))])) (.cst (.int (0)))),
    .augix 0 (.cst (.int (2))) .add (.cst (.int (1))),
    .cond (.cmp .ge (.var 2) (.bin .pow (.cst (.int (10))) (.cst (.int (18))))) [.setix 0 (.cst (.int (0))) (.var 2)] [],
    .asg 3 (.bin .add (.bin .add (.bin .mul (.ix (.var 0) (.cst (.int (1)))) (.cst (.int (48271)))) (.bin .mod (.bi .int [.var 2]) (.cst (.int (2147483647))))) (.bin .mul (.cst (.int (7919))) (.ix (.var 0) (.cst (.int (2)))))),
    .setix 0 (.cst (.int (1))) (.bin .mod (.bi .int [.var 3]) (.cst (.int (2147483647))))] []) (tE b many none none none none none) = some (.nx (tE b' many x2 x3 none none none)) := by
    by_cases hx : b.x0 = 0
    · refine ⟨⟨if 1000000000000000000 ≤ z then z else 0, (b.x1 * 48271 + z % 2147483647 + 7919 * (b.x2 + 1)) % 2147483647, b.x2 + 1, b.sc⟩, fz (.int z), fz (.int (b.x1 * 48271 + z % 2147483647 + 7919 * (b.x2 + 1))), ⟨?_, ⟨?_, ?_⟩, ⟨?_, ?_⟩, h.hs, h.hl⟩, ?_⟩
      · show 0 ≤ (if 1000000000000000000 ≤ z then z else (0 : Int))
        split <;> omega
      · exact Int.emod_nonneg _ (by decide)
      · exact Int.emod_lt_of_pos _ (by decide)
      · show 0 ≤ b.x2 + 1
        omega
      · show b.x2 + 1 ≤ ((m + 1 : Nat) : Int)
        omega
      · rw [if_t (ρ1 := tE b many none none none none none) (fr := false) (by simp [retOf, exB, exS, stSeq, stRetE, stRetV, stRet, stAsg, stAsgT, stPar, stIf, stNx, stEx, evPs, evPnil, evPcons, stores, stor, asgT, asgTs, ee_cst, ee_glo, ee_var, ee_tup, ee_lst, ee_star, ee_bin, ee_neg, ee_cmp, ee_chn, ee_and, ee_or, ee_not, ee_ite, ee_ix, ee_sl, ee_bi, evE_fn1, evE_fn2, evE_fn3, evE_fn4, evBr, evBi, evBin, evCmp, evUn, evChn, evSl, evPart, partD, slD, evDisp, evStar, spread, seqD, evOs, evConsO, evNilO, opnd, gets, Opn.get, evC, evVar, evVs, evCons, evNil, outV, ixD, at0, at1, at2, at3, at4, at5, at6, at7, cmp_lt, cmp_le, cmp_gt, cmp_ge, cmp_eq_int, cmp_ne_int, cmp_is_none, cmp_isn_none, cmp_is_bool, cmp_isn_bool, isNoneD, add_int, sub_int, biD, negD, fz, List.replicate, lz0, lz1, lz2, lz3, lz4, lz5, lz6, lz7, lz8, Bag.D, hx])]
        refine b_nx (ρ' := tE b many (fz (.int z)) none none none none) (by simp [retOf, exB, exS, stSeq, stRetE, stRetV, stRet, stAsg, stAsgT, stPar, stIf, stNx, stEx, evPs, evPnil, evPcons, stores, stor, asgT, asgTs, ee_cst, ee_glo, ee_var, ee_tup, ee_lst, ee_star, ee_bin, ee_neg, ee_cmp, ee_chn, ee_and, ee_or, ee_not, ee_ite, ee_ix, ee_sl, ee_bi, evE_fn1, evE_fn2, evE_fn3, evE_fn4, evBr, evBi, evBin, evCmp, evUn, evChn, evSl, evPart, partD, slD, evDisp, evStar, spread, seqD, evOs, evConsO, evNilO, opnd, gets, Opn.get, evC, evVar, evVs, evCons, evNil, outV, ixD, at1, at2, at3, at4, at5, at6, at7, cmp_lt, cmp_le, cmp_gt, cmp_ge, cmp_eq_int, cmp_ne_int, cmp_is_none, cmp_isn_none, cmp_is_bool, cmp_isn_bool, isNoneD, add_int, sub_int, biD, negD, fz, List.replicate, lz0, lz1, lz2, lz3, lz4, lz5, lz6, lz7, lz8, Bag.D, at2, at3, al, ez]) ?_
        refine b_nx (ρ' := tE ⟨b.x0, b.x1, b.x2 + 1, b.sc⟩ many (fz (.int z)) none none none none) (by simp [retOf, exB, exS, stSeq, stRetE, stRetV, stRet, stAsg, stAsgT, stPar, stIf, stNx, stEx, evPs, evPnil, evPcons, stores, stor, asgT, asgTs, ee_cst, ee_glo, ee_var, ee_tup, ee_lst, ee_star, ee_bin, ee_neg, ee_cmp, ee_chn, ee_and, ee_or, ee_not, ee_ite, ee_ix, ee_sl, ee_bi, evE_fn1, evE_fn2, evE_fn3, evE_fn4, evBr, evBi, evBin, evCmp, evUn, evChn, evSl, evPart, partD, slD, evDisp, evStar, spread, seqD, evOs, evConsO, evNilO, opnd, gets, Opn.get, evC, evVar, evVs, evCons, evNil, outV, ixD, at0, at1, at2, at3, at4, at5, at6, at7, cmp_lt, cmp_le, cmp_gt, cmp_ge, cmp_eq_int, cmp_ne_int, cmp_is_none, cmp_isn_none, cmp_is_bool, cmp_isn_bool, isNoneD, add_int, sub_int, biD, negD, fz, List.replicate, lz0, lz1, lz2, lz3, lz4, lz5, lz6, lz7, lz8, Bag.D, stAugix, ownL, ownAt, aug_int, setAt, ix2]) ?_
        refine b_nx (ρ' := tE ⟨if 1000000000000000000 ≤ z then z else 0, b.x1, b.x2 + 1, b.sc⟩ many (fz (.int z)) none none none none) (by
          by_cases hz : 1000000000000000000 ≤ z <;> simp [retOf, exB, exS, stSeq, stRetE, stRetV, stRet, stAsg, stAsgT, stPar, stIf, stNx, stEx, evPs, evPnil, evPcons, stores, stor, asgT, asgTs, ee_cst, ee_glo, ee_var, ee_tup, ee_lst, ee_star, ee_bin, ee_neg, ee_cmp, ee_chn, ee_and, ee_or, ee_not, ee_ite, ee_ix, ee_sl, ee_bi, evE_fn1, evE_fn2, evE_fn3, evE_fn4, evBr, evBi, evBin, evCmp, evUn, evChn, evSl, evPart, partD, slD, evDisp, evStar, spread, seqD, evOs, evConsO, evNilO, opnd, gets, Opn.get, evC, evVar, evVs, evCons, evNil, outV, ixD, at0, at1, at2, at3, at4, at5, at6, at7, cmp_lt, cmp_le, cmp_gt, cmp_ge, cmp_eq_int, cmp_ne_int, cmp_is_none, cmp_isn_none, cmp_is_bool, cmp_isn_bool, isNoneD, add_int, sub_int, biD, negD, fz, List.replicate, lz0, lz1, lz2, lz3, lz4, lz5, lz6, lz7, lz8, Bag.D, pow18, hz, hx, stSet, ownL, setAt, ix0]) ?_
        refine b_nx (ρ' := tE ⟨if 1000000000000000000 ≤ z then z else 0, b.x1, b.x2 + 1, b.sc⟩ many (fz (.int z)) (fz (.int (b.x1 * 48271 + z % 2147483647 + 7919 * (b.x2 + 1)))) none none none) (by simp [retOf, exB, exS, stSeq, stRetE, stRetV, stRet, stAsg, stAsgT, stPar, stIf, stNx, stEx, evPs, evPnil, evPcons, stores, stor, asgT, asgTs, ee_cst, ee_glo, ee_var, ee_tup, ee_lst, ee_star, ee_bin, ee_neg, ee_cmp, ee_chn, ee_and, ee_or, ee_not, ee_ite, ee_ix, ee_sl, ee_bi, evE_fn1, evE_fn2, evE_fn3, evE_fn4, evBr, evBi, evBin, evCmp, evUn, evChn, evSl, evPart, partD, slD, evDisp, evStar, spread, seqD, evOs, evConsO, evNilO, opnd, gets, Opn.get, evC, evVar, evVs, evCons, evNil, outV, ixD, at0, at1, at2, at3, at4, at5, at6, at7, cmp_lt, cmp_le, cmp_gt, cmp_ge, cmp_eq_int, cmp_ne_int, cmp_is_none, cmp_isn_none, cmp_is_bool, cmp_isn_bool, isNoneD, add_int, sub_int, biD, negD, fz, List.replicate, lz0, lz1, lz2, lz3, lz4, lz5, lz6, lz7, lz8, Bag.D, m1, m2, d1]) ?_
        refine b_nx (ρ' := tE ⟨if 1000000000000000000 ≤ z then z else 0, (b.x1 * 48271 + z % 2147483647 + 7919 * (b.x2 + 1)) % 2147483647, b.x2 + 1, b.sc⟩ many (fz (.int z)) (fz (.int (b.x1 * 48271 + z % 2147483647 + 7919 * (b.x2 + 1)))) none none none) (by simp [retOf, exB, exS, stSeq, stRetE, stRetV, stRet, stAsg, stAsgT, stPar, stIf, stNx, stEx, evPs, evPnil, evPcons, stores, stor, asgT, asgTs, ee_cst, ee_glo, ee_var, ee_tup, ee_lst, ee_star, ee_bin, ee_neg, ee_cmp, ee_chn, ee_and, ee_or, ee_not, ee_ite, ee_ix, ee_sl, ee_bi, evE_fn1, evE_fn2, evE_fn3, evE_fn4, evBr, evBi, evBin, evCmp, evUn, evChn, evSl, evPart, partD, slD, evDisp, evStar, spread, seqD, evOs, evConsO, evNilO, opnd, gets, Opn.get, evC, evVar, evVs, evCons, evNil, outV, ixD, at0, at1, at2, at3, at4, at5, at6, at7, cmp_lt, cmp_le, cmp_gt, cmp_ge, cmp_eq_int, cmp_ne_int, cmp_is_none, cmp_isn_none, cmp_is_bool, cmp_isn_bool, isNoneD, add_int, sub_int, biD, negD, fz, List.replicate, lz0, lz1, lz2, lz3, lz4, lz5, lz6, lz7, lz8, Bag.D, d1, stSet, ownL, setAt, ix1]) b_nil
    · refine ⟨b, none, none, ⟨h.h0, h.h1, ⟨q2.1, by omega⟩, h.hs, h.hl⟩, ?_⟩
      rw [if_f (ρ1 := tE b many none none none none none) (fr := false) (by simp [retOf, exB, exS, stSeq, stRetE, stRetV, stRet, stAsg, stAsgT, stPar, stIf, stNx, stEx, evPs, evPnil, evPcons, stores, stor, asgT, asgTs, ee_cst, ee_glo, ee_var, ee_tup, ee_lst, ee_star, ee_bin, ee_neg, ee_cmp, ee_chn, ee_and, ee_or, ee_not, ee_ite, ee_ix, ee_sl, ee_bi, evE_fn1, evE_fn2, evE_fn3, evE_fn4, evBr, evBi, evBin, evCmp, evUn, evChn, evSl, evPart, partD, slD, evDisp, evStar, spread, seqD, evOs, evConsO, evNilO, opnd, gets, Opn.get, evC, evVar, evVs, evCons, evNil, outV, ixD, at0, at1, at2, at3, at4, at5, at6, at7, cmp_lt, cmp_le, cmp_gt, cmp_ge, cmp_eq_int, cmp_ne_int, cmp_is_none, cmp_isn_none, cmp_is_bool, cmp_isn_bool, isNoneD, add_int, sub_int, biD, negD, fz, List.replicate, lz0, lz1, lz2, lz3, lz4, lz5, lz6, lz7, lz8, Bag.D, hx])]
      exact b_nil
  obtain ⟨b1, x2, x3, hb, e1⟩ := part
  refine Exists.imp (p := fun v : Int => ∃ b' : Bag, 0 ≤ v ∧ v < many ∧ b'.V (m + 1) ∧ retE 2 (exB (Phi prg n) _ (tE b many none none none none none)) = some (.int v, false, [some ⟨b'.D, true, true⟩, fz (.int many)])) (fun _ h => h) ?_
  have r1 := hb.h1
  have r0 := hb.h0
  have m3 := mul_int (mulOk_of (i := b1.x1 + 1) (j := 39373) (a := 32) (b := 20) (sz_of (by omega) (by omega)) (by decide) (by decide))
  by_cases hx : 0 < b1.x0
  · refine ⟨b1.x0 % many, ⟨b1.x0 / many, b1.x1, b1.x2, b1.sc⟩, Int.emod_nonneg _ (by omega), Int.emod_lt_of_pos _ h1, ⟨Int.ediv_nonneg r0 (by omega), r1, hb.h2, hb.hs, hb.hl⟩, ?_⟩
    refine se_nx e1 ?_
    have e2 : exS (Phi prg n) (.cond (.cmp .gt (.ix (.var 0) (.cst (.int (0)))) (.cst (.int (0)))) [.asg 4 (.bin .mod (.bi .int [.ix (.var 0) (.cst (.int (0)))]) (.var 1)),
    .setix 0 (.cst (.int (0))) (.bin .fdiv (.bi .int [.ix (.var 0) (.cst (.int (0)))]) (.var 1)),
    .ret (.var 4)] []) (tE b1 many x2 x3 none none none) = some (.ret (.int (b1.x0 % many)) false (tE ⟨b1.x0 / many, b1.x1, b1.x2, b1.sc⟩ many x2 x3 (fz (.int (b1.x0 % many))) none none)) := by
      rw [if_t (ρ1 := tE b1 many x2 x3 none none none) (fr := false) (by simp [retOf, exB, exS, stSeq, stRetE, stRetV, stRet, stAsg, stAsgT, stPar, stIf, stNx, stEx, evPs, evPnil, evPcons, stores, stor, asgT, asgTs, ee_cst, ee_glo, ee_var, ee_tup, ee_lst, ee_star, ee_bin, ee_neg, ee_cmp, ee_chn, ee_and, ee_or, ee_not, ee_ite, ee_ix, ee_sl, ee_bi, evE_fn1, evE_fn2, evE_fn3, evE_fn4, evBr, evBi, evBin, evCmp, evUn, evChn, evSl, evPart, partD, slD, evDisp, evStar, spread, seqD, evOs, evConsO, evNilO, opnd, gets, Opn.get, evC, evVar, evVs, evCons, evNil, outV, ixD, at0, at1, at2, at3, at4, at5, at6, at7, cmp_lt, cmp_le, cmp_gt, cmp_ge, cmp_eq_int, cmp_ne_int, cmp_is_none, cmp_isn_none, cmp_is_bool, cmp_isn_bool, isNoneD, add_int, sub_int, biD, negD, fz, List.replicate, lz0, lz1, lz2, lz3, lz4, lz5, lz6, lz7, lz8, Bag.D, hx])]
      refine b_nx (ρ' := tE b1 many x2 x3 (fz (.int (b1.x0 % many))) none none) (by simp [retOf, exB, exS, stSeq, stRetE, stRetV, stRet, stAsg, stAsgT, stPar, stIf, stNx, stEx, evPs, evPnil, evPcons, stores, stor, asgT, asgTs, ee_cst, ee_glo, ee_var, ee_tup, ee_lst, ee_star, ee_bin, ee_neg, ee_cmp, ee_chn, ee_and, ee_or, ee_not, ee_ite, ee_ix, ee_sl, ee_bi, evE_fn1, evE_fn2, evE_fn3, evE_fn4, evBr, evBi, evBin, evCmp, evUn, evChn, evSl, evPart, partD, slD, evDisp, evStar, spread, seqD, evOs, evConsO, evNilO, opnd, gets, Opn.get, evC, evVar, evVs, evCons, evNil, outV, ixD, at0, at1, at2, at3, at4, at5, at6, at7, cmp_lt, cmp_le, cmp_gt, cmp_ge, cmp_eq_int, cmp_ne_int, cmp_is_none, cmp_isn_none, cmp_is_bool, cmp_isn_bool, isNoneD, add_int, sub_int, biD, negD, fz, List.replicate, lz0, lz1, lz2, lz3, lz4, lz5, lz6, lz7, lz8, Bag.D, d2]) ?_
      refine b_nx (ρ' := tE ⟨b1.x0 / many, b1.x1, b1.x2, b1.sc⟩ many x2 x3 (fz (.int (b1.x0 % many))) none none) (by simp [retOf, exB, exS, stSeq, stRetE, stRetV, stRet, stAsg, stAsgT, stPar, stIf, stNx, stEx, evPs, evPnil, evPcons, stores, stor, asgT, asgTs, ee_cst, ee_glo, ee_var, ee_tup, ee_lst, ee_star, ee_bin, ee_neg, ee_cmp, ee_chn, ee_and, ee_or, ee_not, ee_ite, ee_ix, ee_sl, ee_bi, evE_fn1, evE_fn2, evE_fn3, evE_fn4, evBr, evBi, evBin, evCmp, evUn, evChn, evSl, evPart, partD, slD, evDisp, evStar, spread, seqD, evOs, evConsO, evNilO, opnd, gets, Opn.get, evC, evVar, evVs, evCons, evNil, outV, ixD, at0, at1, at2, at3, at4, at5, at6, at7, cmp_lt, cmp_le, cmp_gt, cmp_ge, cmp_eq_int, cmp_ne_int, cmp_is_none, cmp_isn_none, cmp_is_bool, cmp_isn_bool, isNoneD, add_int, sub_int, biD, negD, fz, List.replicate, lz0, lz1, lz2, lz3, lz4, lz5, lz6, lz7, lz8, Bag.D, d3, stSet, ownL, setAt, ix0]) ?_
      exact b_ret (by simp [retOf, exB, exS, stSeq, stRetE, stRetV, stRet, stAsg, stAsgT, stPar, stIf, stNx, stEx, evPs, evPnil, evPcons, stores, stor, asgT, asgTs, ee_cst, ee_glo, ee_var, ee_tup, ee_lst, ee_star, ee_bin, ee_neg, ee_cmp, ee_chn, ee_and, ee_or, ee_not, ee_ite, ee_ix, ee_sl, ee_bi, evE_fn1, evE_fn2, evE_fn3, evE_fn4, evBr, evBi, evBin, evCmp, evUn, evChn, evSl, evPart, partD, slD, evDisp, evStar, spread, seqD, evOs, evConsO, evNilO, opnd, gets, Opn.get, evC, evVar, evVs, evCons, evNil, outV, ixD, at0, at1, at2, at3, at4, at5, at6, at7, cmp_lt, cmp_le, cmp_gt, cmp_ge, cmp_eq_int, cmp_ne_int, cmp_is_none, cmp_isn_none, cmp_is_bool, cmp_isn_bool, isNoneD, add_int, sub_int, biD, negD, fz, List.replicate, lz0, lz1, lz2, lz3, lz4, lz5, lz6, lz7, lz8])
    rw [se_ret e2]
    rfl
  · have hx0 : b1.x0 = 0 := by omega
    have w1 : 0 ≤ (b1.x1 + 1) * 39373 % 1000000007 ∧ (b1.x1 + 1) * 39373 % 1000000007 < 1000000007 := ⟨Int.emod_nonneg _ (by decide), Int.emod_lt_of_pos _ (by decide)⟩
    have m4 := mul_int (mulOk_of (i := (b1.x1 + 1) * 39373 % 1000000007) (j := (b1.x1 + 1) * 39373 % 1000000007) (a := 32) (b := 32) (sz_of w1.1 (by omega)) (sz_of w1.1 (by omega)) (by decide))
    generalize hbg : (b1.x1 + 1) * 39373 % 1000000007 = bg at *
    have w2 : 0 ≤ bg * bg % 998244353 ∧ bg * bg % 998244353 < 998244353 := ⟨Int.emod_nonneg _ (by decide), Int.emod_lt_of_pos _ (by decide)⟩
    have m5 := mul_int (mulOk_of (i := bg * bg % 998244353) (j := 30011) (a := 32) (b := 32) (sz_of w2.1 (by omega)) (by decide) (by decide))
    refine ⟨bg * bg % 998244353 * 30011 % 998244353 / 7 % many, b1, Int.emod_nonneg _ (by omega), Int.emod_lt_of_pos _ h1, hb, ?_⟩
    refine se_nx e1 ?_
    refine se_nx (ρ' := tE b1 many x2 x3 none none none) (by
      rw [if_f (ρ1 := tE b1 many x2 x3 none none none) (fr := false) (by simp [retOf, exB, exS, stSeq, stRetE, stRetV, stRet, stAsg, stAsgT, stPar, stIf, stNx, stEx, evPs, evPnil, evPcons, stores, stor, asgT, asgTs, ee_cst, ee_glo, ee_var, ee_tup, ee_lst, ee_star, ee_bin, ee_neg, ee_cmp, ee_chn, ee_and, ee_or, ee_not, ee_ite, ee_ix, ee_sl, ee_bi, evE_fn1, evE_fn2, evE_fn3, evE_fn4, evBr, evBi, evBin, evCmp, evUn, evChn, evSl, evPart, partD, slD, evDisp, evStar, spread, seqD, evOs, evConsO, evNilO, opnd, gets, Opn.get, evC, evVar, evVs, evCons, evNil, outV, ixD, at0, at1, at2, at3, at4, at5, at6, at7, cmp_lt, cmp_le, cmp_gt, cmp_ge, cmp_eq_int, cmp_ne_int, cmp_is_none, cmp_isn_none, cmp_is_bool, cmp_isn_bool, isNoneD, add_int, sub_int, biD, negD, fz, List.replicate, lz0, lz1, lz2, lz3, lz4, lz5, lz6, lz7, lz8, Bag.D, hx0])]
      exact b_nil) ?_
    refine se_nx (ρ' := tE b1 many x2 x3 none (fz (.int bg)) none) (by simp [retOf, exB, exS, stSeq, stRetE, stRetV, stRet, stAsg, stAsgT, stPar, stIf, stNx, stEx, evPs, evPnil, evPcons, stores, stor, asgT, asgTs, ee_cst, ee_glo, ee_var, ee_tup, ee_lst, ee_star, ee_bin, ee_neg, ee_cmp, ee_chn, ee_and, ee_or, ee_not, ee_ite, ee_ix, ee_sl, ee_bi, evE_fn1, evE_fn2, evE_fn3, evE_fn4, evBr, evBi, evBin, evCmp, evUn, evChn, evSl, evPart, partD, slD, evDisp, evStar, spread, seqD, evOs, evConsO, evNilO, opnd, gets, Opn.get, evC, evVar, evVs, evCons, evNil, outV, ixD, at0, at1, at2, at3, at4, at5, at6, at7, cmp_lt, cmp_le, cmp_gt, cmp_ge, cmp_eq_int, cmp_ne_int, cmp_is_none, cmp_isn_none, cmp_is_bool, cmp_isn_bool, isNoneD, add_int, sub_int, biD, negD, fz, List.replicate, lz0, lz1, lz2, lz3, lz4, lz5, lz6, lz7, lz8, Bag.D, m3, d4, hbg]) ?_
    refine se_nx (ρ' := tE b1 many x2 x3 none (fz (.int bg)) (fz (.int (bg * bg % 998244353 * 30011 % 998244353)))) (by simp [retOf, exB, exS, stSeq, stRetE, stRetV, stRet, stAsg, stAsgT, stPar, stIf, stNx, stEx, evPs, evPnil, evPcons, stores, stor, asgT, asgTs, ee_cst, ee_glo, ee_var, ee_tup, ee_lst, ee_star, ee_bin, ee_neg, ee_cmp, ee_chn, ee_and, ee_or, ee_not, ee_ite, ee_ix, ee_sl, ee_bi, evE_fn1, evE_fn2, evE_fn3, evE_fn4, evBr, evBi, evBin, evCmp, evUn, evChn, evSl, evPart, partD, slD, evDisp, evStar, spread, seqD, evOs, evConsO, evNilO, opnd, gets, Opn.get, evC, evVar, evVs, evCons, evNil, outV, ixD, at0, at1, at2, at3, at4, at5, at6, at7, cmp_lt, cmp_le, cmp_gt, cmp_ge, cmp_eq_int, cmp_ne_int, cmp_is_none, cmp_isn_none, cmp_is_bool, cmp_isn_bool, isNoneD, add_int, sub_int, biD, negD, fz, List.replicate, lz0, lz1, lz2, lz3, lz4, lz5, lz6, lz7, lz8, m4, d5, m5]) ?_
    rw [se_ret (ρ' := tE b1 many x2 x3 none (fz (.int bg)) (fz (.int (bg * bg % 998244353 * 30011 % 998244353)))) (d := .int (bg * bg % 998244353 * 30011 % 998244353 / 7 % many)) (fr := false) (by simp [retOf, exB, exS, stSeq, stRetE, stRetV, stRet, stAsg, stAsgT, stPar, stIf, stNx, stEx, evPs, evPnil, evPcons, stores, stor, asgT, asgTs, ee_cst, ee_glo, ee_var, ee_tup, ee_lst, ee_star, ee_bin, ee_neg, ee_cmp, ee_chn, ee_and, ee_or, ee_not, ee_ite, ee_ix, ee_sl, ee_bi, evE_fn1, evE_fn2, evE_fn3, evE_fn4, evBr, evBi, evBin, evCmp, evUn, evChn, evSl, evPart, partD, slD, evDisp, evStar, spread, seqD, evOs, evConsO, evNilO, opnd, gets, Opn.get, evC, evVar, evVs, evCons, evNil, outV, ixD, at0, at1, at2, at3, at4, at5, at6, at7, cmp_lt, cmp_le, cmp_gt, cmp_ge, cmp_eq_int, cmp_ne_int, cmp_is_none, cmp_isn_none, cmp_is_bool, cmp_isn_bool, isNoneD, add_int, sub_int, biD, negD, fz, List.replicate, lz0, lz1, lz2, lz3, lz4, lz5, lz6, lz7, lz8, d6, d2])]
    rfl
end K43

namespace K43
open PySem EV Tab
theorem c_some (n : Nat) {b : Bag} {m : Nat} (h : b.V m) (hm : m < 10000) {xs : List PyData} (h1 : 0 < xs.length) (h2 : xs.length < 1000) : ∃ (v : PyData) (b' : Bag), v ∈ xs ∧ b'.V (m + 1) ∧ Phi prg (n+2) 43 [some ⟨b.D, true, true⟩, fz (.list xs)] = some (v, false, [some ⟨b'.D, true, true⟩, fz (.list xs)]) := by
  obtain ⟨v, b', v0, v1, hb, e⟩ := c_take n h hm (many := (xs.length : Int)) (by omega) (by omega)
  obtain ⟨k, hk⟩ : ∃ k : Nat, v = k := ⟨v.toNat, by omega⟩
  subst hk
  have hk2 : k < xs.length := by omega
  refine ⟨xs[k], b', List.getElem_mem hk2, hb, ?_⟩
  rw [Phi_eq p__law_some rfl, B__law_some]
  have e2 := fn_lent (Φ := Phi prg (n+1)) (f := 37) (i := 0) (e := .bi .len [.var 1]) (ρ := [some ⟨b.D, true, true⟩, fz (.list xs)]) (ρ1 := [some ⟨b.D, true, true⟩, fz (.list xs)]) rfl (d2 := .int xs.length) (fr2 := false) (by simp [retOf, exB, exS, stSeq, stRetE, stRetV, stRet, stAsg, stAsgT, stPar, stIf, stNx, stEx, evPs, evPnil, evPcons, stores, stor, asgT, asgTs, ee_cst, ee_glo, ee_var, ee_tup, ee_lst, ee_star, ee_bin, ee_neg, ee_cmp, ee_chn, ee_and, ee_or, ee_not, ee_ite, ee_ix, ee_sl, ee_bi, evE_fn1, evE_fn2, evE_fn3, evE_fn4, evBr, evBi, evBin, evCmp, evUn, evChn, evSl, evPart, partD, slD, evDisp, evStar, spread, seqD, evOs, evConsO, evNilO, opnd, gets, Opn.get, evC, evVar, evVs, evCons, evNil, outV, ixD, at0, at1, at2, at3, at4, at5, at6, at7, cmp_lt, cmp_le, cmp_gt, cmp_ge, cmp_eq_int, cmp_ne_int, cmp_is_none, cmp_isn_none, cmp_is_bool, cmp_isn_bool, isNoneD, add_int, sub_int, biD, negD, fz, List.replicate, lz0, lz1, lz2, lz3, lz4, lz5, lz6, lz7, lz8]) rfl e
  have e3 : atD xs (k : Int) = some xs[k] := by rw [atD_nat]; exact List.getElem?_eq_getElem hk2
  have e4 : exS (Phi prg (n+1)) (.ret (.ix (.var 1) (.fn 37 [true, false] [.var 0, .bi .len [.var 1]]))) [some ⟨b.D, true, true⟩, fz (.list xs)] = some (.ret xs[k] false [some ⟨b'.D, true, true⟩, fz (.list xs)]) := by
    simp [retOf, exB, exS, stSeq, stRetE, stRetV, stRet, stAsg, stAsgT, stPar, stIf, stNx, stEx, evPs, evPnil, evPcons, stores, stor, asgT, asgTs, ee_cst, ee_glo, ee_var, ee_tup, ee_lst, ee_star, ee_bin, ee_neg, ee_cmp, ee_chn, ee_and, ee_or, ee_not, ee_ite, ee_ix, ee_sl, ee_bi, evE_fn1, evE_fn2, evE_fn3, evE_fn4, evBr, evBi, evBin, evCmp, evUn, evChn, evSl, evPart, partD, slD, evDisp, evStar, spread, seqD, evOs, evConsO, evNilO, opnd, gets, Opn.get, evC, evVar, evVs, evCons, evNil, outV, ixD, at0, at1, at2, at3, at4, at5, at6, at7, cmp_lt, cmp_le, cmp_gt, cmp_ge, cmp_eq_int, cmp_ne_int, cmp_is_none, cmp_isn_none, cmp_is_bool, cmp_isn_bool, isNoneD, add_int, sub_int, biD, negD, fz, List.replicate, lz0, lz1, lz2, lz3, lz4, lz5, lz6, lz7, lz8, e2, e3] at e2 ⊢
  exact se_ret e4
theorem bn_top {r : Rule} (h : r.Ok) : Sz 70 r.last.num ∧ Sz 70 (r.last.den : Int) := bn_last h
/-- a drawn rule -/
structure Rule.Drawn (r : Rule) : Prop where
  hold : 1 ≤ r.hold ∧ r.hold ≤ 1000000
  late : 0 ≤ r.late ∧ r.late < 40
  apart : 0 ≤ r.apart ∧ r.apart ≤ 400
  run : 0 ≤ r.run ∧ r.run < 30
  wait : 1 ≤ r.wait ∧ r.wait ≤ 1000000
theorem Rule.Drawn.ok {r : Rule} (h : r.Drawn) : r.Ok := by
  have a := h.hold
  have b := h.late
  have c := h.apart
  have d := h.run
  have e := h.wait
  exact ⟨by omega, by omega, by omega, by omega, by omega⟩
abbrev dE (b : Bag) (x1 x2 x3 x4 x5 x6 x7 x8 x9 : Option Sl) : Ev := [some ⟨b.D, true, true⟩, x1, x2, x3, x4, x5, x6, x7, x8, x9]
theorem t_take (n : Nat) {b b' : Bag} {many v : Int} (e : Phi prg n 37 [some ⟨b.D, true, true⟩, fz (.int many)] = some (.int v, false, [some ⟨b'.D, true, true⟩, fz (.int many)])) (x1 x2 x3 x4 x5 x6 x7 x8 x9 : Option Sl) : evE (Phi prg n) (.fn 37 [true, false] [.var 0, .cst (.int many)]) (dE b x1 x2 x3 x4 x5 x6 x7 x8 x9) = some (.int v, false, dE b' x1 x2 x3 x4 x5 x6 x7 x8 x9) :=
  fn_lent (fr2 := false) (ρ1 := dE b x1 x2 x3 x4 x5 x6 x7 x8 x9) rfl (by simp [retOf, exB, exS, stSeq, stRetE, stRetV, stRet, stAsg, stAsgT, stPar, stIf, stNx, stEx, evPs, evPnil, evPcons, stores, stor, asgT, asgTs, ee_cst, ee_glo, ee_var, ee_tup, ee_lst, ee_star, ee_bin, ee_neg, ee_cmp, ee_chn, ee_and, ee_or, ee_not, ee_ite, ee_ix, ee_sl, ee_bi, evE_fn1, evE_fn2, evE_fn3, evE_fn4, evBr, evBi, evBin, evCmp, evUn, evChn, evSl, evPart, partD, slD, evDisp, evStar, spread, seqD, evOs, evConsO, evNilO, opnd, gets, Opn.get, evC, evVar, evVs, evCons, evNil, outV, ixD, at0, at1, at2, at3, at4, at5, at6, at7, cmp_lt, cmp_le, cmp_gt, cmp_ge, cmp_eq_int, cmp_ne_int, cmp_is_none, cmp_isn_none, cmp_is_bool, cmp_isn_bool, isNoneD, add_int, sub_int, biD, negD, fz, List.replicate, lz0, lz1, lz2, lz3, lz4, lz5, lz6, lz7, lz8]) rfl e
theorem t_some (n : Nat) {b b1 b' : Bag} {L : Ex} {xs : List PyData} {v : PyData} {fr : Bool} {x1 x2 x3 x4 x5 x6 x7 x8 x9 : Option Sl} (hL : evE (Phi prg n) L (dE b x1 x2 x3 x4 x5 x6 x7 x8 x9) = some (.list xs, fr, dE b1 x1 x2 x3 x4 x5 x6 x7 x8 x9)) (e : Phi prg n 43 [some ⟨b1.D, true, true⟩, fz (.list xs)] = some (v, false, [some ⟨b'.D, true, true⟩, fz (.list xs)])) : evE (Phi prg n) (.fn 43 [true, false] [.var 0, L]) (dE b x1 x2 x3 x4 x5 x6 x7 x8 x9) = some (v, false, dE b' x1 x2 x3 x4 x5 x6 x7 x8 x9) :=
  fn_lent (ρ1 := dE b1 x1 x2 x3 x4 x5 x6 x7 x8 x9) rfl hL rfl e
theorem min_eq (a b : Int) : (if b < a then b else a) = min a b := by
  rw [Int.min_def]; split <;> split <;> omega
theorem c_law_last2 (n : Nat) {r : Rule} (h : r.Ok) : ∃ T B : Int, Sz 70 T ∧ Sz 70 B ∧ 0 < B ∧ callV prg (n+2) 32 [r.D] = some (.tuple [.int T, .int B], false) := by
  have sT := bn_top h
  have dp : 0 < (r.last.den : Int) := by have := r.last.den_pos; omega
  exact ⟨_, _, sT.1, sT.2, dp, c_law_last_act n h⟩
set_option maxHeartbeats 400000 in
theorem c_drawn (n : Nat) {b : Bag} {m : Nat} (h : b.V m) (hm : m < 9000) : ∃ (r : Rule) (b' : Bag), r.Drawn ∧ b'.V (m + 11) ∧ Phi prg (n+4) 35 [some ⟨b.D, true, true⟩] = some (r.D, false, [some ⟨b'.D, true, true⟩]) := by
  -- the draws
  obtain ⟨kd, b1, hkd, v1, e1⟩ := c_some (n+1) h (by omega) (xs := [.str "until", .str "asked", .str "heard"]) (by simp) (by simp)
  obtain ⟨a7, b2, a70, a71, v2, e2⟩ := c_take (n+2) v1 (by omega) (many := 401) (by decide) (by decide)
  obtain ⟨ap, b3, hap, v3, e3⟩ := c_some (n+1) v2 (by omega) (xs := [.int 0, .int 1, .int 7, .int 100, .int 399, .int 400, .int a7]) (by simp) (by simp)
  obtain ⟨h0, b4, h00, h01, v4, e4⟩ := c_take (n+2) v3 (by omega) (many := 9) (by decide) (by decide)
  obtain ⟨h1, b5, h10, h11, v5, e5⟩ := c_take (n+2) v4 (by omega) (many := 2000) (by decide) (by decide)
  obtain ⟨hh, b6, hhh, v6, e6⟩ := c_some (n+1) v5 (by omega) (xs := [.int h0, .int h1, .int 999999]) (by simp) (by simp)
  obtain ⟨lt, b7, l0, l1, v7, e7⟩ := c_take (n+2) v6 (by omega) (many := 40) (by decide) (by decide)
  obtain ⟨rn, b8, r0, r1, v8, e8⟩ := c_take (n+2) v7 (by omega) (many := 30) (by decide) (by decide)
  obtain ⟨cc, b9, c0, c1, v9, e9⟩ := c_take (n+2) v8 (by omega) (many := 4) (by decide) (by decide)
  obtain ⟨cd, b10, d0, d1, v10, e10⟩ := c_take (n+2) v9 (by omega) (many := 4) (by decide) (by decide)
  obtain ⟨ce, b11, f0, f1, v11, e11⟩ := c_take (n+2) v9 (by omega) (many := 90) (by decide) (by decide)
  have hk : ∃ k : Kd, kd = .str k.s := by
    simp at hkd
    rcases hkd with rfl | rfl | rfl
    · exact ⟨.U, rfl⟩
    · exact ⟨.A, rfl⟩
    · exact ⟨.H, rfl⟩
  obtain ⟨k, rfl⟩ := hk
  have ha : ∃ a : Int, ap = .int a ∧ 0 ≤ a ∧ a ≤ 400 := by
    simp at hap
    rcases hap with rfl | rfl | rfl | rfl | rfl | rfl | rfl
    · exact ⟨0, rfl, by decide, by decide⟩
    · exact ⟨1, rfl, by decide, by decide⟩
    · exact ⟨7, rfl, by decide, by decide⟩
    · exact ⟨100, rfl, by decide, by decide⟩
    · exact ⟨399, rfl, by decide, by decide⟩
    · exact ⟨400, rfl, by decide, by decide⟩
    · exact ⟨a7, rfl, by omega, by omega⟩
  obtain ⟨a, rfl, a0, a1⟩ := ha
  have hh' : ∃ i : Int, hh = .int i ∧ 0 ≤ i ∧ i ≤ 999999 := by
    simp at hhh
    rcases hhh with rfl | rfl | rfl
    · exact ⟨h0, rfl, by omega, by omega⟩
    · exact ⟨h1, rfl, by omega, by omega⟩
    · exact ⟨999999, rfl, by decide, by decide⟩
  obtain ⟨i, rfl, i0, i1⟩ := hh'
  have hok : (⟨k, 1 + i, lt, a, rn, 1⟩ : Rule).Ok := ⟨by show 0 ≤ 1 + i ∧ 1 + i < 2 ^ 24; omega, by show 0 ≤ lt ∧ lt < 2 ^ 24; omega, ⟨a0, a1⟩, by show 0 ≤ rn ∧ rn < 2 ^ 24; omega, by show (0 : Int) ≤ 1 ∧ (1 : Int) < 2 ^ 24; decide⟩
  obtain ⟨T, B, sT1, sT2, dp, eL⟩ := c_law_last2 (n+1) hok
  have eL : callV prg (n+1+2) 32 [PyData.tuple [.str k.s, .int (1 + i), .int lt, .int a, .int rn, .int 1]] = some (.tuple [.int T, .int B], false) := eL
  have dv1 := div_int (a := T) (b := B) (divOk_of sT2 dp (by decide))
  have mu1 := mul_int (mulOk_of (j := 1000 + a) (b := 24) sT1 (sz_of (by omega) (by omega)) (by decide))
  have mu2 := mul_int (mulOk_of (j := 1000) (b := 24) sT2 (by decide) (by decide))
  have dv2 := div_int (a := T * (1000 + a)) (b := B * 1000) (divOk_of (sT2.mul (show Sz 24 1000 by decide)) (by omega) (by decide))
  -- the wait
  have hW : ∃ (w : Int) (b' : Bag), (1 ≤ w ∧ w ≤ 1000000) ∧ b'.V (m + 11) ∧ ∀ (need : Int) (x1 x2 x3 x4 x5 x6 x7 x9 : Option Sl), need = (if k = .U then T / B else T * (1000 + a) / (B * 1000)) → exS (Phi prg (n+3)) (.asg 9 (.ite (.cmp .gt (.fn 37 [true, false] [.var 0, .cst (.int (4))]) (.cst (.int (0)))) (.bi .min [.cst (.int (1000000)), .bi .max [.cst (.int (1)), .bin .sub (.bin .add (.var 8) (.fn 37 [true, false] [.var 0, .cst (.int (4))])) (.cst (.int (2)))]]) (.bin .add (.cst (.int (1))) (.fn 37 [true, false] [.var 0, .cst (.int (90))])))) (dE b8 x1 x2 x3 x4 x5 x6 x7 (fz (.int need)) none) = some (.nx (dE b' x1 x2 x3 x4 x5 x6 x7 (fz (.int need)) (fz (.int w)))) := by
    by_cases hc : 0 < cc
    · refine ⟨min 1000000 (max 1 ((if k = .U then T / B else T * (1000 + a) / (B * 1000)) + cd - 2)), b10, ⟨by omega, by omega⟩, ⟨v10.h0, v10.h1, ⟨v10.h2.1, by have := v10.h2.2; omega⟩, v10.hs, v10.hl⟩, ?_⟩
      intro need x1 x2 x3 x4 x5 x6 x7 x9 hn
      rw [← hn]
      have t1 := t_take (n+2+1) e9 x1 x2 x3 x4 x5 x6 x7 (fz (.int need)) none
      have t2 := t_take (n+2+1) e10 x1 x2 x3 x4 x5 x6 x7 (fz (.int need)) none
      simp [retOf, exB, exS, stSeq, stRetE, stRetV, stRet, stAsg, stAsgT, stPar, stIf, stNx, stEx, evPs, evPnil, evPcons, stores, stor, asgT, asgTs, ee_cst, ee_glo, ee_var, ee_tup, ee_lst, ee_star, ee_bin, ee_neg, ee_cmp, ee_chn, ee_and, ee_or, ee_not, ee_ite, ee_ix, ee_sl, ee_bi, evE_fn1, evE_fn2, evE_fn3, evE_fn4, evBr, evBi, evBin, evCmp, evUn, evChn, evSl, evPart, partD, slD, evDisp, evStar, spread, seqD, evOs, evConsO, evNilO, opnd, gets, Opn.get, evC, evVar, evVs, evCons, evNil, outV, ixD, at0, at1, at2, at3, at4, at5, at6, at7, cmp_lt, cmp_le, cmp_gt, cmp_ge, cmp_eq_int, cmp_ne_int, cmp_is_none, cmp_isn_none, cmp_is_bool, cmp_isn_bool, isNoneD, add_int, sub_int, biD, negD, fz, List.replicate, lz0, lz1, lz2, lz3, lz4, lz5, lz6, lz7, lz8, t1, t2, hc, max_eq, min_eq]
    · refine ⟨1 + ce, b11, ⟨by omega, by omega⟩, ⟨v11.h0, v11.h1, ⟨v11.h2.1, by have := v11.h2.2; omega⟩, v11.hs, v11.hl⟩, ?_⟩
      intro need x1 x2 x3 x4 x5 x6 x7 x9 hn
      have t1 := t_take (n+2+1) e9 x1 x2 x3 x4 x5 x6 x7 (fz (.int need)) none
      have t2 := t_take (n+2+1) e11 x1 x2 x3 x4 x5 x6 x7 (fz (.int need)) none
      simp [retOf, exB, exS, stSeq, stRetE, stRetV, stRet, stAsg, stAsgT, stPar, stIf, stNx, stEx, evPs, evPnil, evPcons, stores, stor, asgT, asgTs, ee_cst, ee_glo, ee_var, ee_tup, ee_lst, ee_star, ee_bin, ee_neg, ee_cmp, ee_chn, ee_and, ee_or, ee_not, ee_ite, ee_ix, ee_sl, ee_bi, evE_fn1, evE_fn2, evE_fn3, evE_fn4, evBr, evBi, evBin, evCmp, evUn, evChn, evSl, evPart, partD, slD, evDisp, evStar, spread, seqD, evOs, evConsO, evNilO, opnd, gets, Opn.get, evC, evVar, evVs, evCons, evNil, outV, ixD, at0, at1, at2, at3, at4, at5, at6, at7, cmp_lt, cmp_le, cmp_gt, cmp_ge, cmp_eq_int, cmp_ne_int, cmp_is_none, cmp_isn_none, cmp_is_bool, cmp_isn_bool, isNoneD, add_int, sub_int, biD, negD, fz, List.replicate, lz0, lz1, lz2, lz3, lz4, lz5, lz6, lz7, lz8, t1, t2, hc]
  obtain ⟨w, b', hw, vb, eW⟩ := hW
  refine ⟨⟨k, 1 + i, lt, a, rn, w⟩, b', ⟨by show 1 ≤ 1 + i ∧ 1 + i ≤ 1000000; omega, ⟨l0, l1⟩, ⟨a0, a1⟩, ⟨r0, r1⟩, hw⟩, vb, ?_⟩
  rw [Phi_eq p__law_drawn_rule rfl, B__law_drawn_rule]
  have s1 := t_some (n+1+2) (b := b) (L := .lst [.cst (.str "until"), .cst (.str "asked"), .cst (.str "heard")]) (fr := true) (x1 := none) (x2 := none) (x3 := none) (x4 := none) (x5 := none) (x6 := none) (x7 := none) (x8 := none) (x9 := none) (by simp [retOf, exB, exS, stSeq, stRetE, stRetV, stRet, stAsg, stAsgT, stPar, stIf, stNx, stEx, evPs, evPnil, evPcons, stores, stor, asgT, asgTs, ee_cst, ee_glo, ee_var, ee_tup, ee_lst, ee_star, ee_bin, ee_neg, ee_cmp, ee_chn, ee_and, ee_or, ee_not, ee_ite, ee_ix, ee_sl, ee_bi, evE_fn1, evE_fn2, evE_fn3, evE_fn4, evBr, evBi, evBin, evCmp, evUn, evChn, evSl, evPart, partD, slD, evDisp, evStar, spread, seqD, evOs, evConsO, evNilO, opnd, gets, Opn.get, evC, evVar, evVs, evCons, evNil, outV, ixD, at0, at1, at2, at3, at4, at5, at6, at7, cmp_lt, cmp_le, cmp_gt, cmp_ge, cmp_eq_int, cmp_ne_int, cmp_is_none, cmp_isn_none, cmp_is_bool, cmp_isn_bool, isNoneD, add_int, sub_int, biD, negD, fz, List.replicate, lz0, lz1, lz2, lz3, lz4, lz5, lz6, lz7, lz8]) e1
  have t2 := t_take (n+2+1) e2 none none none none none none none none none
  have s3 := t_some (n+1+2) (b := b1) (L := .lst [.cst (.int (0)), .cst (.int (1)), .cst (.int (7)), .cst (.int (100)), .cst (.int (399)), .cst (.int (400)), .fn 37 [true, false] [.var 0, .cst (.int (401))]]) (fr := true) (x1 := none) (x2 := none) (x3 := none) (x4 := none) (x5 := none) (x6 := none) (x7 := none) (x8 := none) (x9 := none) (by simp [retOf, exB, exS, stSeq, stRetE, stRetV, stRet, stAsg, stAsgT, stPar, stIf, stNx, stEx, evPs, evPnil, evPcons, stores, stor, asgT, asgTs, ee_cst, ee_glo, ee_var, ee_tup, ee_lst, ee_star, ee_bin, ee_neg, ee_cmp, ee_chn, ee_and, ee_or, ee_not, ee_ite, ee_ix, ee_sl, ee_bi, evE_fn1, evE_fn2, evE_fn3, evE_fn4, evBr, evBi, evBin, evCmp, evUn, evChn, evSl, evPart, partD, slD, evDisp, evStar, spread, seqD, evOs, evConsO, evNilO, opnd, gets, Opn.get, evC, evVar, evVs, evCons, evNil, outV, ixD, at0, at1, at2, at3, at4, at5, at6, at7, cmp_lt, cmp_le, cmp_gt, cmp_ge, cmp_eq_int, cmp_ne_int, cmp_is_none, cmp_isn_none, cmp_is_bool, cmp_isn_bool, isNoneD, add_int, sub_int, biD, negD, fz, List.replicate, lz0, lz1, lz2, lz3, lz4, lz5, lz6, lz7, lz8, t2]) e3
  refine se_nx (ρ' := dE b3 (fz (.str k.s)) (fz (.int a)) none none none none none none none) (by simp [retOf, exB, exS, stSeq, stRetE, stRetV, stRet, stAsg, stAsgT, stPar, stIf, stNx, stEx, evPs, evPnil, evPcons, stores, stor, asgT, asgTs, ee_cst, ee_glo, ee_var, ee_tup, ee_lst, ee_star, ee_bin, ee_neg, ee_cmp, ee_chn, ee_and, ee_or, ee_not, ee_ite, ee_ix, ee_sl, ee_bi, evE_fn1, evE_fn2, evE_fn3, evE_fn4, evBr, evBi, evBin, evCmp, evUn, evChn, evSl, evPart, partD, slD, evDisp, evStar, spread, seqD, evOs, evConsO, evNilO, opnd, gets, Opn.get, evC, evVar, evVs, evCons, evNil, outV, ixD, at0, at1, at2, at3, at4, at5, at6, at7, cmp_lt, cmp_le, cmp_gt, cmp_ge, cmp_eq_int, cmp_ne_int, cmp_is_none, cmp_isn_none, cmp_is_bool, cmp_isn_bool, isNoneD, add_int, sub_int, biD, negD, fz, List.replicate, lz0, lz1, lz2, lz3, lz4, lz5, lz6, lz7, lz8, s1, s3]) ?_
  have t4 := t_take (n+2+1) e4 (fz (.str k.s)) (fz (.int a)) none none none none none none none
  have t5 := t_take (n+2+1) e5 (fz (.str k.s)) (fz (.int a)) none none none none none none none
  have s6 := t_some (n+1+2) (b := b3) (L := .lst [.fn 37 [true, false] [.var 0, .cst (.int (9))], .fn 37 [true, false] [.var 0, .cst (.int (2000))], .cst (.int (999999))]) (fr := true) (x1 := fz (.str k.s)) (x2 := fz (.int a)) (x3 := none) (x4 := none) (x5 := none) (x6 := none) (x7 := none) (x8 := none) (x9 := none) (by simp [retOf, exB, exS, stSeq, stRetE, stRetV, stRet, stAsg, stAsgT, stPar, stIf, stNx, stEx, evPs, evPnil, evPcons, stores, stor, asgT, asgTs, ee_cst, ee_glo, ee_var, ee_tup, ee_lst, ee_star, ee_bin, ee_neg, ee_cmp, ee_chn, ee_and, ee_or, ee_not, ee_ite, ee_ix, ee_sl, ee_bi, evE_fn1, evE_fn2, evE_fn3, evE_fn4, evBr, evBi, evBin, evCmp, evUn, evChn, evSl, evPart, partD, slD, evDisp, evStar, spread, seqD, evOs, evConsO, evNilO, opnd, gets, Opn.get, evC, evVar, evVs, evCons, evNil, outV, ixD, at0, at1, at2, at3, at4, at5, at6, at7, cmp_lt, cmp_le, cmp_gt, cmp_ge, cmp_eq_int, cmp_ne_int, cmp_is_none, cmp_isn_none, cmp_is_bool, cmp_isn_bool, isNoneD, add_int, sub_int, biD, negD, fz, List.replicate, lz0, lz1, lz2, lz3, lz4, lz5, lz6, lz7, lz8, t4, t5]) e6
  have t7 := t_take (n+2+1) e7 (fz (.str k.s)) (fz (.int a)) none none none none none none none
  have t8 := t_take (n+2+1) e8 (fz (.str k.s)) (fz (.int a)) none none none none none none none
  refine se_nx (ρ' := dE b8 (fz (.str k.s)) (fz (.int a)) (fz (.int (1 + i))) (fz (.int lt)) (fz (.int rn)) none none none none) (by simp [retOf, exB, exS, stSeq, stRetE, stRetV, stRet, stAsg, stAsgT, stPar, stIf, stNx, stEx, evPs, evPnil, evPcons, stores, stor, asgT, asgTs, ee_cst, ee_glo, ee_var, ee_tup, ee_lst, ee_star, ee_bin, ee_neg, ee_cmp, ee_chn, ee_and, ee_or, ee_not, ee_ite, ee_ix, ee_sl, ee_bi, evE_fn1, evE_fn2, evE_fn3, evE_fn4, evBr, evBi, evBin, evCmp, evUn, evChn, evSl, evPart, partD, slD, evDisp, evStar, spread, seqD, evOs, evConsO, evNilO, opnd, gets, Opn.get, evC, evVar, evVs, evCons, evNil, outV, ixD, at0, at1, at2, at3, at4, at5, at6, at7, cmp_lt, cmp_le, cmp_gt, cmp_ge, cmp_eq_int, cmp_ne_int, cmp_is_none, cmp_isn_none, cmp_is_bool, cmp_isn_bool, isNoneD, add_int, sub_int, biD, negD, fz, List.replicate, lz0, lz1, lz2, lz3, lz4, lz5, lz6, lz7, lz8, s6, t7, t8]) ?_
  refine se_nx (ρ' := dE b8 (fz (.str k.s)) (fz (.int a)) (fz (.int (1 + i))) (fz (.int lt)) (fz (.int rn)) (fz (.int T)) (fz (.int B)) none none) (by simp [retOf, exB, exS, stSeq, stRetE, stRetV, stRet, stAsg, stAsgT, stPar, stIf, stNx, stEx, evPs, evPnil, evPcons, stores, stor, asgT, asgTs, ee_cst, ee_glo, ee_var, ee_tup, ee_lst, ee_star, ee_bin, ee_neg, ee_cmp, ee_chn, ee_and, ee_or, ee_not, ee_ite, ee_ix, ee_sl, ee_bi, evE_fn1, evE_fn2, evE_fn3, evE_fn4, evBr, evBi, evBin, evCmp, evUn, evChn, evSl, evPart, partD, slD, evDisp, evStar, spread, seqD, evOs, evConsO, evNilO, opnd, gets, Opn.get, evC, evVar, evVs, evCons, evNil, outV, ixD, at0, at1, at2, at3, at4, at5, at6, at7, cmp_lt, cmp_le, cmp_gt, cmp_ge, cmp_eq_int, cmp_ne_int, cmp_is_none, cmp_isn_none, cmp_is_bool, cmp_isn_bool, isNoneD, add_int, sub_int, biD, negD, fz, List.replicate, lz0, lz1, lz2, lz3, lz4, lz5, lz6, lz7, lz8, eL]) ?_
  refine se_nx (ρ' := dE b8 (fz (.str k.s)) (fz (.int a)) (fz (.int (1 + i))) (fz (.int lt)) (fz (.int rn)) (fz (.int T)) (fz (.int B)) (fz (.int (if k = .U then T / B else T * (1000 + a) / (B * 1000)))) none) (by
    by_cases hu : k = .U
    · subst hu
      simp [retOf, exB, exS, stSeq, stRetE, stRetV, stRet, stAsg, stAsgT, stPar, stIf, stNx, stEx, evPs, evPnil, evPcons, stores, stor, asgT, asgTs, ee_cst, ee_glo, ee_var, ee_tup, ee_lst, ee_star, ee_bin, ee_neg, ee_cmp, ee_chn, ee_and, ee_or, ee_not, ee_ite, ee_ix, ee_sl, ee_bi, evE_fn1, evE_fn2, evE_fn3, evE_fn4, evBr, evBi, evBin, evCmp, evUn, evChn, evSl, evPart, partD, slD, evDisp, evStar, spread, seqD, evOs, evConsO, evNilO, opnd, gets, Opn.get, evC, evVar, evVs, evCons, evNil, outV, ixD, at0, at1, at2, at3, at4, at5, at6, at7, cmp_lt, cmp_le, cmp_gt, cmp_ge, cmp_eq_int, cmp_ne_int, cmp_is_none, cmp_isn_none, cmp_is_bool, cmp_isn_bool, isNoneD, add_int, sub_int, biD, negD, fz, List.replicate, lz0, lz1, lz2, lz3, lz4, lz5, lz6, lz7, lz8, k_until, dv1]
    · simp [retOf, exB, exS, stSeq, stRetE, stRetV, stRet, stAsg, stAsgT, stPar, stIf, stNx, stEx, evPs, evPnil, evPcons, stores, stor, asgT, asgTs, ee_cst, ee_glo, ee_var, ee_tup, ee_lst, ee_star, ee_bin, ee_neg, ee_cmp, ee_chn, ee_and, ee_or, ee_not, ee_ite, ee_ix, ee_sl, ee_bi, evE_fn1, evE_fn2, evE_fn3, evE_fn4, evBr, evBi, evBin, evCmp, evUn, evChn, evSl, evPart, partD, slD, evDisp, evStar, spread, seqD, evOs, evConsO, evNilO, opnd, gets, Opn.get, evC, evVar, evVs, evCons, evNil, outV, ixD, at0, at1, at2, at3, at4, at5, at6, at7, cmp_lt, cmp_le, cmp_gt, cmp_ge, cmp_eq_int, cmp_ne_int, cmp_is_none, cmp_isn_none, cmp_is_bool, cmp_isn_bool, isNoneD, add_int, sub_int, biD, negD, fz, List.replicate, lz0, lz1, lz2, lz3, lz4, lz5, lz6, lz7, lz8, k_until, hu, mu1, mu2, dv2]) ?_
  refine se_nx (eW _ _ _ _ _ _ _ _ none rfl) ?_
  refine se_ret (ρ' := dE b' (fz (.str k.s)) (fz (.int a)) (fz (.int (1 + i))) (fz (.int lt)) (fz (.int rn)) (fz (.int T)) (fz (.int B)) (fz (.int (if k = .U then T / B else T * (1000 + a) / (B * 1000)))) (fz (.int w))) (by simp [retOf, exB, exS, stSeq, stRetE, stRetV, stRet, stAsg, stAsgT, stPar, stIf, stNx, stEx, evPs, evPnil, evPcons, stores, stor, asgT, asgTs, ee_cst, ee_glo, ee_var, ee_tup, ee_lst, ee_star, ee_bin, ee_neg, ee_cmp, ee_chn, ee_and, ee_or, ee_not, ee_ite, ee_ix, ee_sl, ee_bi, evE_fn1, evE_fn2, evE_fn3, evE_fn4, evBr, evBi, evBin, evCmp, evUn, evChn, evSl, evPart, partD, slD, evDisp, evStar, spread, seqD, evOs, evConsO, evNilO, opnd, gets, Opn.get, evC, evVar, evVs, evCons, evNil, outV, ixD, at0, at1, at2, at3, at4, at5, at6, at7, cmp_lt, cmp_le, cmp_gt, cmp_ge, cmp_eq_int, cmp_ne_int, cmp_is_none, cmp_isn_none, cmp_is_bool, cmp_isn_bool, isNoneD, add_int, sub_int, biD, negD, fz, List.replicate, lz0, lz1, lz2, lz3, lz4, lz5, lz6, lz7, lz8, Rule.D])
end K43

namespace EV
open PySem
def Slq (q : Option (D × Bool)) : Option Sl := q.map fun p => ⟨p.1, p.2, false⟩
def okS : Option (Option Sl) → Bool
  | some (some s) => !s.lk
  | some none => true
  | none => false
theorem stor_eq (i : Nat) (d : D) (fr : Bool) (ρ : Ev) : stor i d fr ρ = if okS ρ[i]? = true then some (ρ.set i (some ⟨d, fr, false⟩)) else none := by
  rcases e : ρ[i]? with _ | _ | s
  · simp [stor, okS, e]
  · simp [stor, okS, e]
  · cases hl : s.lk <;> simp [stor, okS, e, hl]
theorem okS_none : okS (some none) = true := rfl
theorem okS_some (d : D) (o : Bool) : okS (some (some ⟨d, o, false⟩)) = true := rfl
theorem okS_q (q : Option (D × Bool)) : okS (some (Slq q)) = true := by cases q <;> rfl
theorem slq_fz (d : D) : some (⟨d, false, false⟩ : Sl) = Slq (some (d, false)) := rfl
theorem slq_own (d : D) : some (⟨d, true, false⟩ : Sl) = Slq (some (d, true)) := rfl
theorem slq_none : (none : Option Sl) = Slq none := rfl
theorem skip {Φ : Orc} {c : Ex} {a : List Sm} {ρ ρ1 : Ev} {fr : Bool} (h : evE Φ c ρ = some (.bool false, fr, ρ1)) : exS Φ (.cond c a []) ρ = some (.nx ρ1) := by
  rw [if_f h]; exact b_nil
theorem loopF_inv {os : List Opn} {b : D → Ev → Option Out} (Inv : Ev → Prop) : ∀ (xs : List D), (∀ x ∈ xs, ∀ ρ, Inv ρ → ∃ ρ', b x ρ = some (.nx ρ') ∧ Inv ρ' ∧ stays os ρ ρ') → ∀ ρ, Inv ρ → ∃ ρ', loopF os b xs ρ = some (.nx ρ') ∧ Inv ρ'
  | [], _, ρ, h => ⟨ρ, by simp [loopF], h⟩
  | x :: xs, H, ρ, h => by
    obtain ⟨ρ1, e1, i1, s1⟩ := H x (by simp) ρ h
    obtain ⟨ρ2, e2, i2⟩ := loopF_inv Inv xs (fun y hy => H y (by simp [hy])) ρ1 i1
    refine ⟨ρ2, ?_, i2⟩
    rw [loopF, e1]
    simp [s1, e2]
theorem loopF_cnt {os : List Opn} {b : D → Ev → Option Out} (Inv : Nat → Ev → Prop) (J : Nat) (H : ∀ x j ρ, j < J → Inv j ρ → ∃ ρ', b x ρ = some (.nx ρ') ∧ Inv (j + 1) ρ' ∧ stays os ρ ρ') : ∀ (xs : List D) (j : Nat) (ρ : Ev), j + xs.length ≤ J → Inv j ρ → ∃ ρ', loopF os b xs ρ = some (.nx ρ')
  | [], j, ρ, _, h => ⟨ρ, by simp [loopF]⟩
  | x :: xs, j, ρ, hj, h => by
    simp only [List.length_cons] at hj
    obtain ⟨ρ1, e1, i1, s1⟩ := H x j ρ (by omega) h
    obtain ⟨ρ2, e2⟩ := loopF_cnt Inv J H xs (j + 1) ρ1 (by omega) i1
    refine ⟨ρ2, ?_⟩
    rw [loopF, e1]
    simp [s1, e2]
end EV
namespace K43
open PySem EV Tab
def absB (ns : List Int) : Bag := ⟨0, 1234567891, 0, (ns.take 63).map fun i => if i < 0 then -i else i⟩
theorem absB_v (ns : List Int) : (absB ns).V 0 := by
  refine ⟨Int.le_refl _, ⟨by show (0 : Int) ≤ 1234567891; decide, by show (1234567891 : Int) < 2147483647; decide⟩, ⟨Int.le_refl _, Int.le_refl _⟩, ?_, ?_⟩
  · intro z hz
    simp only [absB, List.mem_map] at hz
    obtain ⟨i, _, rfl⟩ := hz
    split <;> omega
  · simp [absB]
    omega
theorem c_bag (n : Nat) (ns : List Int) : callV prg (n+1) 36 [.list (ns.map .int)] = some ((absB ns).D, true) := by
  rw [callV_eq p__law_bag rfl]
  have h63 : 63 ≤ sizeLine := by decide
  have e := lc_of (Φ := Phi prg n) (tg := .name 1) (k := .seq) (es := [.sl false true (.var 0) (.cst .none) (.cst (.int 63))]) (ifs := []) (elt := .bi .abs [.var 1]) (own := [1]) (ρ := [fz (.list (ns.map .int)), none]) (ρ1 := [fz (.list (ns.map .int)), none]) (ρ3 := [fz (.list (ns.map .int)), none]) (os := [.val (.list ((ns.take 63).map .int))]) (ds := [.list ((ns.take 63).map .int)]) (xs := (ns.take 63).map .int)
    (by simp [retOf, exB, exS, stSeq, stRetE, stRetV, stRet, stAsg, stAsgT, stPar, stIf, stNx, stEx, evPs, evPnil, evPcons, stores, stor, asgT, asgTs, ee_cst, ee_glo, ee_var, ee_tup, ee_lst, ee_star, ee_bin, ee_neg, ee_cmp, ee_chn, ee_and, ee_or, ee_not, ee_ite, ee_ix, ee_sl, ee_bi, evE_fn1, evE_fn2, evE_fn3, evE_fn4, evBr, evBi, evBin, evCmp, evUn, evChn, evSl, evPart, partD, slD, evDisp, evStar, spread, seqD, evOs, evConsO, evNilO, opnd, gets, Opn.get, evC, evVar, evVs, evCons, evNil, outV, ixD, at0, at1, at2, at3, at4, at5, at6, at7, cmp_lt, cmp_le, cmp_gt, cmp_ge, cmp_eq_int, cmp_ne_int, cmp_is_none, cmp_isn_none, cmp_is_bool, cmp_isn_bool, isNoneD, add_int, sub_int, biD, negD, fz, List.replicate, lz0, lz1, lz2, lz3, lz4, lz5, lz6, lz7, lz8, hi63, List.map_take]) (by simp [retOf, exB, exS, stSeq, stRetE, stRetV, stRet, stAsg, stAsgT, stPar, stIf, stNx, stEx, evPs, evPnil, evPcons, stores, stor, asgT, asgTs, ee_cst, ee_glo, ee_var, ee_tup, ee_lst, ee_star, ee_bin, ee_neg, ee_cmp, ee_chn, ee_and, ee_or, ee_not, ee_ite, ee_ix, ee_sl, ee_bi, evE_fn1, evE_fn2, evE_fn3, evE_fn4, evBr, evBi, evBin, evCmp, evUn, evChn, evSl, evPart, partD, slD, evDisp, evStar, spread, seqD, evOs, evConsO, evNilO, opnd, gets, Opn.get, evC, evVar, evVs, evCons, evNil, outV, ixD, at0, at1, at2, at3, at4, at5, at6, at7, cmp_lt, cmp_le, cmp_gt, cmp_ge, cmp_eq_int, cmp_ne_int, cmp_is_none, cmp_isn_none, cmp_is_bool, cmp_isn_bool, isNoneD, add_int, sub_int, biD, negD, fz, List.replicate, lz0, lz1, lz2, lz3, lz4, lz5, lz6, lz7, lz8]) rfl rfl (turns_mapA .int (fun i => .int (if i < 0 then -i else i)) _ fun i hi => by
      simp [turn, tests, evFs, clear, retOf, exB, exS, stSeq, stRetE, stRetV, stRet, stAsg, stAsgT, stPar, stIf, stNx, stEx, evPs, evPnil, evPcons, stores, stor, asgT, asgTs, ee_cst, ee_glo, ee_var, ee_tup, ee_lst, ee_star, ee_bin, ee_neg, ee_cmp, ee_chn, ee_and, ee_or, ee_not, ee_ite, ee_ix, ee_sl, ee_bi, evE_fn1, evE_fn2, evE_fn3, evE_fn4, evBr, evBi, evBin, evCmp, evUn, evChn, evSl, evPart, partD, slD, evDisp, evStar, spread, seqD, evOs, evConsO, evNilO, opnd, gets, Opn.get, evC, evVar, evVs, evCons, evNil, outV, ixD, at0, at1, at2, at3, at4, at5, at6, at7, cmp_lt, cmp_le, cmp_gt, cmp_ge, cmp_eq_int, cmp_ne_int, cmp_is_none, cmp_isn_none, cmp_is_bool, cmp_isn_bool, isNoneD, add_int, sub_int, biD, negD, fz, List.replicate, lz0, lz1, lz2, lz3, lz4, lz5, lz6, lz7, lz8]) (by simp; omega) rfl
  rw [fz] at e
  simp [B__law_bag, retOf, exB, exS, stSeq, stRetE, stRetV, stRet, stAsg, stAsgT, stPar, stIf, stNx, stEx, evPs, evPnil, evPcons, stores, stor, asgT, asgTs, ee_cst, ee_glo, ee_var, ee_tup, ee_lst, ee_star, ee_bin, ee_neg, ee_cmp, ee_chn, ee_and, ee_or, ee_not, ee_ite, ee_ix, ee_sl, ee_bi, evE_fn1, evE_fn2, evE_fn3, evE_fn4, evBr, evBi, evBin, evCmp, evUn, evChn, evSl, evPart, partD, slD, evDisp, evStar, spread, seqD, evOs, evConsO, evNilO, opnd, gets, Opn.get, evC, evVar, evVs, evCons, evNil, outV, ixD, at0, at1, at2, at3, at4, at5, at6, at7, cmp_lt, cmp_le, cmp_gt, cmp_ge, cmp_eq_int, cmp_ne_int, cmp_is_none, cmp_isn_none, cmp_is_bool, cmp_isn_bool, isNoneD, add_int, sub_int, biD, negD, fz, List.replicate, lz0, lz1, lz2, lz3, lz4, lz5, lz6, lz7, lz8, e, absB, Bag.D]
  rfl
theorem c_alike (n : Nat) {d : PyData} (h1 : shp d = true) (h2 : shw d = true) (h3 : noStr d = true) : callV prg (n+1) 38 [d, d] = some (.bool true, false) := by
  rw [callV_eq p__law_alike rfl]
  have e1 : biD .repr [d] = some (.str d.shown, false) := by simp [biD, h2]
  have e2 := cmp_eq_refl (shp_shown h3)
  have e3 := cmp_eq_refl h1
  generalize d.shown = t at *
  simp [B__law_alike, retOf, exB, exS, stSeq, stRetE, stRetV, stRet, stAsg, stAsgT, stPar, stIf, stNx, stEx, evPs, evPnil, evPcons, stores, stor, asgT, asgTs, ee_cst, ee_glo, ee_var, ee_tup, ee_lst, ee_star, ee_bin, ee_neg, ee_cmp, ee_chn, ee_and, ee_or, ee_not, ee_ite, ee_ix, ee_sl, ee_bi, evE_fn1, evE_fn2, evE_fn3, evE_fn4, evBr, evBi, evBin, evCmp, evUn, evChn, evSl, evPart, partD, slD, evDisp, evStar, spread, seqD, evOs, evConsO, evNilO, opnd, gets, Opn.get, evC, evVar, evVs, evCons, evNil, outV, ixD, at0, at1, at2, at3, at4, at5, at6, at7, cmp_lt, cmp_le, cmp_gt, cmp_ge, cmp_eq_int, cmp_ne_int, cmp_is_none, cmp_isn_none, cmp_is_bool, cmp_isn_bool, isNoneD, add_int, sub_int, negD, fz, List.replicate, lz0, lz1, lz2, lz3, lz4, lz5, lz6, lz7, lz8, e1, e2, e3]
theorem wt {i : Int} {k : Nat} (h : Sz k i) : (PyData.int i).weight ≤ k + 1 := by
  rw [PyData.weight]
  have := log2_lt (Nat.lt_of_lt_of_le h (Nat.pow_le_pow_right (n := 2) (by decide) (Nat.le_succ k))) (by omega)
  split <;> omega
theorem lg {i : Int} {k : Nat} (h : Sz k i) (hk : k < 1900) : i.natAbs.log2 < 1920 := by
  have := log2_lt (Nat.lt_of_lt_of_le h (Nat.pow_le_pow_right (n := 2) (by decide) (Nat.le_succ k))) (by omega)
  omega
theorem al3 (n : Nat) (a b c : Bool) : callV prg (n+1) 38 [.list [.bool a, .bool b, .bool c], .list [.bool a, .bool b, .bool c]] = some (.bool true, false) :=
  c_alike n (by simp [shp, SeqAt.shaped, PyData.canLay0, PyData.canLayAll0, PyData.depth, PyData.depthAll]) (shw_of (by simp [PyData.canLay0, PyData.canLayAll0]) (by simp [PyData.showable, PyData.showableAll]) (by simp [PyData.depth, PyData.depthAll]) (by simp [PyData.weight, PyData.weightAll])) (by simp [noStr, noStrs])
theorem alr (n : Nat) (a : Bool) {p q : Rat} (hp : Bn 200 p) (hq : Bn 200 q) : callV prg (n+1) 38 [.list [.bool a, rep p, rep q], .list [.bool a, rep p, rep q]] = some (.bool true, false) := by
  have w1 := wt hp.1
  have w2 := wt hp.2
  have w3 := wt hq.1
  have w4 := wt hq.2
  have l1 := lg hp.1 (by decide)
  have l2 := lg hp.2 (by decide)
  have l3 := lg hq.1 (by decide)
  have l4 := lg hq.2 (by decide)
  refine c_alike n (by simp [rep, pr, shp, SeqAt.shaped, PyData.canLay0, PyData.canLayAll0, PyData.depth, PyData.depthAll]) (shw_of (by simp [rep, pr, PyData.canLay0, PyData.canLayAll0]) ?_ (by simp [rep, pr, PyData.depth, PyData.depthAll]) ?_) (by simp [rep, pr, noStr, noStrs])
  · simp only [Int.natAbs_natCast] at l2 l4
    simp [rep, pr, PyData.showable, PyData.showableAll, l1, l2, l3, l4]
  · have wb : (PyData.bool a).weight = 0 := by rw [PyData.weight]
    have e1 : ∀ x y : PyData, (PyData.tuple [x, y]).weight = x.weight + 1 + (y.weight + 1 + 0) := fun x y => by rw [PyData.weight, PyData.weightAll, PyData.weightAll, PyData.weightAll]
    have e2 : ∀ x y z : PyData, (PyData.list [x, y, z]).weight = x.weight + 1 + (y.weight + 1 + (z.weight + 1 + 0)) := fun x y z => by rw [PyData.weight, PyData.weightAll, PyData.weightAll, PyData.weightAll, PyData.weightAll]
    rw [e2, rep, rep, pr, pr, e1, e1, wb]
    omega
theorem ali (n : Nat) (a : Bool) {i : Int} (hi : Sz 200 i) : callV prg (n+1) 38 [.list [.bool a, .int i, .tuple [.int i, .int 1]], .list [.bool a, .int i, .tuple [.int i, .int 1]]] = some (.bool true, false) := by
  have w1 := wt hi
  have l1 := lg hi (by decide)
  refine c_alike n (by simp [shp, SeqAt.shaped, PyData.canLay0, PyData.canLayAll0, PyData.depth, PyData.depthAll]) (shw_of (by simp [PyData.canLay0, PyData.canLayAll0]) ?_ (by simp [PyData.depth, PyData.depthAll]) ?_) (by simp [noStr, noStrs])
  · have l2 : Nat.log2 1 < 1920 := by decide
    simp [PyData.showable, PyData.showableAll, l1, l2]
  · have wb : (PyData.bool a).weight = 0 := by rw [PyData.weight]
    have w2 := wt (i := 1) (k := 1) (by decide)
    have e1 : ∀ x y : PyData, (PyData.tuple [x, y]).weight = x.weight + 1 + (y.weight + 1 + 0) := fun x y => by rw [PyData.weight, PyData.weightAll, PyData.weightAll, PyData.weightAll]
    have e2 : ∀ x y z : PyData, (PyData.list [x, y, z]).weight = x.weight + 1 + (y.weight + 1 + (z.weight + 1 + 0)) := fun x y z => by rw [PyData.weight, PyData.weightAll, PyData.weightAll, PyData.weightAll, PyData.weightAll]
    rw [e2, e1, wb]
    omega
end K43

namespace K43
open PySem EV Tab
/-! ### the easier ones -/
def Rule.es (r : Rule) : List Rule := [{r with hold := max 1 (r.hold - 1)}, {r with late := max 0 (r.late - 1)}, {r with run := max 0 (r.run - 1)}, {r with apart := max 0 (r.apart - 1)}, {r with wait := min 1000000 (r.wait + 1)}] ++ (if r.k = .H then [{r with k := .A}] else [])
structure Easy (e r : Rule) : Prop where
  ok : e.Ok
  hold : 1 ≤ e.hold
  need : e.need ≤ r.need
  wait : r.wait ≤ e.wait
theorem es_easy {r : Rule} (h : r.Drawn) : ∀ e ∈ r.es, Easy e r := by
  have a := h.hold
  have b := h.late
  have c := h.apart
  have d := h.run
  have w := h.wait
  intro e he
  have key : ∀ (e : Rule), (e.k = r.k ∨ (e.k = .A ∧ r.k = .H)) → 1 ≤ e.hold → e.hold ≤ r.hold → 0 ≤ e.late → e.late ≤ r.late → 0 ≤ e.apart → e.apart ≤ r.apart → 0 ≤ e.run → e.run ≤ r.run → r.wait ≤ e.wait → e.wait ≤ 1000000 → Easy e r := by
    intro e h1 h2 h3 h4 h5 h6 h7 h8 h9 h10 h11
    have ok : e.Ok := ⟨by omega, by omega, by omega, by omega, by omega⟩
    exact ⟨ok, h2, need_mono ok h.ok h1 h3 h5 h7 h9, h10⟩
  simp only [Rule.es, List.mem_append, List.mem_cons, List.not_mem_nil, _root_.or_false] at he
  rcases he with (rfl | rfl | rfl | rfl | rfl) | he
  · exact key _ (.inl rfl) (by show 1 ≤ max 1 (r.hold - 1); omega) (by show max 1 (r.hold - 1) ≤ r.hold; omega) b.1 (Int.le_refl _) c.1 (Int.le_refl _) d.1 (Int.le_refl _) (Int.le_refl _) w.2
  · exact key _ (.inl rfl) a.1 (Int.le_refl _) (by show 0 ≤ max 0 (r.late - 1); omega) (by show max 0 (r.late - 1) ≤ r.late; omega) c.1 (Int.le_refl _) d.1 (Int.le_refl _) (Int.le_refl _) w.2
  · exact key _ (.inl rfl) a.1 (Int.le_refl _) b.1 (Int.le_refl _) c.1 (Int.le_refl _) (by show 0 ≤ max 0 (r.run - 1); omega) (by show max 0 (r.run - 1) ≤ r.run; omega) (Int.le_refl _) w.2
  · exact key _ (.inl rfl) a.1 (Int.le_refl _) b.1 (Int.le_refl _) (by show 0 ≤ max 0 (r.apart - 1); omega) (by show max 0 (r.apart - 1) ≤ r.apart; omega) d.1 (Int.le_refl _) (Int.le_refl _) w.2
  · exact key _ (.inl rfl) a.1 (Int.le_refl _) b.1 (Int.le_refl _) c.1 (Int.le_refl _) d.1 (Int.le_refl _) (by show r.wait ≤ min 1000000 (r.wait + 1); omega) (by show min 1000000 (r.wait + 1) ≤ 1000000; omega)
  · by_cases hk : r.k = .H
    · rw [if_pos hk] at he
      simp at he
      subst he
      exact key _ (.inr ⟨rfl, hk⟩) a.1 (Int.le_refl _) b.1 (Int.le_refl _) c.1 (Int.le_refl _) d.1 (Int.le_refl _) (Int.le_refl _) w.2
    · rw [if_neg hk] at he
      simp at he
/-! ### one lap -/
abbrev LE (s : PyData) (b : Bag) (x2 : Option Sl) (r : Rule) (x10 x11 x12 x13 x14 x15 x16 x17 x18 x19 x20 x21 : Option Sl) : Ev := [fz s, some ⟨b.D, true, false⟩, x2, fz r.D, fz (.str r.k.s), fz (.int r.hold), fz (.int r.late), fz (.int r.apart), fz (.int r.run), fz (.int r.wait), x10, x11, x12, x13, x14, x15, x16, x17, x18, x19, x20, x21]
def Rule.found (r : Rule) : PyData := if r.safe = true then .none else r.brk.D r
theorem found_none (r : Rule) : isNoneD r.found = r.safe := by
  unfold Rule.found
  cases h : r.safe <;> simp [isNoneD, Tm.D]
theorem c_found (n : Nat) {r : Rule} (h : r.Ok) : callV prg (n+6) 29 [r.D] = some (r.found, false) := by
  unfold Rule.found
  cases hs : r.safe
  · exact c_break_of n h hs
  · exact c_break_of_safe n h hs
section
variable {s : PyData} {b b' : Bag} {x2 : Option Sl} {r : Rule} (q2 q3 q4 q5 q6 q7 q8 q9 q10 q11 q12 q13 q14 q15 q16 q17 q18 q19 q20 q21 : Option (D × Bool))
abbrev SE (s : PyData) (b : Bag) : Ev := [fz s, some ⟨b.D, true, false⟩, Slq q2, Slq q3, Slq q4, Slq q5, Slq q6, Slq q7, Slq q8, Slq q9, Slq q10, Slq q11, Slq q12, Slq q13, Slq q14, Slq q15, Slq q16, Slq q17, Slq q18, Slq q19, Slq q20, Slq q21]
theorem w1 (e : Phi prg 19 35 [some ⟨b.D, true, true⟩] = some (r.D, false, [some ⟨b'.D, true, true⟩])) : exS (Phi prg 19) (.asg 3 (.fn 35 [true] [.var 1])) (SE q2 q3 q4 q5 q6 q7 q8 q9 q10 q11 q12 q13 q14 q15 q16 q17 q18 q19 q20 q21 s b) = some (.nx [fz s, some ⟨b'.D, true, false⟩, Slq q2, fz r.D, Slq q4, Slq q5, Slq q6, Slq q7, Slq q8, Slq q9, Slq q10, Slq q11, Slq q12, Slq q13, Slq q14, Slq q15, Slq q16, Slq q17, Slq q18, Slq q19, Slq q20, Slq q21]) := by
  have e1 := fn_lent1 (Φ := Phi prg 19) (f := 35) (i := 1) (ρ := SE q2 q3 q4 q5 q6 q7 q8 q9 q10 q11 q12 q13 q14 q15 q16 q17 q18 q19 q20 q21 s b) rfl e
  simp [retOf, exB, exS, stSeq, stRetE, stRetV, stRet, stAsg, stAsgT, stPar, stIf, stNx, stEx, evPs, evPnil, evPcons, stores, stor_eq, okS_none, okS_some, okS_q, asgT, asgTs, ee_cst, ee_glo, ee_var, ee_tup, ee_lst, ee_star, ee_bin, ee_neg, ee_cmp, ee_chn, ee_and, ee_or, ee_not, ee_ite, ee_ix, ee_sl, ee_bi, evE_fn1, evE_fn2, evE_fn3, evE_fn4, evBr, evBi, evBin, evCmp, evUn, evChn, evSl, evPart, partD, slD, evDisp, evStar, spread, seqD, evOs, evConsO, evNilO, opnd, gets, Opn.get, evC, evVar, evVs, evCons, evNil, outV, ixD, at0, at1, at2, at3, at4, at5, at6, at7, cmp_lt, cmp_le, cmp_gt, cmp_ge, cmp_eq_int, cmp_ne_int, cmp_is_none, cmp_isn_none, cmp_is_bool, cmp_isn_bool, add_int, sub_int, biD, negD, fz, List.replicate, lz0, lz1, lz2, lz3, lz4, lz5, lz6, lz7, lz8] at e1 ⊢
  simp [e1, retOf, exB, exS, stSeq, stRetE, stRetV, stRet, stAsg, stAsgT, stPar, stIf, stNx, stEx, evPs, evPnil, evPcons, stores, stor_eq, okS_none, okS_some, okS_q, asgT, asgTs, ee_cst, ee_glo, ee_var, ee_tup, ee_lst, ee_star, ee_bin, ee_neg, ee_cmp, ee_chn, ee_and, ee_or, ee_not, ee_ite, ee_ix, ee_sl, ee_bi, evE_fn1, evE_fn2, evE_fn3, evE_fn4, evBr, evBi, evBin, evCmp, evUn, evChn, evSl, evPart, partD, slD, evDisp, evStar, spread, seqD, evOs, evConsO, evNilO, opnd, gets, Opn.get, evC, evVar, evVs, evCons, evNil, outV, ixD, at0, at1, at2, at3, at4, at5, at6, at7, cmp_lt, cmp_le, cmp_gt, cmp_ge, cmp_eq_int, cmp_ne_int, cmp_is_none, cmp_isn_none, cmp_is_bool, cmp_isn_bool, add_int, sub_int, biD, negD, fz, List.replicate, lz0, lz1, lz2, lz3, lz4, lz5, lz6, lz7, lz8]
theorem w2 : exS (Phi prg 19) (.asgT (.tup [.name 4, .name 5, .name 6, .name 7, .name 8, .name 9]) (.var 3)) [fz s, some ⟨b.D, true, false⟩, Slq q2, fz r.D, Slq q4, Slq q5, Slq q6, Slq q7, Slq q8, Slq q9, Slq q10, Slq q11, Slq q12, Slq q13, Slq q14, Slq q15, Slq q16, Slq q17, Slq q18, Slq q19, Slq q20, Slq q21] = some (.nx (LE s b (Slq q2) r (Slq q10) (Slq q11) (Slq q12) (Slq q13) (Slq q14) (Slq q15) (Slq q16) (Slq q17) (Slq q18) (Slq q19) (Slq q20) (Slq q21))) := by
  have hd : r.D = .tuple [.str r.k.s, .int r.hold, .int r.late, .int r.apart, .int r.run, .int r.wait] := rfl
  simp [retOf, exB, exS, stSeq, stRetE, stRetV, stRet, stAsg, stAsgT, stPar, stIf, stNx, stEx, evPs, evPnil, evPcons, stores, stor_eq, okS_none, okS_some, okS_q, asgT, asgTs, ee_cst, ee_glo, ee_var, ee_tup, ee_lst, ee_star, ee_bin, ee_neg, ee_cmp, ee_chn, ee_and, ee_or, ee_not, ee_ite, ee_ix, ee_sl, ee_bi, evE_fn1, evE_fn2, evE_fn3, evE_fn4, evBr, evBi, evBin, evCmp, evUn, evChn, evSl, evPart, partD, slD, evDisp, evStar, spread, seqD, evOs, evConsO, evNilO, opnd, gets, Opn.get, evC, evVar, evVs, evCons, evNil, outV, ixD, at0, at1, at2, at3, at4, at5, at6, at7, cmp_lt, cmp_le, cmp_gt, cmp_ge, cmp_eq_int, cmp_ne_int, cmp_is_none, cmp_isn_none, cmp_is_bool, cmp_isn_bool, add_int, sub_int, biD, negD, fz, List.replicate, lz0, lz1, lz2, lz3, lz4, lz5, lz6, lz7, lz8, hd]
theorem w3 (h : r.Ok) : exS (Phi prg 19) (.par [10, 11] [.fn 34 [false] [.var 3], .fn 29 [false] [.var 3]]) (LE s b x2 r (Slq q10) (Slq q11) (Slq q12) (Slq q13) (Slq q14) (Slq q15) (Slq q16) (Slq q17) (Slq q18) (Slq q19) (Slq q20) (Slq q21)) = some (.nx (LE s b x2 r (fz (.bool r.safe)) (fz r.found) (Slq q12) (Slq q13) (Slq q14) (Slq q15) (Slq q16) (Slq q17) (Slq q18) (Slq q19) (Slq q20) (Slq q21))) := by
  have e1 := c_law_is_safe 16 h
  have e2 := c_found 13 h
  simp [retOf, exB, exS, stSeq, stRetE, stRetV, stRet, stAsg, stAsgT, stPar, stIf, stNx, stEx, evPs, evPnil, evPcons, stores, stor_eq, okS_none, okS_some, okS_q, asgT, asgTs, ee_cst, ee_glo, ee_var, ee_tup, ee_lst, ee_star, ee_bin, ee_neg, ee_cmp, ee_chn, ee_and, ee_or, ee_not, ee_ite, ee_ix, ee_sl, ee_bi, evE_fn1, evE_fn2, evE_fn3, evE_fn4, evBr, evBi, evBin, evCmp, evUn, evChn, evSl, evPart, partD, slD, evDisp, evStar, spread, seqD, evOs, evConsO, evNilO, opnd, gets, Opn.get, evC, evVar, evVs, evCons, evNil, outV, ixD, at0, at1, at2, at3, at4, at5, at6, at7, cmp_lt, cmp_le, cmp_gt, cmp_ge, cmp_eq_int, cmp_ne_int, cmp_is_none, cmp_isn_none, cmp_is_bool, cmp_isn_bool, add_int, sub_int, biD, negD, fz, List.replicate, lz0, lz1, lz2, lz3, lz4, lz5, lz6, lz7, lz8, e1, e2]
theorem w4 (h : r.Drawn) : exS (Phi prg 19) (.cond (.not (.fn 38 [false, false] [.lst [.fn 7 [false] [.var 3], .fn 10 [false] [.var 3], .cmp .is (.var 11) (.cst .none)], .lst [.cst (.bool true), .var 10, .var 10]])) [.ret (.cst (.bool false))] []) (LE s b x2 r (fz (.bool r.safe)) (fz r.found) (Slq q12) (Slq q13) (Slq q14) (Slq q15) (Slq q16) (Slq q17) (Slq q18) (Slq q19) (Slq q20) (Slq q21)) = some (.nx (LE s b x2 r (fz (.bool r.safe)) (fz r.found) (Slq q12) (Slq q13) (Slq q14) (Slq q15) (Slq q16) (Slq q17) (Slq q18) (Slq q19) (Slq q20) (Slq q21))) := by
  have e1 := c_is_lease_rule 16 r h.hold ⟨h.late.1, by have := h.late.2; omega⟩ h.apart ⟨h.run.1, by have := h.run.2; omega⟩ h.wait
  have e2 := c_is_safe 14 h.ok
  have e3 := al3 18 true r.safe r.safe
  have e4 : cmpD .is r.found .none = some r.safe := by rw [cmp_is_none, found_none]
  refine skip (fr := false) ?_
  simp [retOf, exB, exS, stSeq, stRetE, stRetV, stRet, stAsg, stAsgT, stPar, stIf, stNx, stEx, evPs, evPnil, evPcons, stores, stor_eq, okS_none, okS_some, okS_q, asgT, asgTs, ee_cst, ee_glo, ee_var, ee_tup, ee_lst, ee_star, ee_bin, ee_neg, ee_cmp, ee_chn, ee_and, ee_or, ee_not, ee_ite, ee_ix, ee_sl, ee_bi, evE_fn1, evE_fn2, evE_fn3, evE_fn4, evBr, evBi, evBin, evCmp, evUn, evChn, evSl, evPart, partD, slD, evDisp, evStar, spread, seqD, evOs, evConsO, evNilO, opnd, gets, Opn.get, evC, evVar, evVs, evCons, evNil, outV, ixD, at0, at1, at2, at3, at4, at5, at6, at7, cmp_lt, cmp_le, cmp_gt, cmp_ge, cmp_eq_int, cmp_ne_int, cmp_is_none, cmp_isn_none, cmp_is_bool, cmp_isn_bool, add_int, sub_int, biD, negD, fz, List.replicate, lz0, lz1, lz2, lz3, lz4, lz5, lz6, lz7, lz8, e1, e2, e3, found_none]
theorem w5 {v : Int} (e : Phi prg 19 37 [some ⟨b.D, true, true⟩, fz (.int 4)] = some (.int v, false, [some ⟨b'.D, true, true⟩, fz (.int 4)])) (x10 x11 : Option Sl) : exS (Phi prg 19) (.asg 12 (.bin .add (.cst (.int (2))) (.fn 37 [true, false] [.var 1, .cst (.int (4))]))) (LE s b x2 r x10 x11 (Slq q12) (Slq q13) (Slq q14) (Slq q15) (Slq q16) (Slq q17) (Slq q18) (Slq q19) (Slq q20) (Slq q21)) = some (.nx (LE s b' x2 r x10 x11 (fz (.int (2 + v))) (Slq q13) (Slq q14) (Slq q15) (Slq q16) (Slq q17) (Slq q18) (Slq q19) (Slq q20) (Slq q21))) := by
  have e1 := fn_lent (Φ := Phi prg 19) (f := 37) (i := 1) (e := .cst (.int 4)) (fr2 := false) (ρ := LE s b x2 r x10 x11 (Slq q12) (Slq q13) (Slq q14) (Slq q15) (Slq q16) (Slq q17) (Slq q18) (Slq q19) (Slq q20) (Slq q21)) (ρ1 := LE s b x2 r x10 x11 (Slq q12) (Slq q13) (Slq q14) (Slq q15) (Slq q16) (Slq q17) (Slq q18) (Slq q19) (Slq q20) (Slq q21)) rfl (by simp [retOf, exB, exS, stSeq, stRetE, stRetV, stRet, stAsg, stAsgT, stPar, stIf, stNx, stEx, evPs, evPnil, evPcons, stores, stor_eq, okS_none, okS_some, okS_q, asgT, asgTs, ee_cst, ee_glo, ee_var, ee_tup, ee_lst, ee_star, ee_bin, ee_neg, ee_cmp, ee_chn, ee_and, ee_or, ee_not, ee_ite, ee_ix, ee_sl, ee_bi, evE_fn1, evE_fn2, evE_fn3, evE_fn4, evBr, evBi, evBin, evCmp, evUn, evChn, evSl, evPart, partD, slD, evDisp, evStar, spread, seqD, evOs, evConsO, evNilO, opnd, gets, Opn.get, evC, evVar, evVs, evCons, evNil, outV, ixD, at0, at1, at2, at3, at4, at5, at6, at7, cmp_lt, cmp_le, cmp_gt, cmp_ge, cmp_eq_int, cmp_ne_int, cmp_is_none, cmp_isn_none, cmp_is_bool, cmp_isn_bool, add_int, sub_int, biD, negD, fz, List.replicate, lz0, lz1, lz2, lz3, lz4, lz5, lz6, lz7, lz8]) rfl e
  simp [retOf, exB, exS, stSeq, stRetE, stRetV, stRet, stAsg, stAsgT, stPar, stIf, stNx, stEx, evPs, evPnil, evPcons, stores, stor_eq, okS_none, okS_some, okS_q, asgT, asgTs, ee_cst, ee_glo, ee_var, ee_tup, ee_lst, ee_star, ee_bin, ee_neg, ee_cmp, ee_chn, ee_and, ee_or, ee_not, ee_ite, ee_ix, ee_sl, ee_bi, evE_fn1, evE_fn2, evE_fn3, evE_fn4, evBr, evBi, evBin, evCmp, evUn, evChn, evSl, evPart, partD, slD, evDisp, evStar, spread, seqD, evOs, evConsO, evNilO, opnd, gets, Opn.get, evC, evVar, evVs, evCons, evNil, outV, ixD, at0, at1, at2, at3, at4, at5, at6, at7, cmp_lt, cmp_le, cmp_gt, cmp_ge, cmp_eq_int, cmp_ne_int, cmp_is_none, cmp_isn_none, cmp_is_bool, cmp_isn_bool, add_int, sub_int, biD, negD, fz, List.replicate, lz0, lz1, lz2, lz3, lz4, lz5, lz6, lz7, lz8] at e1 ⊢
  simp [e1, retOf, exB, exS, stSeq, stRetE, stRetV, stRet, stAsg, stAsgT, stPar, stIf, stNx, stEx, evPs, evPnil, evPcons, stores, stor_eq, okS_none, okS_some, okS_q, asgT, asgTs, ee_cst, ee_glo, ee_var, ee_tup, ee_lst, ee_star, ee_bin, ee_neg, ee_cmp, ee_chn, ee_and, ee_or, ee_not, ee_ite, ee_ix, ee_sl, ee_bi, evE_fn1, evE_fn2, evE_fn3, evE_fn4, evBr, evBi, evBin, evCmp, evUn, evChn, evSl, evPart, partD, slD, evDisp, evStar, spread, seqD, evOs, evConsO, evNilO, opnd, gets, Opn.get, evC, evVar, evVs, evCons, evNil, outV, ixD, at0, at1, at2, at3, at4, at5, at6, at7, cmp_lt, cmp_le, cmp_gt, cmp_ge, cmp_eq_int, cmp_ne_int, cmp_is_none, cmp_isn_none, cmp_is_bool, cmp_isn_bool, add_int, sub_int, biD, negD, fz, List.replicate, lz0, lz1, lz2, lz3, lz4, lz5, lz6, lz7, lz8]
theorem w6 {m : Int} (hm : Sz 8 m) (h : r.Ok) (x10 x11 : Option Sl) : exS (Phi prg 19) (.asg 13 (.fn 39 [false, false] [.var 3, .var 12])) (LE s b x2 r x10 x11 (fz (.int m)) (Slq q13) (Slq q14) (Slq q15) (Slq q16) (Slq q17) (Slq q18) (Slq q19) (Slq q20) (Slq q21)) = some (.nx (LE s b x2 r x10 x11 (fz (.int m)) (fz (r.often m).D) (Slq q14) (Slq q15) (Slq q16) (Slq q17) (Slq q18) (Slq q19) (Slq q20) (Slq q21))) := by
  have e1 := c_often 18 h hm
  simp [retOf, exB, exS, stSeq, stRetE, stRetV, stRet, stAsg, stAsgT, stPar, stIf, stNx, stEx, evPs, evPnil, evPcons, stores, stor_eq, okS_none, okS_some, okS_q, asgT, asgTs, ee_cst, ee_glo, ee_var, ee_tup, ee_lst, ee_star, ee_bin, ee_neg, ee_cmp, ee_chn, ee_and, ee_or, ee_not, ee_ite, ee_ix, ee_sl, ee_bi, evE_fn1, evE_fn2, evE_fn3, evE_fn4, evBr, evBi, evBin, evCmp, evUn, evChn, evSl, evPart, partD, slD, evDisp, evStar, spread, seqD, evOs, evConsO, evNilO, opnd, gets, Opn.get, evC, evVar, evVs, evCons, evNil, outV, ixD, at0, at1, at2, at3, at4, at5, at6, at7, cmp_lt, cmp_le, cmp_gt, cmp_ge, cmp_eq_int, cmp_ne_int, cmp_is_none, cmp_isn_none, cmp_is_bool, cmp_isn_bool, add_int, sub_int, biD, negD, fz, List.replicate, lz0, lz1, lz2, lz3, lz4, lz5, lz6, lz7, lz8, e1]
end
end K43

namespace K43
open PySem EV Tab
theorem bn_spare {r : Rule} (h : r.Ok) : Bn 500 (r.brk.s - r.brk.t) := ((bn_sett h).sub ((bn_beg h).add (bn_int h.run))).up (by decide)
theorem bn_lendb {r : Rule} (h : r.Ok) : Bn 500 (r.brk.lend r) := by
  have e2 : r.brk.lend r = r.came + r.held := c0_lend _
  rw [e2]
  exact ((bn_came h).add (bn_held h)).up (by decide)
section
variable {s : PyData} {b : Bag} {x2 : Option Sl} {r : Rule} (q14 q15 q16 q17 q18 q19 q20 q21 : Option (D × Bool))
abbrev ME (s : PyData) (b : Bag) (x2 : Option Sl) (r : Rule) (m : Int) (q14 q15 q16 q17 q18 q19 q20 q21 : Option (D × Bool)) : Ev := LE s b x2 r (fz (.bool r.safe)) (fz r.found) (fz (.int m)) (fz (r.often m).D) (Slq q14) (Slq q15) (Slq q16) (Slq q17) (Slq q18) (Slq q19) (Slq q20) (Slq q21)
variable {m : Int} (hm : 2 ≤ m ∧ m ≤ 5) (h : r.Drawn) (ho : (r.often m).Ok) (hk : r.k ≠ .U)
include hm h ho hk
theorem i1 : exS (Phi prg 19) (.cond (.not (.fn 38 [false, false] [.lst [.fn 10 [false] [.var 13], .fn 8 [false] [.var 13], .fn 9 [false] [.var 13]], .lst [.var 10, .fn 41 [false, false] [.fn 8 [false] [.var 3], .var 12], .fn 41 [false, false] [.fn 9 [false] [.var 3], .var 12]]])) [.ret (.cst (.bool false))] []) (ME s b x2 r m q14 q15 q16 q17 q18 q19 q20 q21) = some (.nx (ME s b x2 r m q14 q15 q16 q17 q18 q19 q20 q21)) := by
  have hs : Sz 8 m := sz_of (by omega) (by omega)
  have e1 := c_is_safe 14 ho
  rw [o_safe hk (by omega)] at e1
  have e2 := c_last_act 15 ho
  have e3 := c_first_settled 16 ho
  have e4 := c_last_act 15 h.ok
  have e5 := c_first_settled 16 h.ok
  have e6 := c_frac_often 17 ((bn_last h.ok).up (by decide)) hs
  have e7 := c_frac_often 17 ((bn_sett h.ok).up (by decide)) hs
  rw [← o_last hk] at e6
  rw [← o_sett hk] at e7
  have e8 := alr 18 r.safe ((bn_last ho).up (by decide)) ((bn_sett ho).up (by decide))
  refine skip (fr := false) ?_
  simp [retOf, exB, exS, stSeq, stRetE, stRetV, stRet, stAsg, stAsgT, stPar, stIf, stNx, stEx, evPs, evPnil, evPcons, stores, stor_eq, okS_none, okS_some, okS_q, asgT, asgTs, ee_cst, ee_glo, ee_var, ee_tup, ee_lst, ee_star, ee_bin, ee_neg, ee_cmp, ee_chn, ee_and, ee_or, ee_not, ee_ite, ee_ix, ee_sl, ee_bi, evE_fn1, evE_fn2, evE_fn3, evE_fn4, evBr, evBi, evBin, evCmp, evUn, evChn, evSl, evPart, partD, slD, evDisp, evStar, spread, seqD, evOs, evConsO, evNilO, opnd, gets, Opn.get, evC, evVar, evVs, evCons, evNil, outV, ixD, at0, at1, at2, at3, at4, at5, at6, at7, cmp_lt, cmp_le, cmp_gt, cmp_ge, cmp_eq_int, cmp_ne_int, cmp_is_none, cmp_isn_none, cmp_is_bool, cmp_isn_bool, add_int, sub_int, biD, negD, fz, List.replicate, lz0, lz1, lz2, lz3, lz4, lz5, lz6, lz7, lz8, e1, e2, e3, e4, e5, e6, e7, e8]
theorem i2 : exS (Phi prg 19) (.cond (.not (.chn .lt .le (.bin .mul (.var 12) (.bin .sub (.fn 11 [false] [.var 3]) (.cst (.int (1))))) (.fn 11 [false] [.var 13]) (.bin .mul (.var 12) (.fn 11 [false] [.var 3])))) [.ret (.cst (.bool false))] []) (ME s b x2 r m q14 q15 q16 q17 q18 q19 q20 q21) = some (.nx (ME s b x2 r m q14 q15 q16 q17 q18 q19 q20 q21)) := by
  have hs : Sz 8 m := sz_of (by omega) (by omega)
  have e1 := c_least_wait 14 h.ok
  have e2 := c_least_wait 14 ho
  have sw : Sz 210 r.lw := sz_lw h.ok
  have sw2 : Sz 211 (r.lw - 1) := by
    have := sw.add (show Sz 1 (-1) by decide)
    exact this.up (by decide)
  have e3 := mul_int (mulOk_of hs sw2 (by decide))
  have e4 := mul_int (mulOk_of hs sw (by decide))
  have e5 := lw_often hk h.ok ho (by have := h.hold; omega) (by omega)
  refine skip (fr := false) ?_
  simp [retOf, exB, exS, stSeq, stRetE, stRetV, stRet, stAsg, stAsgT, stPar, stIf, stNx, stEx, evPs, evPnil, evPcons, stores, stor_eq, okS_none, okS_some, okS_q, asgT, asgTs, ee_cst, ee_glo, ee_var, ee_tup, ee_lst, ee_star, ee_bin, ee_neg, ee_cmp, ee_chn, ee_and, ee_or, ee_not, ee_ite, ee_ix, ee_sl, ee_bi, evE_fn1, evE_fn2, evE_fn3, evE_fn4, evBr, evBi, evBin, evCmp, evUn, evChn, evSl, evPart, partD, slD, evDisp, evStar, spread, seqD, evOs, evConsO, evNilO, opnd, gets, Opn.get, evC, evVar, evVs, evCons, evNil, outV, ixD, at0, at1, at2, at3, at4, at5, at6, at7, cmp_lt, cmp_le, cmp_gt, cmp_ge, cmp_eq_int, cmp_ne_int, cmp_is_none, cmp_isn_none, cmp_is_bool, cmp_isn_bool, add_int, sub_int, biD, negD, fz, List.replicate, lz0, lz1, lz2, lz3, lz4, lz5, lz6, lz7, lz8, e1, e2, e3, e4, e5.1, e5.2]
theorem i3 : ∃ q, exS (Phi prg 19) (.cond (.cmp .isNot (.var 11) (.cst .none)) [.asg 14 (.fn 42 [false, false] [.var 11, .var 12]),
        .cond (.or (.cmp .isNot (.fn 25 [false, false] [.var 13, .var 14]) (.cst .none)) (.or (.cmp .isNot (.fn 28 [false, false] [.var 13, .var 14]) (.cst (.bool true))) (.cmp .ne (.fn 27 [false, false] [.var 13, .var 14]) (.fn 41 [false, false] [.fn 27 [false, false] [.var 3, .var 11], .var 12])))) [.ret (.cst (.bool false))] [],
        .cond (.or (.cmp .ne (.fn 22 [false, false] [.var 13, .var 14]) (.fn 41 [false, false] [.fn 22 [false, false] [.var 3, .var 11], .var 12])) (.cmp .isNot (.fn 26 [false, false] [.var 3, .var 11]) (.cst (.bool true)))) [.ret (.cst (.bool false))] []] []) (ME s b x2 r m q14 q15 q16 q17 q18 q19 q20 q21) = some (.nx (ME s b x2 r m q q15 q16 q17 q18 q19 q20 q21)) := by
  have hs : Sz 8 m := sz_of (by omega) (by omega)
  have h0 : 0 < r.hold := by have := h.hold; omega
  have ho0 : 0 < (r.often m).hold := Int.mul_pos h0 (by omega)
  cases hsafe : r.safe
  · have hf : r.found = r.brk.D r := by unfold Rule.found; rw [hsafe]; rfl
    have hsafe2 : (r.often m).safe = false := by rw [o_safe hk (by omega), hsafe]
    have hD : ∀ x : Tm, x.D (r.often m) = x.D r := fun x => rfl
    refine ⟨some ((r.often m).brk.D (r.often m), false), ?_⟩
    have e1 := c_course_often 16 r (bn_brk h.ok) hs
    rw [← o_brk hk (by omega)] at e1
    have e1 : callV prg (16+3) 42 [r.brk.D r, .int m] = some ((r.often m).brk.D (r.often m), false) := e1
    have g1 := brk_good ho ho0 hsafe2
    have g2 := brk_good h.ok h0 hsafe
    have e2 := c_course_fault 12 ho (bn_brk ho) g1.1
    have e3 := c_is_break 10 ho (bn_brk ho) g1.1 g1.2
    have e4 := c_spare 14 (r.often m) (bn_brk ho)
    have e5 := c_spare 14 r (bn_brk h.ok)
    have e6 := c_frac_often 17 ((bn_spare h.ok).up (by decide)) hs
    have e7 : (r.brk.s - r.brk.t) * (m : Rat) = (r.often m).brk.s - (r.often m).brk.t := by
      rw [o_brk hk (by omega)]
      show _ = r.brk.s * (m : Rat) - r.brk.t * (m : Rat)
      grind
    rw [e7] at e6
    have e8 := c_lease_end 15 ho (bn_brk ho)
    have e9 := c_lease_end 15 h.ok (bn_brk h.ok)
    have e10 := c_frac_often 17 ((bn_lendb h.ok).up (by decide)) hs
    rw [← o_lend hk (by omega)] at e10
    have e11 := c_is_course 11 h.ok (bn_brk h.ok) g2.1
    have n1 := cmp_ne_refl (shp_rep ((r.often m).brk.s - (r.often m).brk.t))
    have n2 := cmp_ne_refl (shp_rep ((r.often m).brk.lend (r.often m)))
    have nn : isNoneD (r.brk.D r) = false := rfl
    have nn2 : isNoneD PyData.none = true := rfl
    unfold ME
    rw [hf, hsafe]
    rw [if_t (ρ1 := LE s b x2 r (fz (.bool false)) (fz (r.brk.D r)) (fz (.int m)) (fz (r.often m).D) (Slq q14) (Slq q15) (Slq q16) (Slq q17) (Slq q18) (Slq q19) (Slq q20) (Slq q21)) (fr := false) (by simp [retOf, exB, exS, stSeq, stRetE, stRetV, stRet, stAsg, stAsgT, stPar, stIf, stNx, stEx, evPs, evPnil, evPcons, stores, stor_eq, okS_none, okS_some, okS_q, asgT, asgTs, ee_cst, ee_glo, ee_var, ee_tup, ee_lst, ee_star, ee_bin, ee_neg, ee_cmp, ee_chn, ee_and, ee_or, ee_not, ee_ite, ee_ix, ee_sl, ee_bi, evE_fn1, evE_fn2, evE_fn3, evE_fn4, evBr, evBi, evBin, evCmp, evUn, evChn, evSl, evPart, partD, slD, evDisp, evStar, spread, seqD, evOs, evConsO, evNilO, opnd, gets, Opn.get, evC, evVar, evVs, evCons, evNil, outV, ixD, at0, at1, at2, at3, at4, at5, at6, at7, cmp_lt, cmp_le, cmp_gt, cmp_ge, cmp_eq_int, cmp_ne_int, cmp_is_none, cmp_isn_none, cmp_is_bool, cmp_isn_bool, add_int, sub_int, biD, negD, fz, List.replicate, lz0, lz1, lz2, lz3, lz4, lz5, lz6, lz7, lz8, nn])]
    refine b_nx (ρ' := LE s b x2 r (fz (.bool false)) (fz (r.brk.D r)) (fz (.int m)) (fz (r.often m).D) (fz ((r.often m).brk.D (r.often m))) (Slq q15) (Slq q16) (Slq q17) (Slq q18) (Slq q19) (Slq q20) (Slq q21)) (by simp [retOf, exB, exS, stSeq, stRetE, stRetV, stRet, stAsg, stAsgT, stPar, stIf, stNx, stEx, evPs, evPnil, evPcons, stores, stor_eq, okS_none, okS_some, okS_q, asgT, asgTs, ee_cst, ee_glo, ee_var, ee_tup, ee_lst, ee_star, ee_bin, ee_neg, ee_cmp, ee_chn, ee_and, ee_or, ee_not, ee_ite, ee_ix, ee_sl, ee_bi, evE_fn1, evE_fn2, evE_fn3, evE_fn4, evBr, evBi, evBin, evCmp, evUn, evChn, evSl, evPart, partD, slD, evDisp, evStar, spread, seqD, evOs, evConsO, evNilO, opnd, gets, Opn.get, evC, evVar, evVs, evCons, evNil, outV, ixD, at0, at1, at2, at3, at4, at5, at6, at7, cmp_lt, cmp_le, cmp_gt, cmp_ge, cmp_eq_int, cmp_ne_int, cmp_is_none, cmp_isn_none, cmp_is_bool, cmp_isn_bool, add_int, sub_int, biD, negD, fz, List.replicate, lz0, lz1, lz2, lz3, lz4, lz5, lz6, lz7, lz8, e1]) ?_
    refine b_nx (ρ' := LE s b x2 r (fz (.bool false)) (fz (r.brk.D r)) (fz (.int m)) (fz (r.often m).D) (fz ((r.often m).brk.D (r.often m))) (Slq q15) (Slq q16) (Slq q17) (Slq q18) (Slq q19) (Slq q20) (Slq q21)) (skip (fr := false) (by simp [retOf, exB, exS, stSeq, stRetE, stRetV, stRet, stAsg, stAsgT, stPar, stIf, stNx, stEx, evPs, evPnil, evPcons, stores, stor_eq, okS_none, okS_some, okS_q, asgT, asgTs, ee_cst, ee_glo, ee_var, ee_tup, ee_lst, ee_star, ee_bin, ee_neg, ee_cmp, ee_chn, ee_and, ee_or, ee_not, ee_ite, ee_ix, ee_sl, ee_bi, evE_fn1, evE_fn2, evE_fn3, evE_fn4, evBr, evBi, evBin, evCmp, evUn, evChn, evSl, evPart, partD, slD, evDisp, evStar, spread, seqD, evOs, evConsO, evNilO, opnd, gets, Opn.get, evC, evVar, evVs, evCons, evNil, outV, ixD, at0, at1, at2, at3, at4, at5, at6, at7, cmp_lt, cmp_le, cmp_gt, cmp_ge, cmp_eq_int, cmp_ne_int, cmp_is_none, cmp_isn_none, cmp_is_bool, cmp_isn_bool, add_int, sub_int, biD, negD, fz, List.replicate, lz0, lz1, lz2, lz3, lz4, lz5, lz6, lz7, lz8, e2, e3, e4, e5, e6, n1, nn2])) ?_
    refine b_nx (ρ' := LE s b x2 r (fz (.bool false)) (fz (r.brk.D r)) (fz (.int m)) (fz (r.often m).D) (fz ((r.often m).brk.D (r.often m))) (Slq q15) (Slq q16) (Slq q17) (Slq q18) (Slq q19) (Slq q20) (Slq q21)) (skip (fr := false) (by simp [retOf, exB, exS, stSeq, stRetE, stRetV, stRet, stAsg, stAsgT, stPar, stIf, stNx, stEx, evPs, evPnil, evPcons, stores, stor_eq, okS_none, okS_some, okS_q, asgT, asgTs, ee_cst, ee_glo, ee_var, ee_tup, ee_lst, ee_star, ee_bin, ee_neg, ee_cmp, ee_chn, ee_and, ee_or, ee_not, ee_ite, ee_ix, ee_sl, ee_bi, evE_fn1, evE_fn2, evE_fn3, evE_fn4, evBr, evBi, evBin, evCmp, evUn, evChn, evSl, evPart, partD, slD, evDisp, evStar, spread, seqD, evOs, evConsO, evNilO, opnd, gets, Opn.get, evC, evVar, evVs, evCons, evNil, outV, ixD, at0, at1, at2, at3, at4, at5, at6, at7, cmp_lt, cmp_le, cmp_gt, cmp_ge, cmp_eq_int, cmp_ne_int, cmp_is_none, cmp_isn_none, cmp_is_bool, cmp_isn_bool, add_int, sub_int, biD, negD, fz, List.replicate, lz0, lz1, lz2, lz3, lz4, lz5, lz6, lz7, lz8, e8, e9, e10, e11, n2])) ?_
    exact b_nil
  · have hf : r.found = .none := by unfold Rule.found; rw [hsafe]; rfl
    have nn2 : isNoneD PyData.none = true := rfl
    refine ⟨q14, ?_⟩
    unfold ME
    rw [hf]
    exact skip (fr := false) (by simp [retOf, exB, exS, stSeq, stRetE, stRetV, stRet, stAsg, stAsgT, stPar, stIf, stNx, stEx, evPs, evPnil, evPcons, stores, stor_eq, okS_none, okS_some, okS_q, asgT, asgTs, ee_cst, ee_glo, ee_var, ee_tup, ee_lst, ee_star, ee_bin, ee_neg, ee_cmp, ee_chn, ee_and, ee_or, ee_not, ee_ite, ee_ix, ee_sl, ee_bi, evE_fn1, evE_fn2, evE_fn3, evE_fn4, evBr, evBi, evBin, evCmp, evUn, evChn, evSl, evPart, partD, slD, evDisp, evStar, spread, seqD, evOs, evConsO, evNilO, opnd, gets, Opn.get, evC, evVar, evVs, evCons, evNil, outV, ixD, at0, at1, at2, at3, at4, at5, at6, at7, cmp_lt, cmp_le, cmp_gt, cmp_ge, cmp_eq_int, cmp_ne_int, cmp_is_none, cmp_isn_none, cmp_is_bool, cmp_isn_bool, add_int, sub_int, biD, negD, fz, List.replicate, lz0, lz1, lz2, lz3, lz4, lz5, lz6, lz7, lz8, nn2])
omit ho hk in
theorem w7 : ∃ q, exS (Phi prg 19) (.cond (.and (.cmp .ne (.var 4) (.cst (.str "until"))) (.fn 40 [false] [.var 13])) [.cond (.not (.fn 38 [false, false] [.lst [.fn 10 [false] [.var 13], .fn 8 [false] [.var 13], .fn 9 [false] [.var 13]], .lst [.var 10, .fn 41 [false, false] [.fn 8 [false] [.var 3], .var 12], .fn 41 [false, false] [.fn 9 [false] [.var 3], .var 12]]])) [.ret (.cst (.bool false))] [],
      .cond (.not (.chn .lt .le (.bin .mul (.var 12) (.bin .sub (.fn 11 [false] [.var 3]) (.cst (.int (1))))) (.fn 11 [false] [.var 13]) (.bin .mul (.var 12) (.fn 11 [false] [.var 3])))) [.ret (.cst (.bool false))] [],
      .cond (.cmp .isNot (.var 11) (.cst .none)) [.asg 14 (.fn 42 [false, false] [.var 11, .var 12]),
        .cond (.or (.cmp .isNot (.fn 25 [false, false] [.var 13, .var 14]) (.cst .none)) (.or (.cmp .isNot (.fn 28 [false, false] [.var 13, .var 14]) (.cst (.bool true))) (.cmp .ne (.fn 27 [false, false] [.var 13, .var 14]) (.fn 41 [false, false] [.fn 27 [false, false] [.var 3, .var 11], .var 12])))) [.ret (.cst (.bool false))] [],
        .cond (.or (.cmp .ne (.fn 22 [false, false] [.var 13, .var 14]) (.fn 41 [false, false] [.fn 22 [false, false] [.var 3, .var 11], .var 12])) (.cmp .isNot (.fn 26 [false, false] [.var 3, .var 11]) (.cst (.bool true)))) [.ret (.cst (.bool false))] []] []] []) (ME s b x2 r m q14 q15 q16 q17 q18 q19 q20 q21) = some (.nx (ME s b x2 r m q q15 q16 q17 q18 q19 q20 q21)) := by
  by_cases hk : r.k = .U
  · exact ⟨q14, skip (fr := false) (by simp [retOf, exB, exS, stSeq, stRetE, stRetV, stRet, stAsg, stAsgT, stPar, stIf, stNx, stEx, evPs, evPnil, evPcons, stores, stor_eq, okS_none, okS_some, okS_q, asgT, asgTs, ee_cst, ee_glo, ee_var, ee_tup, ee_lst, ee_star, ee_bin, ee_neg, ee_cmp, ee_chn, ee_and, ee_or, ee_not, ee_ite, ee_ix, ee_sl, ee_bi, evE_fn1, evE_fn2, evE_fn3, evE_fn4, evBr, evBi, evBin, evCmp, evUn, evChn, evSl, evPart, partD, slD, evDisp, evStar, spread, seqD, evOs, evConsO, evNilO, opnd, gets, Opn.get, evC, evVar, evVs, evCons, evNil, outV, ixD, at0, at1, at2, at3, at4, at5, at6, at7, cmp_lt, cmp_le, cmp_gt, cmp_ge, cmp_eq_int, cmp_ne_int, cmp_is_none, cmp_isn_none, cmp_is_bool, cmp_isn_bool, add_int, sub_int, biD, negD, fz, List.replicate, lz0, lz1, lz2, lz3, lz4, lz5, lz6, lz7, lz8, k_nuntil, hk])⟩
  · have e := c_in_bounds 18 (r.often m)
    by_cases hb : (r.often m).hold ≤ 1000000 ∧ (r.often m).late ≤ 1000000 ∧ (r.often m).run ≤ 1000000 ∧ (r.often m).wait ≤ 1000000
    · rw [decide_eq_true hb] at e
      have ho : (r.often m).Ok := by
        obtain ⟨b1, b2, b3, b4⟩ := hb
        have a1 : 0 ≤ (r.often m).hold := Int.mul_nonneg (by have := h.hold; omega) (by omega)
        have a2 : 0 ≤ (r.often m).late := Int.mul_nonneg h.late.1 (by omega)
        have a3 : 0 ≤ (r.often m).run := Int.mul_nonneg h.run.1 (by omega)
        have a4 : 0 ≤ (r.often m).wait := Int.mul_nonneg (by have := h.wait; omega) (by omega)
        exact ⟨⟨a1, by omega⟩, ⟨a2, by omega⟩, h.apart, ⟨a3, by omega⟩, ⟨a4, by omega⟩⟩
      obtain ⟨q, e3⟩ := i3 (s := s) (b := b) (x2 := x2) q14 q15 q16 q17 q18 q19 q20 q21 hm h ho hk
      refine ⟨q, ?_⟩
      rw [if_t (ρ1 := ME s b x2 r m q14 q15 q16 q17 q18 q19 q20 q21) (fr := false) (by simp [retOf, exB, exS, stSeq, stRetE, stRetV, stRet, stAsg, stAsgT, stPar, stIf, stNx, stEx, evPs, evPnil, evPcons, stores, stor_eq, okS_none, okS_some, okS_q, asgT, asgTs, ee_cst, ee_glo, ee_var, ee_tup, ee_lst, ee_star, ee_bin, ee_neg, ee_cmp, ee_chn, ee_and, ee_or, ee_not, ee_ite, ee_ix, ee_sl, ee_bi, evE_fn1, evE_fn2, evE_fn3, evE_fn4, evBr, evBi, evBin, evCmp, evUn, evChn, evSl, evPart, partD, slD, evDisp, evStar, spread, seqD, evOs, evConsO, evNilO, opnd, gets, Opn.get, evC, evVar, evVs, evCons, evNil, outV, ixD, at0, at1, at2, at3, at4, at5, at6, at7, cmp_lt, cmp_le, cmp_gt, cmp_ge, cmp_eq_int, cmp_ne_int, cmp_is_none, cmp_isn_none, cmp_is_bool, cmp_isn_bool, add_int, sub_int, biD, negD, fz, List.replicate, lz0, lz1, lz2, lz3, lz4, lz5, lz6, lz7, lz8, k_nuntil, hk, e])]
      refine b_nx (i1 q14 q15 q16 q17 q18 q19 q20 q21 hm h ho hk) ?_
      refine b_nx (i2 q14 q15 q16 q17 q18 q19 q20 q21 hm h ho hk) ?_
      exact b_nx e3 b_nil
    · rw [decide_eq_false hb] at e
      exact ⟨q14, skip (fr := false) (by simp [retOf, exB, exS, stSeq, stRetE, stRetV, stRet, stAsg, stAsgT, stPar, stIf, stNx, stEx, evPs, evPnil, evPcons, stores, stor_eq, okS_none, okS_some, okS_q, asgT, asgTs, ee_cst, ee_glo, ee_var, ee_tup, ee_lst, ee_star, ee_bin, ee_neg, ee_cmp, ee_chn, ee_and, ee_or, ee_not, ee_ite, ee_ix, ee_sl, ee_bi, evE_fn1, evE_fn2, evE_fn3, evE_fn4, evBr, evBi, evBin, evCmp, evUn, evChn, evSl, evPart, partD, slD, evDisp, evStar, spread, seqD, evOs, evConsO, evNilO, opnd, gets, Opn.get, evC, evVar, evVs, evCons, evNil, outV, ixD, at0, at1, at2, at3, at4, at5, at6, at7, cmp_lt, cmp_le, cmp_gt, cmp_ge, cmp_eq_int, cmp_ne_int, cmp_is_none, cmp_isn_none, cmp_is_bool, cmp_isn_bool, add_int, sub_int, biD, negD, fz, List.replicate, lz0, lz1, lz2, lz3, lz4, lz5, lz6, lz7, lz8, k_nuntil, hk, e])⟩
end
end K43

namespace K43
open PySem EV Tab
def Rule.es3 (r : Rule) : List Rule := [{r with hold := max 1 (r.hold - 1)}, {r with late := max 0 (r.late - 1)}, {r with run := max 0 (r.run - 1)}]
def Rule.es2 (r : Rule) : List Rule := [{r with apart := max 0 (r.apart - 1)}, {r with wait := min 1000000 (r.wait + 1)}]
def Rule.es1 (r : Rule) : List Rule := if r.k = .H then [{r with k := .A}] else []
theorem es_eq (r : Rule) : r.es = r.es3 ++ r.es2 ++ r.es1 := rfl
abbrev oL (rs : List Rule) : Option Sl := some ⟨.list (rs.map Rule.D), true, false⟩
theorem add_rules (xs ys : List Rule) (h : xs.length + ys.length ≤ 1000) : binD .add (.list (xs.map Rule.D)) (.list (ys.map Rule.D)) = some (.list ((xs ++ ys).map Rule.D), true) := by
  rw [add_list, List.map_append]
  have : 1000 ≤ sizeLine := by decide
  simp
  omega
abbrev Slf (f : Option D) : Option Sl := Slq (f.map fun d => (d, false))
theorem okS_f (f : Option D) : okS (some (Slf f)) = true := okS_q _
section
variable {s : PyData} {b : Bag} {x2 : Option Sl} {r : Rule} {x10 x11 x12 x13 x14 x17 x18 x19 x20 : Option Sl} (q15 q16 q17 q18 q19 q20 q21 : Option (D × Bool))
theorem w8 : exS (Phi prg 19) (.asg 15 (.lst [.tup [.var 4, .bi .max [.cst (.int (1)), .bin .sub (.var 5) (.cst (.int (1)))], .var 6, .var 7, .var 8, .var 9], .tup [.var 4, .var 5, .bi .max [.cst (.int (0)), .bin .sub (.var 6) (.cst (.int (1)))], .var 7, .var 8, .var 9], .tup [.var 4, .var 5, .var 6, .var 7, .bi .max [.cst (.int (0)), .bin .sub (.var 8) (.cst (.int (1)))], .var 9]])) (LE s b x2 r x10 x11 x12 x13 x14 (Slq q15) (Slq q16) (Slq q17) (Slq q18) (Slq q19) (Slq q20) (Slq q21)) = some (.nx (LE s b x2 r x10 x11 x12 x13 x14 (oL r.es3) (Slq q16) (Slq q17) (Slq q18) (Slq q19) (Slq q20) (Slq q21))) := by
  simp [retOf, exB, exS, stSeq, stRetE, stRetV, stRet, stAsg, stAsgT, stPar, stIf, stNx, stEx, evPs, evPnil, evPcons, stores, stor_eq, okS_none, okS_some, okS_q, asgT, asgTs, ee_cst, ee_glo, ee_var, ee_tup, ee_lst, ee_star, ee_bin, ee_neg, ee_cmp, ee_chn, ee_and, ee_or, ee_not, ee_ite, ee_ix, ee_sl, ee_bi, evE_fn1, evE_fn2, evE_fn3, evE_fn4, evBr, evBi, evBin, evCmp, evUn, evChn, evSl, evPart, partD, slD, evDisp, evStar, spread, seqD, evOs, evConsO, evNilO, opnd, gets, Opn.get, evC, evVar, evVs, evCons, evNil, outV, ixD, at0, at1, at2, at3, at4, at5, at6, at7, cmp_lt, cmp_le, cmp_gt, cmp_ge, cmp_eq_int, cmp_ne_int, cmp_is_none, cmp_isn_none, cmp_is_bool, cmp_isn_bool, add_int, sub_int, biD, negD, fz, List.replicate, lz0, lz1, lz2, lz3, lz4, lz5, lz6, lz7, lz8, Rule.es3, Rule.D, max_eq]
theorem w9 : exS (Phi prg 19) (.asg 15 (.bin .add (.var 15) (.lst [.tup [.var 4, .var 5, .var 6, .bi .max [.cst (.int (0)), .bin .sub (.var 7) (.cst (.int (1)))], .var 8, .var 9], .tup [.var 4, .var 5, .var 6, .var 7, .var 8, .bi .min [.cst (.int (1000000)), .bin .add (.var 9) (.cst (.int (1)))]]]))) (LE s b x2 r x10 x11 x12 x13 x14 (oL r.es3) (Slq q16) (Slq q17) (Slq q18) (Slq q19) (Slq q20) (Slq q21)) = some (.nx (LE s b x2 r x10 x11 x12 x13 x14 (oL (r.es3 ++ r.es2)) (Slq q16) (Slq q17) (Slq q18) (Slq q19) (Slq q20) (Slq q21))) := by
  have e : PyData.list [PyData.tuple [.str r.k.s, .int r.hold, .int r.late, .int (max 0 (r.apart - 1)), .int r.run, .int r.wait], PyData.tuple [.str r.k.s, .int r.hold, .int r.late, .int r.apart, .int r.run, .int (min 1000000 (r.wait + 1))]] = .list (r.es2.map Rule.D) := rfl
  have e2 := add_rules r.es3 r.es2 (by simp [Rule.es3, Rule.es2])
  generalize r.es3 = A at *
  generalize r.es2 = B at *
  simp [retOf, exB, exS, stSeq, stRetE, stRetV, stRet, stAsg, stAsgT, stPar, stIf, stNx, stEx, evPs, evPnil, evPcons, stores, stor_eq, okS_none, okS_some, okS_q, asgT, asgTs, ee_cst, ee_glo, ee_var, ee_tup, ee_lst, ee_star, ee_bin, ee_neg, ee_cmp, ee_chn, ee_and, ee_or, ee_not, ee_ite, ee_ix, ee_sl, ee_bi, evE_fn1, evE_fn2, evE_fn3, evE_fn4, evBr, evBi, evBin, evCmp, evUn, evChn, evSl, evPart, partD, slD, evDisp, evStar, spread, seqD, evOs, evConsO, evNilO, opnd, gets, Opn.get, evC, evVar, evVs, evCons, evNil, outV, ixD, at0, at1, at2, at3, at4, at5, at6, at7, cmp_lt, cmp_le, cmp_gt, cmp_ge, cmp_eq_int, cmp_ne_int, cmp_is_none, cmp_isn_none, cmp_is_bool, cmp_isn_bool, add_int, sub_int, biD, negD, fz, List.replicate, lz0, lz1, lz2, lz3, lz4, lz5, lz6, lz7, lz8, max_eq, min_eq, e, e2]
theorem w10 : exS (Phi prg 19) (.asg 15 (.bin .add (.var 15) (.ite (.cmp .eq (.var 4) (.cst (.str "heard"))) (.lst [.bin .add (.tup [.cst (.str "asked")]) (.sl true false (.var 3) (.cst (.int (1))) (.cst .none))]) (.lst [])))) (LE s b x2 r x10 x11 x12 x13 x14 (oL (r.es3 ++ r.es2)) (Slq q16) (Slq q17) (Slq q18) (Slq q19) (Slq q20) (Slq q21)) = some (.nx (LE s b x2 r x10 x11 x12 x13 x14 (oL r.es) (Slq q16) (Slq q17) (Slq q18) (Slq q19) (Slq q20) (Slq q21))) := by
  have e2 := add_rules (r.es3 ++ r.es2) r.es1 (by simp [Rule.es3, Rule.es2, Rule.es1]; split <;> simp)
  rw [← es_eq] at e2
  generalize hA : r.es3 ++ r.es2 = A at *
  generalize hE : r.es = E at *
  by_cases hk : r.k = .H
  · have e : PyData.list [PyData.tuple [.str "asked", .int r.hold, .int r.late, .int r.apart, .int r.run, .int r.wait]] = .list (r.es1.map Rule.D) := by rw [Rule.es1, if_pos hk]; rfl
    have e3 : r.D = .tuple [.str r.k.s, .int r.hold, .int r.late, .int r.apart, .int r.run, .int r.wait] := rfl
    have e4 : binD .add (.tuple [.str "asked"]) (.tuple [.int r.hold, .int r.late, .int r.apart, .int r.run, .int r.wait]) = some (.tuple [.str "asked", .int r.hold, .int r.late, .int r.apart, .int r.run, .int r.wait], false) := by simp [binD, lz6]
    rw [← e] at e2
    simp [retOf, exB, exS, stSeq, stRetE, stRetV, stRet, stAsg, stAsgT, stPar, stIf, stNx, stEx, evPs, evPnil, evPcons, stores, stor_eq, okS_none, okS_some, okS_q, asgT, asgTs, ee_cst, ee_glo, ee_var, ee_tup, ee_lst, ee_star, ee_bin, ee_neg, ee_cmp, ee_chn, ee_and, ee_or, ee_not, ee_ite, ee_ix, ee_sl, ee_bi, evE_fn1, evE_fn2, evE_fn3, evE_fn4, evBr, evBi, evBin, evCmp, evUn, evChn, evSl, evPart, partD, slD, evDisp, evStar, spread, seqD, evOs, evConsO, evNilO, opnd, gets, Opn.get, evC, evVar, evVs, evCons, evNil, outV, ixD, at0, at1, at2, at3, at4, at5, at6, at7, cmp_lt, cmp_le, cmp_gt, cmp_ge, cmp_eq_int, cmp_ne_int, cmp_is_none, cmp_isn_none, cmp_is_bool, cmp_isn_bool, add_int, sub_int, biD, negD, fz, List.replicate, lz0, lz1, lz2, lz3, lz4, lz5, lz6, lz7, lz8, k_heard, hk, e3, lo1, e4]
    simp [e2, okS_some]
  · have e : PyData.list [] = .list (r.es1.map Rule.D) := by rw [Rule.es1, if_neg hk]; rfl
    rw [← e] at e2
    simp [retOf, exB, exS, stSeq, stRetE, stRetV, stRet, stAsg, stAsgT, stPar, stIf, stNx, stEx, evPs, evPnil, evPcons, stores, stor_eq, okS_none, okS_some, okS_q, asgT, asgTs, ee_cst, ee_glo, ee_var, ee_tup, ee_lst, ee_star, ee_bin, ee_neg, ee_cmp, ee_chn, ee_and, ee_or, ee_not, ee_ite, ee_ix, ee_sl, ee_bi, evE_fn1, evE_fn2, evE_fn3, evE_fn4, evBr, evBi, evBin, evCmp, evUn, evChn, evSl, evPart, partD, slD, evDisp, evStar, spread, seqD, evOs, evConsO, evNilO, opnd, gets, Opn.get, evC, evVar, evVs, evCons, evNil, outV, ixD, at0, at1, at2, at3, at4, at5, at6, at7, cmp_lt, cmp_le, cmp_gt, cmp_ge, cmp_eq_int, cmp_ne_int, cmp_is_none, cmp_isn_none, cmp_is_bool, cmp_isn_bool, add_int, sub_int, biD, negD, fz, List.replicate, lz0, lz1, lz2, lz3, lz4, lz5, lz6, lz7, lz8, k_heard, hk, e2]
theorem w11 (f16 : Option D) (h : r.Drawn) (x13 x14 : Option Sl) : ∃ q, exS (Phi prg 19) (.loop (.name 16) .seq [.var 15] [.cond (.or (.and (.var 10) (.cmp .isNot (.fn 10 [false] [.var 16]) (.cst (.bool true)))) (.cmp .gt (.fn 11 [false] [.var 16]) (.fn 11 [false] [.var 3]))) [.ret (.cst (.bool false))] [],
      .cond (.and (.cmp .is (.var 11) (.cst .none)) (.cmp .isNot (.fn 29 [false] [.var 16]) (.cst .none))) [.ret (.cst (.bool false))] []]) (LE s b x2 r (fz (.bool r.safe)) (fz r.found) x12 x13 x14 (oL r.es) (Slf f16) (Slq q17) (Slq q18) (Slq q19) (Slq q20) (Slq q21)) = some (.nx (LE s b x2 r (fz (.bool r.safe)) (fz r.found) x12 x13 x14 (oL r.es) (Slf q) (Slq q17) (Slq q18) (Slq q19) (Slq q20) (Slq q21))) := by
  have key := loopF_inv (os := [.bor 15]) (b := fun x ρ => do
      let ρ2 ← asgT (.name 16) x ρ
      exB (Phi prg 19) [.cond (.or (.and (.var 10) (.cmp .isNot (.fn 10 [false] [.var 16]) (.cst (.bool true)))) (.cmp .gt (.fn 11 [false] [.var 16]) (.fn 11 [false] [.var 3]))) [.ret (.cst (.bool false))] [],
      .cond (.and (.cmp .is (.var 11) (.cst .none)) (.cmp .isNot (.fn 29 [false] [.var 16]) (.cst .none))) [.ret (.cst (.bool false))] []] ρ2)
    (fun ρ => ∃ q, ρ = LE s b x2 r (fz (.bool r.safe)) (fz r.found) x12 x13 x14 (oL r.es) (Slf q) (Slq q17) (Slq q18) (Slq q19) (Slq q20) (Slq q21)) (r.es.map Rule.D) (fun x hx ρ hρ => by
      obtain ⟨q, rfl⟩ := hρ
      simp only [List.mem_map] at hx
      obtain ⟨e, he, rfl⟩ := hx
      have E := es_easy h e he
      have e1 := c_is_safe 14 E.ok
      have e2 := c_least_wait 14 E.ok
      have e3 := c_least_wait 14 h.ok
      have e4 := lw_mono E.need
      have e5 : ¬ r.lw < e.lw := by omega
      refine ⟨LE s b x2 r (fz (.bool r.safe)) (fz r.found) x12 x13 x14 (oL r.es) (fz e.D) (Slq q17) (Slq q18) (Slq q19) (Slq q20) (Slq q21), ?_, ⟨some e.D, rfl⟩, ?_⟩
      · have a1 : asgT (.name 16) e.D (LE s b x2 r (fz (.bool r.safe)) (fz r.found) x12 x13 x14 (oL r.es) (Slf q) (Slq q17) (Slq q18) (Slq q19) (Slq q20) (Slq q21)) = some (LE s b x2 r (fz (.bool r.safe)) (fz r.found) x12 x13 x14 (oL r.es) (fz e.D) (Slq q17) (Slq q18) (Slq q19) (Slq q20) (Slq q21)) := by
          simp [asgT, stor_eq, okS_f]
        simp only [a1, bind, Option.bind]
        cases hs : r.safe
        · have nn : isNoneD r.found = false := by rw [found_none, hs]
          refine b_nx (ρ' := LE s b x2 r (fz (.bool false)) (fz r.found) x12 x13 x14 (oL r.es) (fz e.D) (Slq q17) (Slq q18) (Slq q19) (Slq q20) (Slq q21)) (skip (fr := false) (by simp [retOf, exB, exS, stSeq, stRetE, stRetV, stRet, stAsg, stAsgT, stPar, stIf, stNx, stEx, evPs, evPnil, evPcons, stores, stor_eq, okS_none, okS_some, okS_q, asgT, asgTs, ee_cst, ee_glo, ee_var, ee_tup, ee_lst, ee_star, ee_bin, ee_neg, ee_cmp, ee_chn, ee_and, ee_or, ee_not, ee_ite, ee_ix, ee_sl, ee_bi, evE_fn1, evE_fn2, evE_fn3, evE_fn4, evBr, evBi, evBin, evCmp, evUn, evChn, evSl, evPart, partD, slD, evDisp, evStar, spread, seqD, evOs, evConsO, evNilO, opnd, gets, Opn.get, evC, evVar, evVs, evCons, evNil, outV, ixD, at0, at1, at2, at3, at4, at5, at6, at7, cmp_lt, cmp_le, cmp_gt, cmp_ge, cmp_eq_int, cmp_ne_int, cmp_is_none, cmp_isn_none, cmp_is_bool, cmp_isn_bool, add_int, sub_int, biD, negD, fz, List.replicate, lz0, lz1, lz2, lz3, lz4, lz5, lz6, lz7, lz8, e2, e3, e5])) ?_
          exact b_nx (ρ' := LE s b x2 r (fz (.bool false)) (fz r.found) x12 x13 x14 (oL r.es) (fz e.D) (Slq q17) (Slq q18) (Slq q19) (Slq q20) (Slq q21)) (skip (fr := false) (by simp [retOf, exB, exS, stSeq, stRetE, stRetV, stRet, stAsg, stAsgT, stPar, stIf, stNx, stEx, evPs, evPnil, evPcons, stores, stor_eq, okS_none, okS_some, okS_q, asgT, asgTs, ee_cst, ee_glo, ee_var, ee_tup, ee_lst, ee_star, ee_bin, ee_neg, ee_cmp, ee_chn, ee_and, ee_or, ee_not, ee_ite, ee_ix, ee_sl, ee_bi, evE_fn1, evE_fn2, evE_fn3, evE_fn4, evBr, evBi, evBin, evCmp, evUn, evChn, evSl, evPart, partD, slD, evDisp, evStar, spread, seqD, evOs, evConsO, evNilO, opnd, gets, Opn.get, evC, evVar, evVs, evCons, evNil, outV, ixD, at0, at1, at2, at3, at4, at5, at6, at7, cmp_lt, cmp_le, cmp_gt, cmp_ge, cmp_eq_int, cmp_ne_int, cmp_is_none, cmp_isn_none, cmp_is_bool, cmp_isn_bool, add_int, sub_int, biD, negD, fz, List.replicate, lz0, lz1, lz2, lz3, lz4, lz5, lz6, lz7, lz8, nn])) b_nil
        · have nn : isNoneD r.found = true := by rw [found_none, hs]
          have n2 : isNoneD PyData.none = true := rfl
          have es := safe_mono E.ok h.ok E.need E.wait hs
          have e6 := c_break_of_safe 13 E.ok es
          rw [es] at e1
          refine b_nx (ρ' := LE s b x2 r (fz (.bool true)) (fz r.found) x12 x13 x14 (oL r.es) (fz e.D) (Slq q17) (Slq q18) (Slq q19) (Slq q20) (Slq q21)) (skip (fr := false) (by simp [retOf, exB, exS, stSeq, stRetE, stRetV, stRet, stAsg, stAsgT, stPar, stIf, stNx, stEx, evPs, evPnil, evPcons, stores, stor_eq, okS_none, okS_some, okS_q, asgT, asgTs, ee_cst, ee_glo, ee_var, ee_tup, ee_lst, ee_star, ee_bin, ee_neg, ee_cmp, ee_chn, ee_and, ee_or, ee_not, ee_ite, ee_ix, ee_sl, ee_bi, evE_fn1, evE_fn2, evE_fn3, evE_fn4, evBr, evBi, evBin, evCmp, evUn, evChn, evSl, evPart, partD, slD, evDisp, evStar, spread, seqD, evOs, evConsO, evNilO, opnd, gets, Opn.get, evC, evVar, evVs, evCons, evNil, outV, ixD, at0, at1, at2, at3, at4, at5, at6, at7, cmp_lt, cmp_le, cmp_gt, cmp_ge, cmp_eq_int, cmp_ne_int, cmp_is_none, cmp_isn_none, cmp_is_bool, cmp_isn_bool, add_int, sub_int, biD, negD, fz, List.replicate, lz0, lz1, lz2, lz3, lz4, lz5, lz6, lz7, lz8, e1, e2, e3, e5])) ?_
          exact b_nx (ρ' := LE s b x2 r (fz (.bool true)) (fz r.found) x12 x13 x14 (oL r.es) (fz e.D) (Slq q17) (Slq q18) (Slq q19) (Slq q20) (Slq q21)) (skip (fr := false) (by simp [retOf, exB, exS, stSeq, stRetE, stRetV, stRet, stAsg, stAsgT, stPar, stIf, stNx, stEx, evPs, evPnil, evPcons, stores, stor_eq, okS_none, okS_some, okS_q, asgT, asgTs, ee_cst, ee_glo, ee_var, ee_tup, ee_lst, ee_star, ee_bin, ee_neg, ee_cmp, ee_chn, ee_and, ee_or, ee_not, ee_ite, ee_ix, ee_sl, ee_bi, evE_fn1, evE_fn2, evE_fn3, evE_fn4, evBr, evBi, evBin, evCmp, evUn, evChn, evSl, evPart, partD, slD, evDisp, evStar, spread, seqD, evOs, evConsO, evNilO, opnd, gets, Opn.get, evC, evVar, evVs, evCons, evNil, outV, ixD, at0, at1, at2, at3, at4, at5, at6, at7, cmp_lt, cmp_le, cmp_gt, cmp_ge, cmp_eq_int, cmp_ne_int, cmp_is_none, cmp_isn_none, cmp_is_bool, cmp_isn_bool, add_int, sub_int, biD, negD, fz, List.replicate, lz0, lz1, lz2, lz3, lz4, lz5, lz6, lz7, lz8, nn, e6, n2])) b_nil
      · intro o ho
        simp at ho
        subst ho
        rfl) _ ⟨f16, rfl⟩
  obtain ⟨ρ', e1, q, rfl⟩ := key
  refine ⟨q, ?_⟩
  rw [exS, stFor]
  have a1 : evOs (Phi prg 19) [.var 15] (LE s b x2 r (fz (.bool r.safe)) (fz r.found) x12 x13 x14 (oL r.es) (Slf f16) (Slq q17) (Slq q18) (Slq q19) (Slq q20) (Slq q21)) = some ([.bor 15], LE s b x2 r (fz (.bool r.safe)) (fz r.found) x12 x13 x14 (oL r.es) (Slf f16) (Slq q17) (Slq q18) (Slq q19) (Slq q20) (Slq q21)) := by
    simp [retOf, exB, exS, stSeq, stRetE, stRetV, stRet, stAsg, stAsgT, stPar, stIf, stNx, stEx, evPs, evPnil, evPcons, stores, stor_eq, okS_none, okS_some, okS_q, asgT, asgTs, ee_cst, ee_glo, ee_var, ee_tup, ee_lst, ee_star, ee_bin, ee_neg, ee_cmp, ee_chn, ee_and, ee_or, ee_not, ee_ite, ee_ix, ee_sl, ee_bi, evE_fn1, evE_fn2, evE_fn3, evE_fn4, evBr, evBi, evBin, evCmp, evUn, evChn, evSl, evPart, partD, slD, evDisp, evStar, spread, seqD, evOs, evConsO, evNilO, opnd, gets, Opn.get, evC, evVar, evVs, evCons, evNil, outV, ixD, at0, at1, at2, at3, at4, at5, at6, at7, cmp_lt, cmp_le, cmp_gt, cmp_ge, cmp_eq_int, cmp_ne_int, cmp_is_none, cmp_isn_none, cmp_is_bool, cmp_isn_bool, add_int, sub_int, biD, negD, fz, List.replicate, lz0, lz1, lz2, lz3, lz4, lz5, lz6, lz7, lz8]
  have a2 : gets (LE s b x2 r (fz (.bool r.safe)) (fz r.found) x12 x13 x14 (oL r.es) (Slf f16) (Slq q17) (Slq q18) (Slq q19) (Slq q20) (Slq q21)) [.bor 15] = some [.list (r.es.map Rule.D)] := by
    simp [gets, Opn.get]
  have a3 : iterD .seq [.list (r.es.map Rule.D)] = some (r.es.map Rule.D) := rfl
  simp only [a1, a2, a3, bind, Option.bind]
  exact e1
end
end K43

namespace K43
open PySem EV Tab
theorem leaf1 (k : Leaf) : (firstL [k, k, k]).length = 1 := by
  simp [firstL, stepL]
theorem lenset3 {d : PyData} {k : Leaf} (h : leafD d = some k) : lenset [.list [d, d, d]] = some (.int 1, false) := by
  simp [lenset, leavesD, h, leaf1]
  decide
theorem great_leaf (p : Int → Bool) (lo hi : Int) : (∃ k, leafD (great p lo hi) = some k) ∧ shp (great p lo hi) = true := by
  unfold great
  split
  · exact ⟨⟨_, rfl⟩, rfl⟩
  · exact ⟨⟨_, rfl⟩, rfl⟩
theorem shp_ints (f : List PyData) (h : ∀ d ∈ f, ∃ i, d = .int i) : shp (.tuple f) = true := by
  have key : ∀ f : List PyData, (∀ d ∈ f, ∃ i, d = .int i) → PyData.canLayAll0 f = true ∧ PyData.depthAll f = 0 := by
    intro f
    induction f with
    | nil => intro _; simp [PyData.canLayAll0, PyData.depthAll]
    | cons d r ih =>
      intro h
      obtain ⟨i, rfl⟩ := h d (by simp)
      have := ih fun d hd => h d (by simp [hd])
      simp [PyData.canLayAll0, PyData.depthAll, PyData.canLay0, PyData.depth, this.1, this.2]
  have := key f h
  simp [shp, SeqAt.shaped, PyData.canLay0, PyData.depth, this.1, this.2]
def Rule.bare (r : Rule) : Rule := bareR r.k r.hold r.run r.wait
theorem bare_ok {r : Rule} (h : r.Drawn) (k : Kd) : (bareR k r.hold r.run r.wait).Ok := ⟨h.ok.hold, by show (0 : Int) ≤ 0 ∧ (0 : Int) < 2 ^ 24; decide, by show (0 : Int) ≤ 0 ∧ (0 : Int) ≤ 400; decide, h.ok.run, h.ok.wait⟩
def Rule.same (r : Rule) : List Rule := [bareR .U r.hold r.run r.wait, bareR .A r.hold r.run r.wait, bareR .H r.hold r.run r.wait]
def Rule.rows (r : Rule) : List Rule := r.es ++ [r, r.bare]
theorem rows_ok {r : Rule} (h : r.Drawn) : ∀ e ∈ r.rows, e.Ok := by
  intro e he
  simp only [Rule.rows, List.mem_append, List.mem_cons, List.not_mem_nil, _root_.or_false] at he
  rcases he with he | rfl | rfl
  · exact (es_easy h e he).ok
  · exact h.ok
  · exact bare_ok h _
theorem es_len (r : Rule) : r.es.length ≤ 6 := by
  unfold Rule.es
  split <;> simp
section
variable {s : PyData} {b : Bag} {x2 : Option Sl} {r : Rule} {x10 x11 x12 x13 x14 x15 : Option Sl} (f16 f21 : Option D) (q17 q18 q19 q20 : Option (D × Bool))
theorem w12 : exS (Phi prg 19) (.asg 17 (.tup [.var 4, .var 5, .cst (.int (0)), .cst (.int (0)), .var 8, .var 9])) (LE s b x2 r x10 x11 x12 x13 x14 x15 (Slf f16) (Slq q17) (Slq q18) (Slq q19) (Slq q20) (Slf f21)) = some (.nx (LE s b x2 r x10 x11 x12 x13 x14 x15 (Slf f16) (fz r.bare.D) (Slq q18) (Slq q19) (Slq q20) (Slf f21))) := by
  simp [retOf, exB, exS, stSeq, stRetE, stRetV, stRet, stAsg, stAsgT, stPar, stIf, stNx, stEx, evPs, evPnil, evPcons, stores, stor_eq, okS_none, okS_some, okS_q, asgT, asgTs, ee_cst, ee_glo, ee_var, ee_tup, ee_lst, ee_star, ee_bin, ee_neg, ee_cmp, ee_chn, ee_and, ee_or, ee_not, ee_ite, ee_ix, ee_sl, ee_bi, evE_fn1, evE_fn2, evE_fn3, evE_fn4, evBr, evBi, evBin, evCmp, evUn, evChn, evSl, evPart, partD, slD, evDisp, evStar, spread, seqD, evOs, evConsO, evNilO, opnd, gets, Opn.get, evC, evVar, evVs, evCons, evNil, outV, ixD, at0, at1, at2, at3, at4, at5, at6, at7, cmp_lt, cmp_le, cmp_gt, cmp_ge, cmp_eq_int, cmp_ne_int, cmp_is_none, cmp_isn_none, cmp_is_bool, cmp_isn_bool, add_int, sub_int, biD, negD, fz, List.replicate, lz0, lz1, lz2, lz3, lz4, lz5, lz6, lz7, lz8, Rule.bare, bareR, Rule.D]
theorem w13 (h : r.Drawn) : exS (Phi prg 19) (.cond (.not (.fn 38 [false, false] [.lst [.fn 10 [false] [.var 17], .fn 11 [false] [.var 17], .fn 8 [false] [.var 17]], .lst [.cmp .le (.bin .add (.var 5) (.var 8)) (.var 9), .bin .add (.var 5) (.var 8), .tup [.bin .add (.var 5) (.var 8), .cst (.int (1))]]])) [.ret (.cst (.bool false))] []) (LE s b x2 r x10 x11 x12 x13 x14 x15 (Slf f16) (fz r.bare.D) (Slq q18) (Slq q19) (Slq q20) (Slf f21)) = some (.nx (LE s b x2 r x10 x11 x12 x13 x14 x15 (Slf f16) (fz r.bare.D) (Slq q18) (Slq q19) (Slq q20) (Slf f21))) := by
  have ok := bare_ok h r.k
  have h1 := h.hold
  have h2 := h.run
  have e1 : callV prg (14+5) 10 [r.bare.D] = some (.bool (decide (r.hold + r.run ≤ r.wait)), false) := by
    rw [← bare_safe ok]; exact c_is_safe 14 ok
  have e2 : callV prg (14+5) 11 [r.bare.D] = some (.int (r.hold + r.run), false) := by
    rw [← bare_lw (k := r.k) (wait := r.wait) h1.1 h2.1]; exact c_least_wait 14 ok
  have e3 : callV prg (15+4) 8 [r.bare.D] = some (.tuple [.int (r.hold + r.run), .int 1], false) := by
    have := c_last_act 15 ok
    rw [bare_last] at this
    exact this
  have e4 := ali 18 (decide (r.hold + r.run ≤ r.wait)) (i := r.hold + r.run) ((sz_of (k := 24) (by omega) (by omega)).up (by decide))
  refine skip (fr := false) ?_
  simp [retOf, exB, exS, stSeq, stRetE, stRetV, stRet, stAsg, stAsgT, stPar, stIf, stNx, stEx, evPs, evPnil, evPcons, stores, stor_eq, okS_none, okS_some, okS_q, asgT, asgTs, ee_cst, ee_glo, ee_var, ee_tup, ee_lst, ee_star, ee_bin, ee_neg, ee_cmp, ee_chn, ee_and, ee_or, ee_not, ee_ite, ee_ix, ee_sl, ee_bi, evE_fn1, evE_fn2, evE_fn3, evE_fn4, evBr, evBi, evBin, evCmp, evUn, evChn, evSl, evPart, partD, slD, evDisp, evStar, spread, seqD, evOs, evConsO, evNilO, opnd, gets, Opn.get, evC, evVar, evVs, evCons, evNil, outV, ixD, at0, at1, at2, at3, at4, at5, at6, at7, cmp_lt, cmp_le, cmp_gt, cmp_ge, cmp_eq_int, cmp_ne_int, cmp_is_none, cmp_isn_none, cmp_is_bool, cmp_isn_bool, add_int, sub_int, biD, negD, fz, List.replicate, lz0, lz1, lz2, lz3, lz4, lz5, lz6, lz7, lz8, e1, e2, e3, e4]
theorem w14 : exS (Phi prg 19) (.asg 18 (.lc (.tup [.var 16, .var 5, .cst (.int (0)), .cst (.int (0)), .var 8, .var 9]) (.name 16) .seq [.tup [.cst (.str "until"), .cst (.str "asked"), .cst (.str "heard")]] [] [16])) (LE s b x2 r x10 x11 x12 x13 x14 x15 (Slf f16) (fz r.bare.D) (Slq q18) (Slq q19) (Slq q20) (Slf f21)) = some (.nx (LE s b x2 r x10 x11 x12 x13 x14 x15 (Slf f16) (fz r.bare.D) (oL r.same) (Slq q19) (Slq q20) (Slf f21))) := by
  have e := lc_of (Φ := Phi prg 19) (tg := .name 16) (k := .seq) (es := [.tup [.cst (.str "until"), .cst (.str "asked"), .cst (.str "heard")]]) (ifs := []) (elt := .tup [.var 16, .var 5, .cst (.int (0)), .cst (.int (0)), .var 8, .var 9]) (own := [16]) (ρ := LE s b x2 r x10 x11 x12 x13 x14 x15 (Slf f16) (fz r.bare.D) (Slq q18) (Slq q19) (Slq q20) (Slf f21)) (ρ1 := LE s b x2 r x10 x11 x12 x13 x14 x15 (Slf f16) (fz r.bare.D) (Slq q18) (Slq q19) (Slq q20) (Slf f21)) (ρ3 := LE s b x2 r x10 x11 x12 x13 x14 x15 (Slf f16) (fz r.bare.D) (Slq q18) (Slq q19) (Slq q20) (Slf f21)) (os := [.val (.tuple ([Kd.U, Kd.A, Kd.H].map fun k => .str k.s))]) (ds := [.tuple ([Kd.U, Kd.A, Kd.H].map fun k => .str k.s)]) (xs := [Kd.U, Kd.A, Kd.H].map fun k => .str k.s)
    (by simp [retOf, exB, exS, stSeq, stRetE, stRetV, stRet, stAsg, stAsgT, stPar, stIf, stNx, stEx, evPs, evPnil, evPcons, stores, stor_eq, okS_none, okS_some, okS_q, asgT, asgTs, ee_cst, ee_glo, ee_var, ee_tup, ee_lst, ee_star, ee_bin, ee_neg, ee_cmp, ee_chn, ee_and, ee_or, ee_not, ee_ite, ee_ix, ee_sl, ee_bi, evE_fn1, evE_fn2, evE_fn3, evE_fn4, evBr, evBi, evBin, evCmp, evUn, evChn, evSl, evPart, partD, slD, evDisp, evStar, spread, seqD, evOs, evConsO, evNilO, opnd, gets, Opn.get, evC, evVar, evVs, evCons, evNil, outV, ixD, at0, at1, at2, at3, at4, at5, at6, at7, cmp_lt, cmp_le, cmp_gt, cmp_ge, cmp_eq_int, cmp_ne_int, cmp_is_none, cmp_isn_none, cmp_is_bool, cmp_isn_bool, add_int, sub_int, biD, negD, fz, List.replicate, lz0, lz1, lz2, lz3, lz4, lz5, lz6, lz7, lz8, Kd.s]) (by simp [retOf, exB, exS, stSeq, stRetE, stRetV, stRet, stAsg, stAsgT, stPar, stIf, stNx, stEx, evPs, evPnil, evPcons, stores, stor_eq, okS_none, okS_some, okS_q, asgT, asgTs, ee_cst, ee_glo, ee_var, ee_tup, ee_lst, ee_star, ee_bin, ee_neg, ee_cmp, ee_chn, ee_and, ee_or, ee_not, ee_ite, ee_ix, ee_sl, ee_bi, evE_fn1, evE_fn2, evE_fn3, evE_fn4, evBr, evBi, evBin, evCmp, evUn, evChn, evSl, evPart, partD, slD, evDisp, evStar, spread, seqD, evOs, evConsO, evNilO, opnd, gets, Opn.get, evC, evVar, evVs, evCons, evNil, outV, ixD, at0, at1, at2, at3, at4, at5, at6, at7, cmp_lt, cmp_le, cmp_gt, cmp_ge, cmp_eq_int, cmp_ne_int, cmp_is_none, cmp_isn_none, cmp_is_bool, cmp_isn_bool, add_int, sub_int, biD, negD, fz, List.replicate, lz0, lz1, lz2, lz3, lz4, lz5, lz6, lz7, lz8]) rfl (by cases f16 <;> rfl) (turns_mapA (fun k : Kd => .str k.s) (fun k => (bareR k r.hold r.run r.wait).D) _ fun k hk => by
      simp [turn, tests, evFs, clear, retOf, exB, exS, stSeq, stRetE, stRetV, stRet, stAsg, stAsgT, stPar, stIf, stNx, stEx, evPs, evPnil, evPcons, stores, stor_eq, okS_none, okS_some, okS_q, asgT, asgTs, ee_cst, ee_glo, ee_var, ee_tup, ee_lst, ee_star, ee_bin, ee_neg, ee_cmp, ee_chn, ee_and, ee_or, ee_not, ee_ite, ee_ix, ee_sl, ee_bi, evE_fn1, evE_fn2, evE_fn3, evE_fn4, evBr, evBi, evBin, evCmp, evUn, evChn, evSl, evPart, partD, slD, evDisp, evStar, spread, seqD, evOs, evConsO, evNilO, opnd, gets, Opn.get, evC, evVar, evVs, evCons, evNil, outV, ixD, at0, at1, at2, at3, at4, at5, at6, at7, cmp_lt, cmp_le, cmp_gt, cmp_ge, cmp_eq_int, cmp_ne_int, cmp_is_none, cmp_isn_none, cmp_is_bool, cmp_isn_bool, add_int, sub_int, biD, negD, fz, List.replicate, lz0, lz1, lz2, lz3, lz4, lz5, lz6, lz7, lz8, bareR, Rule.D]) (by simp [lz3]) rfl
  have e2 : PyData.list ([Kd.U, Kd.A, Kd.H].map fun k => (bareR k r.hold r.run r.wait).D) = .list (r.same.map Rule.D) := rfl
  rw [e2] at e
  generalize r.same = A at *
  simp [retOf, exB, exS, stSeq, stRetE, stRetV, stRet, stAsg, stAsgT, stPar, stIf, stNx, stEx, evPs, evPnil, evPcons, stores, stor_eq, okS_none, okS_some, okS_q, asgT, asgTs, ee_cst, ee_glo, ee_var, ee_tup, ee_lst, ee_star, ee_bin, ee_neg, ee_cmp, ee_chn, ee_and, ee_or, ee_not, ee_ite, ee_ix, ee_sl, ee_bi, evE_fn1, evE_fn2, evE_fn3, evE_fn4, evBr, evBi, evBin, evCmp, evUn, evChn, evSl, evPart, partD, slD, evDisp, evStar, spread, seqD, evOs, evConsO, evNilO, opnd, gets, Opn.get, evC, evVar, evVs, evCons, evNil, outV, ixD, at0, at1, at2, at3, at4, at5, at6, at7, cmp_lt, cmp_le, cmp_gt, cmp_ge, cmp_eq_int, cmp_ne_int, cmp_is_none, cmp_isn_none, cmp_is_bool, cmp_isn_bool, add_int, sub_int, biD, negD, fz, List.replicate, lz0, lz1, lz2, lz3, lz4, lz5, lz6, lz7, lz8] at e ⊢
  simp [e, retOf, exB, exS, stSeq, stRetE, stRetV, stRet, stAsg, stAsgT, stPar, stIf, stNx, stEx, evPs, evPnil, evPcons, stores, stor_eq, okS_none, okS_some, okS_q, asgT, asgTs, ee_cst, ee_glo, ee_var, ee_tup, ee_lst, ee_star, ee_bin, ee_neg, ee_cmp, ee_chn, ee_and, ee_or, ee_not, ee_ite, ee_ix, ee_sl, ee_bi, evE_fn1, evE_fn2, evE_fn3, evE_fn4, evBr, evBi, evBin, evCmp, evUn, evChn, evSl, evPart, partD, slD, evDisp, evStar, spread, seqD, evOs, evConsO, evNilO, opnd, gets, Opn.get, evC, evVar, evVs, evCons, evNil, outV, ixD, at0, at1, at2, at3, at4, at5, at6, at7, cmp_lt, cmp_le, cmp_gt, cmp_ge, cmp_eq_int, cmp_ne_int, cmp_is_none, cmp_isn_none, cmp_is_bool, cmp_isn_bool, add_int, sub_int, biD, negD, fz, List.replicate, lz0, lz1, lz2, lz3, lz4, lz5, lz6, lz7, lz8]
end
end K43

namespace K43
open PySem EV Tab
section
variable {s : PyData} {b : Bag} {x2 : Option Sl} {r : Rule} {x10 x11 x12 x13 x14 x15 x17 : Option Sl} (f16 f21 : Option D) (q17 q18 q19 q20 : Option (D × Bool))
abbrev PE (s : PyData) (b : Bag) (x2 : Option Sl) (r : Rule) (x10 x11 x12 x13 x14 x15 : Option Sl) (f16 f21 : Option D) (x17 x18 x19 x20 : Option Sl) : Ev := LE s b x2 r x10 x11 x12 x13 x14 x15 (Slf f16) x17 x18 x19 x20 (Slf f21)
theorem free16 (x17 x18 x19 x20 : Option Sl) : EV.free (PE s b x2 r x10 x11 x12 x13 x14 x15 f16 f21 x17 x18 x19 x20) [16] = true := by cases f16 <;> rfl
theorem free21 (x17 x18 x19 x20 : Option Sl) : EV.free (PE s b x2 r x10 x11 x12 x13 x14 x15 f16 f21 x17 x18 x19 x20) [21, 16] = true := by cases f16 <;> cases f21 <;> rfl
theorem same_lw (h : r.Drawn) : ∀ e ∈ r.same, e.Ok ∧ e.lw = r.hold + r.run := by
  intro e he
  simp only [Rule.same, List.mem_cons, List.not_mem_nil, _root_.or_false] at he
  rcases he with rfl | rfl | rfl <;> exact ⟨bare_ok h _, bare_lw h.hold.1 h.run.1⟩
theorem same_hold (h : r.Drawn) : ∀ e ∈ r.same, callV prg 19 14 [e.D] = some (great (fun m => decide (m + r.run ≤ r.wait)) 1 1000000, false) := by
  have key : ∀ k, callV prg (16+3) 14 [(bareR k r.hold r.run r.wait).D] = some (great (fun m => decide (m + r.run ≤ r.wait)) 1 1000000, false) := fun k =>
    c_greatest_hold 16 (bareR k r.hold r.run r.wait) (fun m => decide (m + r.run ≤ r.wait)) fun m h1 h2 => by
      have ok : (bareR k m r.run r.wait).Ok := ⟨by show 0 ≤ m ∧ m < 2 ^ 24; omega, by show (0 : Int) ≤ 0 ∧ (0 : Int) < 2 ^ 24; decide, by show (0 : Int) ≤ 0 ∧ (0 : Int) ≤ 400; decide, h.ok.run, h.ok.wait⟩
      rw [← bare_safe ok]
      exact c_is_safe 12 ok
  intro e he
  simp only [Rule.same, List.mem_cons, List.not_mem_nil, _root_.or_false] at he
  rcases he with rfl | rfl | rfl <;> exact key _
theorem same_run (h : r.Drawn) (k : Kd) : callV prg 19 15 [(bareR k r.hold r.run r.wait).D] = some (great (fun m => decide (r.hold + m ≤ r.wait)) 0 1000000, false) :=
  c_greatest_run 16 (bareR k r.hold r.run r.wait) (fun m => decide (r.hold + m ≤ r.wait)) fun m h1 h2 => by
    have ok : (bareR k r.hold m r.wait).Ok := ⟨h.ok.hold, by show (0 : Int) ≤ 0 ∧ (0 : Int) < 2 ^ 24; decide, by show (0 : Int) ≤ 0 ∧ (0 : Int) ≤ 400; decide, by show 0 ≤ m ∧ m < 2 ^ 24; omega, h.ok.wait⟩
    rw [← bare_safe ok]
    exact c_is_safe 12 ok
theorem w15 (h : r.Drawn) : exS (Phi prg 19) (.cond (.or (.cmp .ne (.bi .lenset [.lc (.fn 11 [false] [.var 16]) (.name 16) .seq [.var 18] [] [16]]) (.cst (.int (1)))) (.or (.cmp .ne (.bi .lenset [.lc (.fn 14 [false] [.var 16]) (.name 16) .seq [.var 18] [] [16]]) (.cst (.int (1)))) (.cmp .ne (.fn 15 [false] [.ix (.var 18) (.cst (.int (0)))]) (.fn 15 [false] [.ix (.var 18) (.cst (.int (2)))])))) [.ret (.cst (.bool false))] []) (PE s b x2 r x10 x11 x12 x13 x14 x15 f16 f21 x17 (oL r.same) (Slq q19) (Slq q20)) = some (.nx (PE s b x2 r x10 x11 x12 x13 x14 x15 f16 f21 x17 (oL r.same) (Slq q19) (Slq q20))) := by
  have e1 := lc_of (Φ := Phi prg 19) (tg := .name 16) (k := .seq) (es := [.var 18]) (ifs := []) (elt := .fn 11 [false] [.var 16]) (own := [16]) (ρ := PE s b x2 r x10 x11 x12 x13 x14 x15 f16 f21 x17 (oL r.same) (Slq q19) (Slq q20)) (ρ1 := PE s b x2 r x10 x11 x12 x13 x14 x15 f16 f21 x17 (oL r.same) (Slq q19) (Slq q20)) (ρ3 := PE s b x2 r x10 x11 x12 x13 x14 x15 f16 f21 x17 (oL r.same) (Slq q19) (Slq q20)) (os := [.bor 18]) (ds := [.list (r.same.map Rule.D)]) (xs := r.same.map Rule.D)
    (by simp [retOf, exB, exS, stSeq, stRetE, stRetV, stRet, stAsg, stAsgT, stPar, stIf, stNx, stEx, evPs, evPnil, evPcons, stores, stor_eq, okS_none, okS_some, okS_q, asgT, asgTs, ee_cst, ee_glo, ee_var, ee_tup, ee_lst, ee_star, ee_bin, ee_neg, ee_cmp, ee_chn, ee_and, ee_or, ee_not, ee_ite, ee_ix, ee_sl, ee_bi, evE_fn1, evE_fn2, evE_fn3, evE_fn4, evBr, evBi, evBin, evCmp, evUn, evChn, evSl, evPart, partD, slD, evDisp, evStar, spread, seqD, evOs, evConsO, evNilO, opnd, gets, Opn.get, evC, evVar, evVs, evCons, evNil, outV, ixD, at0, at1, at2, at3, at4, at5, at6, at7, cmp_lt, cmp_le, cmp_gt, cmp_ge, cmp_eq_int, cmp_ne_int, cmp_is_none, cmp_isn_none, cmp_is_bool, cmp_isn_bool, add_int, sub_int, biD, negD, fz, List.replicate, lz0, lz1, lz2, lz3, lz4, lz5, lz6, lz7, lz8]) (by simp [gets, Opn.get]) rfl (free16 f16 f21 _ _ _ _) (turns_mapA Rule.D (fun _ => .int (r.hold + r.run)) _ fun e he => by
      have z := same_lw h e he
      have e1 := c_least_wait 14 z.1
      rw [z.2] at e1
      simp [turn, tests, evFs, clear, retOf, exB, exS, stSeq, stRetE, stRetV, stRet, stAsg, stAsgT, stPar, stIf, stNx, stEx, evPs, evPnil, evPcons, stores, stor_eq, okS_none, okS_some, okS_q, asgT, asgTs, ee_cst, ee_glo, ee_var, ee_tup, ee_lst, ee_star, ee_bin, ee_neg, ee_cmp, ee_chn, ee_and, ee_or, ee_not, ee_ite, ee_ix, ee_sl, ee_bi, evE_fn1, evE_fn2, evE_fn3, evE_fn4, evBr, evBi, evBin, evCmp, evUn, evChn, evSl, evPart, partD, slD, evDisp, evStar, spread, seqD, evOs, evConsO, evNilO, opnd, gets, Opn.get, evC, evVar, evVs, evCons, evNil, outV, ixD, at0, at1, at2, at3, at4, at5, at6, at7, cmp_lt, cmp_le, cmp_gt, cmp_ge, cmp_eq_int, cmp_ne_int, cmp_is_none, cmp_isn_none, cmp_is_bool, cmp_isn_bool, add_int, sub_int, biD, negD, fz, List.replicate, lz0, lz1, lz2, lz3, lz4, lz5, lz6, lz7, lz8, e1]) (by simp [Rule.same, lz3]) rfl
  have e2 := lc_of (Φ := Phi prg 19) (tg := .name 16) (k := .seq) (es := [.var 18]) (ifs := []) (elt := .fn 14 [false] [.var 16]) (own := [16]) (ρ := PE s b x2 r x10 x11 x12 x13 x14 x15 f16 f21 x17 (oL r.same) (Slq q19) (Slq q20)) (ρ1 := PE s b x2 r x10 x11 x12 x13 x14 x15 f16 f21 x17 (oL r.same) (Slq q19) (Slq q20)) (ρ3 := PE s b x2 r x10 x11 x12 x13 x14 x15 f16 f21 x17 (oL r.same) (Slq q19) (Slq q20)) (os := [.bor 18]) (ds := [.list (r.same.map Rule.D)]) (xs := r.same.map Rule.D)
    (by simp [retOf, exB, exS, stSeq, stRetE, stRetV, stRet, stAsg, stAsgT, stPar, stIf, stNx, stEx, evPs, evPnil, evPcons, stores, stor_eq, okS_none, okS_some, okS_q, asgT, asgTs, ee_cst, ee_glo, ee_var, ee_tup, ee_lst, ee_star, ee_bin, ee_neg, ee_cmp, ee_chn, ee_and, ee_or, ee_not, ee_ite, ee_ix, ee_sl, ee_bi, evE_fn1, evE_fn2, evE_fn3, evE_fn4, evBr, evBi, evBin, evCmp, evUn, evChn, evSl, evPart, partD, slD, evDisp, evStar, spread, seqD, evOs, evConsO, evNilO, opnd, gets, Opn.get, evC, evVar, evVs, evCons, evNil, outV, ixD, at0, at1, at2, at3, at4, at5, at6, at7, cmp_lt, cmp_le, cmp_gt, cmp_ge, cmp_eq_int, cmp_ne_int, cmp_is_none, cmp_isn_none, cmp_is_bool, cmp_isn_bool, add_int, sub_int, biD, negD, fz, List.replicate, lz0, lz1, lz2, lz3, lz4, lz5, lz6, lz7, lz8]) (by simp [gets, Opn.get]) rfl (free16 f16 f21 _ _ _ _) (turns_mapA Rule.D (fun _ => great (fun m => decide (m + r.run ≤ r.wait)) 1 1000000) _ fun e he => by
      have e1 := same_hold h e he
      generalize great (fun m => decide (m + r.run ≤ r.wait)) 1 1000000 = G at *
      simp [turn, tests, evFs, clear, retOf, exB, exS, stSeq, stRetE, stRetV, stRet, stAsg, stAsgT, stPar, stIf, stNx, stEx, evPs, evPnil, evPcons, stores, stor_eq, okS_none, okS_some, okS_q, asgT, asgTs, ee_cst, ee_glo, ee_var, ee_tup, ee_lst, ee_star, ee_bin, ee_neg, ee_cmp, ee_chn, ee_and, ee_or, ee_not, ee_ite, ee_ix, ee_sl, ee_bi, evE_fn1, evE_fn2, evE_fn3, evE_fn4, evBr, evBi, evBin, evCmp, evUn, evChn, evSl, evPart, partD, slD, evDisp, evStar, spread, seqD, evOs, evConsO, evNilO, opnd, gets, Opn.get, evC, evVar, evVs, evCons, evNil, outV, ixD, at0, at1, at2, at3, at4, at5, at6, at7, cmp_lt, cmp_le, cmp_gt, cmp_ge, cmp_eq_int, cmp_ne_int, cmp_is_none, cmp_isn_none, cmp_is_bool, cmp_isn_bool, add_int, sub_int, biD, negD, fz, List.replicate, lz0, lz1, lz2, lz3, lz4, lz5, lz6, lz7, lz8, e1]) (by simp [Rule.same, lz3]) rfl
  have e3 := same_run h .U
  have e4 := same_run h .H
  have g1 := (great_leaf (fun m => decide (m + r.run ≤ r.wait)) 1 1000000).1
  have g2 := (great_leaf (fun m => decide (r.hold + m ≤ r.wait)) 0 1000000).2
  generalize great (fun m => decide (m + r.run ≤ r.wait)) 1 1000000 = G at *
  generalize great (fun m => decide (r.hold + m ≤ r.wait)) 0 1000000 = H at *
  obtain ⟨k, g1⟩ := g1
  have l1 := lenset3 (d := .int (r.hold + r.run)) rfl
  have l2 := lenset3 g1
  have l3 := cmp_ne_refl g2
  have m1 : r.same.map (fun _ => PyData.int (r.hold + r.run)) = [.int (r.hold + r.run), .int (r.hold + r.run), .int (r.hold + r.run)] := rfl
  have m2 : r.same.map (fun _ => G) = [G, G, G] := rfl
  rw [m1] at e1
  rw [m2] at e2
  have a0 : r.same[0]? = some (bareR .U r.hold r.run r.wait) := rfl
  have a2 : r.same[2]? = some (bareR .H r.hold r.run r.wait) := rfl
  have c1 : evE (Phi prg 19) (.cmp .ne (.bi .lenset [.lc (.fn 11 [false] [.var 16]) (.name 16) .seq [.var 18] [] [16]]) (.cst (.int (1)))) (PE s b x2 r x10 x11 x12 x13 x14 x15 f16 f21 x17 (oL r.same) (Slq q19) (Slq q20)) = some (.bool false, false, PE s b x2 r x10 x11 x12 x13 x14 x15 f16 f21 x17 (oL r.same) (Slq q19) (Slq q20)) := by
    generalize PE s b x2 r x10 x11 x12 x13 x14 x15 f16 f21 x17 (oL r.same) (Slq q19) (Slq q20) = ρ at *
    simp [retOf, exB, exS, stSeq, stRetE, stRetV, stRet, stAsg, stAsgT, stPar, stIf, stNx, stEx, evPs, evPnil, evPcons, stores, stor_eq, okS_none, okS_some, okS_q, asgT, asgTs, ee_cst, ee_glo, ee_var, ee_tup, ee_lst, ee_star, ee_bin, ee_neg, ee_cmp, ee_chn, ee_and, ee_or, ee_not, ee_ite, ee_ix, ee_sl, ee_bi, evE_fn1, evE_fn2, evE_fn3, evE_fn4, evBr, evBi, evBin, evCmp, evUn, evChn, evSl, evPart, partD, slD, evDisp, evStar, spread, seqD, evOs, evConsO, evNilO, opnd, gets, Opn.get, evC, evVar, evVs, evCons, evNil, outV, ixD, at0, at1, at2, at3, at4, at5, at6, at7, cmp_lt, cmp_le, cmp_gt, cmp_ge, cmp_eq_int, cmp_ne_int, cmp_is_none, cmp_isn_none, cmp_is_bool, cmp_isn_bool, add_int, sub_int, biD, negD, fz, List.replicate, lz0, lz1, lz2, lz3, lz4, lz5, lz6, lz7, lz8, e1, l1]
  have c2 : evE (Phi prg 19) (.cmp .ne (.bi .lenset [.lc (.fn 14 [false] [.var 16]) (.name 16) .seq [.var 18] [] [16]]) (.cst (.int (1)))) (PE s b x2 r x10 x11 x12 x13 x14 x15 f16 f21 x17 (oL r.same) (Slq q19) (Slq q20)) = some (.bool false, false, PE s b x2 r x10 x11 x12 x13 x14 x15 f16 f21 x17 (oL r.same) (Slq q19) (Slq q20)) := by
    generalize PE s b x2 r x10 x11 x12 x13 x14 x15 f16 f21 x17 (oL r.same) (Slq q19) (Slq q20) = ρ at *
    simp [retOf, exB, exS, stSeq, stRetE, stRetV, stRet, stAsg, stAsgT, stPar, stIf, stNx, stEx, evPs, evPnil, evPcons, stores, stor_eq, okS_none, okS_some, okS_q, asgT, asgTs, ee_cst, ee_glo, ee_var, ee_tup, ee_lst, ee_star, ee_bin, ee_neg, ee_cmp, ee_chn, ee_and, ee_or, ee_not, ee_ite, ee_ix, ee_sl, ee_bi, evE_fn1, evE_fn2, evE_fn3, evE_fn4, evBr, evBi, evBin, evCmp, evUn, evChn, evSl, evPart, partD, slD, evDisp, evStar, spread, seqD, evOs, evConsO, evNilO, opnd, gets, Opn.get, evC, evVar, evVs, evCons, evNil, outV, ixD, at0, at1, at2, at3, at4, at5, at6, at7, cmp_lt, cmp_le, cmp_gt, cmp_ge, cmp_eq_int, cmp_ne_int, cmp_is_none, cmp_isn_none, cmp_is_bool, cmp_isn_bool, add_int, sub_int, biD, negD, fz, List.replicate, lz0, lz1, lz2, lz3, lz4, lz5, lz6, lz7, lz8, e2, l2]
  have c3 : evE (Phi prg 19) (.cmp .ne (.fn 15 [false] [.ix (.var 18) (.cst (.int (0)))]) (.fn 15 [false] [.ix (.var 18) (.cst (.int (2)))])) (PE s b x2 r x10 x11 x12 x13 x14 x15 f16 f21 x17 (oL r.same) (Slq q19) (Slq q20)) = some (.bool false, false, PE s b x2 r x10 x11 x12 x13 x14 x15 f16 f21 x17 (oL r.same) (Slq q19) (Slq q20)) := by
    generalize r.same = A at *
    simp [retOf, exB, exS, stSeq, stRetE, stRetV, stRet, stAsg, stAsgT, stPar, stIf, stNx, stEx, evPs, evPnil, evPcons, stores, stor_eq, okS_none, okS_some, okS_q, asgT, asgTs, ee_cst, ee_glo, ee_var, ee_tup, ee_lst, ee_star, ee_bin, ee_neg, ee_cmp, ee_chn, ee_and, ee_or, ee_not, ee_ite, ee_ix, ee_sl, ee_bi, evE_fn1, evE_fn2, evE_fn3, evE_fn4, evBr, evBi, evBin, evCmp, evUn, evChn, evSl, evPart, partD, slD, evDisp, evStar, spread, seqD, evOs, evConsO, evNilO, opnd, gets, Opn.get, evC, evVar, evVs, evCons, evNil, outV, ixD, at0, at1, at2, at3, at4, at5, at6, at7, cmp_lt, cmp_le, cmp_gt, cmp_ge, cmp_eq_int, cmp_ne_int, cmp_is_none, cmp_isn_none, cmp_is_bool, cmp_isn_bool, add_int, sub_int, biD, negD, fz, List.replicate, lz0, lz1, lz2, lz3, lz4, lz5, lz6, lz7, lz8, a0, a2, e3, e4, l3]
  refine skip (fr := false) ?_
  generalize PE s b x2 r x10 x11 x12 x13 x14 x15 f16 f21 x17 (oL r.same) (Slq q19) (Slq q20) = ρ at *
  simp only [ee_or, evBr, c1, c2, c3, Bool.false_eq_true, if_false]
end
end K43

namespace K43
open PySem EV Tab
def Rule.far (r : Rule) : Rule := {r with wait := r.lw}
theorem two_ne {ρ : Ev} (C : PyData) {as bs : List PyData} (e1 : callV prg 19 16 [C] = some (.tuple as, false)) (e2 : callV prg 19 17 [C] = some (.tuple bs, false)) (e3 : evE (Phi prg 19) (.lc (.fn 11 [false] [.var 16]) (.name 16) .seq [.var 19] [] [16]) ρ = some (.list as, true, ρ)) (e4 : evE (Phi prg 19) (.lc (.var 21) (.tup [.name 21, .name 16]) .enm [.var 19] [.not (.fn 34 [false] [.var 16])] [21, 16]) ρ = some (.list bs, true, ρ)) (n1 : cmpD .ne (.tuple as) (.tuple as) = some false) (n2 : cmpD .ne (.tuple bs) (.tuple bs) = some false) (v : evVar 19 ρ = some (C, false, ρ)) : evE (Phi prg 19) (.or (.cmp .ne (.fn 16 [false] [.var 19]) (.bi .tuple [.lc (.fn 11 [false] [.var 16]) (.name 16) .seq [.var 19] [] [16]])) (.cmp .ne (.fn 17 [false] [.var 19]) (.bi .tuple [.lc (.var 21) (.tup [.name 21, .name 16]) .enm [.var 19] [.not (.fn 34 [false] [.var 16])] [21, 16]]))) ρ = some (.bool false, false, ρ) := by
  have a1 : evE (Phi prg 19) (.fn 16 [false] [.var 19]) ρ = some (.tuple as, false, ρ) := by
    rw [evE_fn1]
    simp [evVs, evCons, evNil, ee_var, v, outV, e1]
  have a2 : evE (Phi prg 19) (.fn 17 [false] [.var 19]) ρ = some (.tuple bs, false, ρ) := by
    rw [evE_fn1]
    simp [evVs, evCons, evNil, ee_var, v, outV, e2]
  simp [ee_or, ee_cmp, ee_bi, evBr, evCmp, evBi, evOs, evConsO, evNilO, opnd, a1, a2, e3, e4, Opn.get, gets, biD, n1, n2]
section
variable {s : PyData} {b : Bag} {x2 : Option Sl} {r : Rule} {x10 x11 x12 x13 x14 x15 x17 x18 : Option Sl} (f16 f21 : Option D) (q17 q18 q19 q20 : Option (D × Bool))
theorem rows_len (r : Rule) : r.rows.length ≤ sizeLine := by
  have h := es_len r
  have : 1000 ≤ sizeLine := by decide
  simp [Rule.rows]
  omega
theorem w16 : exS (Phi prg 19) (.asg 19 (.bi .tuple [.bin .add (.var 15) (.lst [.var 3, .var 17])])) (PE s b x2 r x10 x11 x12 x13 x14 (oL r.es) f16 f21 (fz r.bare.D) x18 (Slq q19) (Slq q20)) = some (.nx (PE s b x2 r x10 x11 x12 x13 x14 (oL r.es) f16 f21 (fz r.bare.D) x18 (fz (rulesD r.rows)) (Slq q20))) := by
  have e := add_rules r.es [r, r.bare] (by have := es_len r; simp; omega)
  have e2 : PyData.list ([r, r.bare].map Rule.D) = .list [r.D, r.bare.D] := rfl
  have e3 : rulesD r.rows = .tuple ((r.es ++ [r, r.bare]).map Rule.D) := rfl
  rw [e2] at e
  rw [e3]
  generalize hA : r.es ++ [r, r.bare] = A at *
  generalize r.es = B at *
  simp [retOf, exB, exS, stSeq, stRetE, stRetV, stRet, stAsg, stAsgT, stPar, stIf, stNx, stEx, evPs, evPnil, evPcons, stores, stor_eq, okS_none, okS_some, okS_q, asgT, asgTs, ee_cst, ee_glo, ee_var, ee_tup, ee_lst, ee_star, ee_bin, ee_neg, ee_cmp, ee_chn, ee_and, ee_or, ee_not, ee_ite, ee_ix, ee_sl, ee_bi, evE_fn1, evE_fn2, evE_fn3, evE_fn4, evBr, evBi, evBin, evCmp, evUn, evChn, evSl, evPart, partD, slD, evDisp, evStar, spread, seqD, evOs, evConsO, evNilO, opnd, gets, Opn.get, evC, evVar, evVs, evCons, evNil, outV, ixD, at0, at1, at2, at3, at4, at5, at6, at7, cmp_lt, cmp_le, cmp_gt, cmp_ge, cmp_eq_int, cmp_ne_int, cmp_is_none, cmp_isn_none, cmp_is_bool, cmp_isn_bool, add_int, sub_int, biD, negD, fz, List.replicate, lz0, lz1, lz2, lz3, lz4, lz5, lz6, lz7, lz8, e]
set_option maxHeartbeats 4000000 in
theorem w17 (h : r.Drawn) : exS (Phi prg 19) (.cond (.or (.cmp .ne (.fn 16 [false] [.var 19]) (.bi .tuple [.lc (.fn 11 [false] [.var 16]) (.name 16) .seq [.var 19] [] [16]])) (.cmp .ne (.fn 17 [false] [.var 19]) (.bi .tuple [.lc (.var 21) (.tup [.name 21, .name 16]) .enm [.var 19] [.not (.fn 34 [false] [.var 16])] [21, 16]]))) [.ret (.cst (.bool false))] []) (PE s b x2 r x10 x11 x12 x13 x14 x15 f16 f21 x17 x18 (fz (rulesD r.rows)) (Slq q20)) = some (.nx (PE s b x2 r x10 x11 x12 x13 x14 x15 f16 f21 x17 x18 (fz (rulesD r.rows)) (Slq q20))) := by
  have ok := rows_ok h
  have e1 := c_least_waits 13 r.rows ok (rows_len r)
  have e2 := c_faults_of 13 r.rows ok (rows_len r)
  have e3 := lc_of (Φ := Phi prg 19) (tg := .name 16) (k := .seq) (es := [.var 19]) (ifs := []) (elt := .fn 11 [false] [.var 16]) (own := [16]) (ρ := PE s b x2 r x10 x11 x12 x13 x14 x15 f16 f21 x17 x18 (fz (rulesD r.rows)) (Slq q20)) (ρ1 := PE s b x2 r x10 x11 x12 x13 x14 x15 f16 f21 x17 x18 (fz (rulesD r.rows)) (Slq q20)) (ρ3 := PE s b x2 r x10 x11 x12 x13 x14 x15 f16 f21 x17 x18 (fz (rulesD r.rows)) (Slq q20)) (os := [.val (rulesD r.rows)]) (ds := [rulesD r.rows]) (xs := r.rows.map Rule.D)
    (by simp [retOf, exB, exS, stSeq, stRetE, stRetV, stRet, stAsg, stAsgT, stPar, stIf, stNx, stEx, evPs, evPnil, evPcons, stores, stor_eq, okS_none, okS_some, okS_q, asgT, asgTs, ee_cst, ee_glo, ee_var, ee_tup, ee_lst, ee_star, ee_bin, ee_neg, ee_cmp, ee_chn, ee_and, ee_or, ee_not, ee_ite, ee_ix, ee_sl, ee_bi, evE_fn1, evE_fn2, evE_fn3, evE_fn4, evBr, evBi, evBin, evCmp, evUn, evChn, evSl, evPart, partD, slD, evDisp, evStar, spread, seqD, evOs, evConsO, evNilO, opnd, gets, Opn.get, evC, evVar, evVs, evCons, evNil, outV, ixD, at0, at1, at2, at3, at4, at5, at6, at7, cmp_lt, cmp_le, cmp_gt, cmp_ge, cmp_eq_int, cmp_ne_int, cmp_is_none, cmp_isn_none, cmp_is_bool, cmp_isn_bool, add_int, sub_int, biD, negD, fz, List.replicate, lz0, lz1, lz2, lz3, lz4, lz5, lz6, lz7, lz8]) (by simp [gets, Opn.get]) rfl (free16 f16 f21 _ _ _ _) (turns_mapA Rule.D (fun e => .int e.lw) _ fun e he => by
      have e1 := c_least_wait 14 (ok e he)
      simp [turn, tests, evFs, clear, retOf, exB, exS, stSeq, stRetE, stRetV, stRet, stAsg, stAsgT, stPar, stIf, stNx, stEx, evPs, evPnil, evPcons, stores, stor_eq, okS_none, okS_some, okS_q, asgT, asgTs, ee_cst, ee_glo, ee_var, ee_tup, ee_lst, ee_star, ee_bin, ee_neg, ee_cmp, ee_chn, ee_and, ee_or, ee_not, ee_ite, ee_ix, ee_sl, ee_bi, evE_fn1, evE_fn2, evE_fn3, evE_fn4, evBr, evBi, evBin, evCmp, evUn, evChn, evSl, evPart, partD, slD, evDisp, evStar, spread, seqD, evOs, evConsO, evNilO, opnd, gets, Opn.get, evC, evVar, evVs, evCons, evNil, outV, ixD, at0, at1, at2, at3, at4, at5, at6, at7, cmp_lt, cmp_le, cmp_gt, cmp_ge, cmp_eq_int, cmp_ne_int, cmp_is_none, cmp_isn_none, cmp_is_bool, cmp_isn_bool, add_int, sub_int, biD, negD, fz, List.replicate, lz0, lz1, lz2, lz3, lz4, lz5, lz6, lz7, lz8, e1]) (by simpa using rows_len r) rfl
  have e4 := lc_of (Φ := Phi prg 19) (tg := .tup [.name 21, .name 16]) (k := .enm) (es := [.var 19]) (ifs := [.not (.fn 34 [false] [.var 16])]) (elt := .var 21) (own := [21, 16]) (ρ := PE s b x2 r x10 x11 x12 x13 x14 x15 f16 f21 x17 x18 (fz (rulesD r.rows)) (Slq q20)) (ρ1 := PE s b x2 r x10 x11 x12 x13 x14 x15 f16 f21 x17 x18 (fz (rulesD r.rows)) (Slq q20)) (ρ3 := PE s b x2 r x10 x11 x12 x13 x14 x15 f16 f21 x17 x18 (fz (rulesD r.rows)) (Slq q20)) (os := [.val (rulesD r.rows)]) (ds := [rulesD r.rows]) (xs := r.rows.zipIdx.map fun p => .tuple [.int (p.2 : Nat), p.1.D])
    (by simp [retOf, exB, exS, stSeq, stRetE, stRetV, stRet, stAsg, stAsgT, stPar, stIf, stNx, stEx, evPs, evPnil, evPcons, stores, stor_eq, okS_none, okS_some, okS_q, asgT, asgTs, ee_cst, ee_glo, ee_var, ee_tup, ee_lst, ee_star, ee_bin, ee_neg, ee_cmp, ee_chn, ee_and, ee_or, ee_not, ee_ite, ee_ix, ee_sl, ee_bi, evE_fn1, evE_fn2, evE_fn3, evE_fn4, evBr, evBi, evBin, evCmp, evUn, evChn, evSl, evPart, partD, slD, evDisp, evStar, spread, seqD, evOs, evConsO, evNilO, opnd, gets, Opn.get, evC, evVar, evVs, evCons, evNil, outV, ixD, at0, at1, at2, at3, at4, at5, at6, at7, cmp_lt, cmp_le, cmp_gt, cmp_ge, cmp_eq_int, cmp_ne_int, cmp_is_none, cmp_isn_none, cmp_is_bool, cmp_isn_bool, add_int, sub_int, biD, negD, fz, List.replicate, lz0, lz1, lz2, lz3, lz4, lz5, lz6, lz7, lz8]) (by simp [gets, Opn.get]) (by simp [iterD, rulesD, seqD, enumD_map]) (free21 f16 f21 _ _ _ _) (turns_filterA (fun p : Rule × Nat => .tuple [.int (p.2 : Nat), p.1.D]) (fun p => if p.1.safe then none else some (.int (p.2 : Nat))) _ fun p hp => by
      have e1 := c_law_is_safe 16 (ok p.1 (List.fst_mem_of_mem_zipIdx hp))
      cases hs : p.1.safe <;> rw [hs] at e1 <;> simp [turn, tests, evFs, clear, retOf, exB, exS, stSeq, stRetE, stRetV, stRet, stAsg, stAsgT, stPar, stIf, stNx, stEx, evPs, evPnil, evPcons, stores, stor_eq, okS_none, okS_some, okS_q, asgT, asgTs, ee_cst, ee_glo, ee_var, ee_tup, ee_lst, ee_star, ee_bin, ee_neg, ee_cmp, ee_chn, ee_and, ee_or, ee_not, ee_ite, ee_ix, ee_sl, ee_bi, evE_fn1, evE_fn2, evE_fn3, evE_fn4, evBr, evBi, evBin, evCmp, evUn, evChn, evSl, evPart, partD, slD, evDisp, evStar, spread, seqD, evOs, evConsO, evNilO, opnd, gets, Opn.get, evC, evVar, evVs, evCons, evNil, outV, ixD, at0, at1, at2, at3, at4, at5, at6, at7, cmp_lt, cmp_le, cmp_gt, cmp_ge, cmp_eq_int, cmp_ne_int, cmp_is_none, cmp_isn_none, cmp_is_bool, cmp_isn_bool, add_int, sub_int, biD, negD, fz, List.replicate, lz0, lz1, lz2, lz3, lz4, lz5, lz6, lz7, lz8, e1]) (Nat.le_trans (List.length_filterMap_le ..) (by simpa using rows_len r)) rfl
  have n1 := cmp_ne_refl (d := .tuple (r.rows.map fun r => .int r.lw)) (shp_ints _ (by simp))
  have n2 := cmp_ne_refl (d := faults r.rows) (shp_ints _ (by
    intro d hd
    simp only [List.mem_filterMap] at hd
    obtain ⟨p, _, hp⟩ := hd
    split at hp
    · cases hp
    · cases hp
      exact ⟨_, rfl⟩))
  refine skip (fr := false) ?_
  have v : evE (Phi prg 19) (.var 19) (PE s b x2 r x10 x11 x12 x13 x14 x15 f16 f21 x17 x18 (fz (rulesD r.rows)) (Slq q20)) = some (rulesD r.rows, false, PE s b x2 r x10 x11 x12 x13 x14 x15 f16 f21 x17 x18 (fz (rulesD r.rows)) (Slq q20)) := by simp [retOf, exB, exS, stSeq, stRetE, stRetV, stRet, stAsg, stAsgT, stPar, stIf, stNx, stEx, evPs, evPnil, evPcons, stores, stor_eq, okS_none, okS_some, okS_q, asgT, asgTs, ee_cst, ee_glo, ee_var, ee_tup, ee_lst, ee_star, ee_bin, ee_neg, ee_cmp, ee_chn, ee_and, ee_or, ee_not, ee_ite, ee_ix, ee_sl, ee_bi, evE_fn1, evE_fn2, evE_fn3, evE_fn4, evBr, evBi, evBin, evCmp, evUn, evChn, evSl, evPart, partD, slD, evDisp, evStar, spread, seqD, evOs, evConsO, evNilO, opnd, gets, Opn.get, evC, evVar, evVs, evCons, evNil, outV, ixD, at0, at1, at2, at3, at4, at5, at6, at7, cmp_lt, cmp_le, cmp_gt, cmp_ge, cmp_eq_int, cmp_ne_int, cmp_is_none, cmp_isn_none, cmp_is_bool, cmp_isn_bool, add_int, sub_int, biD, negD, fz, List.replicate, lz0, lz1, lz2, lz3, lz4, lz5, lz6, lz7, lz8]
  rw [ee_var] at v
  exact two_ne (rulesD r.rows) e1 e2 e3 e4 n1 n2 v
theorem w18 (h : r.Ok) : exS (Phi prg 19) (.asg 20 (.tup [.var 4, .var 5, .var 6, .var 7, .var 8, .fn 11 [false] [.var 3]])) (PE s b x2 r x10 x11 x12 x13 x14 x15 f16 f21 x17 x18 (Slq q19) (Slq q20)) = some (.nx (PE s b x2 r x10 x11 x12 x13 x14 x15 f16 f21 x17 x18 (Slq q19) (fz r.far.D))) := by
  have e := c_least_wait 14 h
  have hf : r.far.D = .tuple [.str r.k.s, .int r.hold, .int r.late, .int r.apart, .int r.run, .int r.lw] := rfl
  simp [retOf, exB, exS, stSeq, stRetE, stRetV, stRet, stAsg, stAsgT, stPar, stIf, stNx, stEx, evPs, evPnil, evPcons, stores, stor_eq, okS_none, okS_some, okS_q, asgT, asgTs, ee_cst, ee_glo, ee_var, ee_tup, ee_lst, ee_star, ee_bin, ee_neg, ee_cmp, ee_chn, ee_and, ee_or, ee_not, ee_ite, ee_ix, ee_sl, ee_bi, evE_fn1, evE_fn2, evE_fn3, evE_fn4, evBr, evBi, evBin, evCmp, evUn, evChn, evSl, evPart, partD, slD, evDisp, evStar, spread, seqD, evOs, evConsO, evNilO, opnd, gets, Opn.get, evC, evVar, evVs, evCons, evNil, outV, ixD, at0, at1, at2, at3, at4, at5, at6, at7, cmp_lt, cmp_le, cmp_gt, cmp_ge, cmp_eq_int, cmp_ne_int, cmp_is_none, cmp_isn_none, cmp_is_bool, cmp_isn_bool, add_int, sub_int, biD, negD, fz, List.replicate, lz0, lz1, lz2, lz3, lz4, lz5, lz6, lz7, lz8, e, hf]
theorem w19 (h : r.Drawn) : exS (Phi prg 19) (.cond (.and (.cmp .le (.fn 11 [false] [.var 3]) (.cst (.int (1000000)))) (.or (.cmp .isNot (.fn 10 [false] [.var 20]) (.cst (.bool true))) (.and (.cmp .gt (.fn 11 [false] [.var 3]) (.cst (.int (1)))) (.cmp .isNot (.fn 10 [false] [.bin .add (.sl false true (.var 20) (.cst .none) (.cst (.int (5)))) (.tup [.bin .sub (.ix (.var 20) (.cst (.int (5)))) (.cst (.int (1)))])]) (.cst (.bool false)))))) [.ret (.cst (.bool false))] []) (PE s b x2 r x10 x11 x12 x13 x14 x15 f16 f21 x17 x18 (Slq q19) (fz r.far.D)) = some (.nx (PE s b x2 r x10 x11 x12 x13 x14 x15 f16 f21 x17 x18 (Slq q19) (fz r.far.D))) := by
  have e := c_least_wait 14 h.ok
  have l1 : 1 ≤ r.lw := by unfold Rule.lw; omega
  have h0 : 0 < r.hold := by have := h.hold; omega
  by_cases hl : r.lw ≤ 1000000
  · have ok : r.far.Ok := ⟨h.ok.hold, h.ok.late, h.ok.apart, h.ok.run, by show 0 ≤ r.lw ∧ r.lw < 2 ^ 24; omega⟩
    have ok2 : ({r with wait := r.lw - 1} : Rule).Ok := ⟨h.ok.hold, h.ok.late, h.ok.apart, h.ok.run, by show 0 ≤ r.lw - 1 ∧ r.lw - 1 < 2 ^ 24; omega⟩
    have e1 := c_is_safe 14 ok
    have e2 := c_is_safe 14 ok2
    have s1 : r.far.safe = true := (safe_lw ok h0).2 (Int.le_refl _)
    rw [s1] at e1
    have s2 : ({r with wait := r.lw - 1} : Rule).safe = false := by
      rw [← Bool.not_eq_true]
      intro hc
      have := (safe_lw ok2 h0).1 hc
      have e : ({r with wait := r.lw - 1} : Rule).lw = r.lw := rfl
      rw [e] at this
      have e2 : ({r with wait := r.lw - 1} : Rule).wait = r.lw - 1 := rfl
      rw [e2] at this
      omega
    rw [s2] at e2
    have hf : r.far.D = .tuple [.str r.k.s, .int r.hold, .int r.late, .int r.apart, .int r.run, .int r.lw] := rfl
    have hg : ({r with wait := r.lw - 1} : Rule).D = .tuple [.str r.k.s, .int r.hold, .int r.late, .int r.apart, .int r.run, .int (r.lw - 1)] := rfl
    have ad : binD .add (.tuple [.str r.k.s, .int r.hold, .int r.late, .int r.apart, .int r.run]) (.tuple [.int (r.lw - 1)]) = some (.tuple [.str r.k.s, .int r.hold, .int r.late, .int r.apart, .int r.run, .int (r.lw - 1)], false) := by simp [binD, lz6]
    rw [hg] at e2
    rw [hf] at e1 ⊢
    refine skip (fr := false) ?_
    by_cases h1 : 1 < r.lw <;> simp [retOf, exB, exS, stSeq, stRetE, stRetV, stRet, stAsg, stAsgT, stPar, stIf, stNx, stEx, evPs, evPnil, evPcons, stores, stor_eq, okS_none, okS_some, okS_q, asgT, asgTs, ee_cst, ee_glo, ee_var, ee_tup, ee_lst, ee_star, ee_bin, ee_neg, ee_cmp, ee_chn, ee_and, ee_or, ee_not, ee_ite, ee_ix, ee_sl, ee_bi, evE_fn1, evE_fn2, evE_fn3, evE_fn4, evBr, evBi, evBin, evCmp, evUn, evChn, evSl, evPart, partD, slD, evDisp, evStar, spread, seqD, evOs, evConsO, evNilO, opnd, gets, Opn.get, evC, evVar, evVs, evCons, evNil, outV, ixD, at0, at1, at2, at3, at4, at5, at6, at7, cmp_lt, cmp_le, cmp_gt, cmp_ge, cmp_eq_int, cmp_ne_int, cmp_is_none, cmp_isn_none, cmp_is_bool, cmp_isn_bool, add_int, sub_int, biD, negD, fz, List.replicate, lz0, lz1, lz2, lz3, lz4, lz5, lz6, lz7, lz8, e, hl, e1, e2, hi5, ad, h1]
  · refine skip (fr := false) ?_
    simp [retOf, exB, exS, stSeq, stRetE, stRetV, stRet, stAsg, stAsgT, stPar, stIf, stNx, stEx, evPs, evPnil, evPcons, stores, stor_eq, okS_none, okS_some, okS_q, asgT, asgTs, ee_cst, ee_glo, ee_var, ee_tup, ee_lst, ee_star, ee_bin, ee_neg, ee_cmp, ee_chn, ee_and, ee_or, ee_not, ee_ite, ee_ix, ee_sl, ee_bi, evE_fn1, evE_fn2, evE_fn3, evE_fn4, evBr, evBi, evBin, evCmp, evUn, evChn, evSl, evPart, partD, slD, evDisp, evStar, spread, seqD, evOs, evConsO, evNilO, opnd, gets, Opn.get, evC, evVar, evVs, evCons, evNil, outV, ixD, at0, at1, at2, at3, at4, at5, at6, at7, cmp_lt, cmp_le, cmp_gt, cmp_ge, cmp_eq_int, cmp_ne_int, cmp_is_none, cmp_isn_none, cmp_is_bool, cmp_isn_bool, add_int, sub_int, biD, negD, fz, List.replicate, lz0, lz1, lz2, lz3, lz4, lz5, lz6, lz7, lz8, e, hl]
end
end K43

namespace K43
open PySem EV Tab
def lapB : List Sm := [.asg 3 (.fn 35 [true] [.var 1]),
    .asgT (.tup [.name 4, .name 5, .name 6, .name 7, .name 8, .name 9]) (.var 3),
    .par [10, 11] [.fn 34 [false] [.var 3], .fn 29 [false] [.var 3]],
    .cond (.not (.fn 38 [false, false] [.lst [.fn 7 [false] [.var 3], .fn 10 [false] [.var 3], .cmp .is (.var 11) (.cst .none)], .lst [.cst (.bool true), .var 10, .var 10]])) [.ret (.cst (.bool false))] [],
    .asg 12 (.bin .add (.cst (.int (2))) (.fn 37 [true, false] [.var 1, .cst (.int (4))])),
    .asg 13 (.fn 39 [false, false] [.var 3, .var 12]),
    .cond (.and (.cmp .ne (.var 4) (.cst (.str "until"))) (.fn 40 [false] [.var 13])) [.cond (.not (.fn 38 [false, false] [.lst [.fn 10 [false] [.var 13], .fn 8 [false] [.var 13], .fn 9 [false] [.var 13]], .lst [.var 10, .fn 41 [false, false] [.fn 8 [false] [.var 3], .var 12], .fn 41 [false, false] [.fn 9 [false] [.var 3], .var 12]]])) [.ret (.cst (.bool false))] [],
      .cond (.not (.chn .lt .le (.bin .mul (.var 12) (.bin .sub (.fn 11 [false] [.var 3]) (.cst (.int (1))))) (.fn 11 [false] [.var 13]) (.bin .mul (.var 12) (.fn 11 [false] [.var 3])))) [.ret (.cst (.bool false))] [],
      .cond (.cmp .isNot (.var 11) (.cst .none)) [.asg 14 (.fn 42 [false, false] [.var 11, .var 12]),
        .cond (.or (.cmp .isNot (.fn 25 [false, false] [.var 13, .var 14]) (.cst .none)) (.or (.cmp .isNot (.fn 28 [false, false] [.var 13, .var 14]) (.cst (.bool true))) (.cmp .ne (.fn 27 [false, false] [.var 13, .var 14]) (.fn 41 [false, false] [.fn 27 [false, false] [.var 3, .var 11], .var 12])))) [.ret (.cst (.bool false))] [],
        .cond (.or (.cmp .ne (.fn 22 [false, false] [.var 13, .var 14]) (.fn 41 [false, false] [.fn 22 [false, false] [.var 3, .var 11], .var 12])) (.cmp .isNot (.fn 26 [false, false] [.var 3, .var 11]) (.cst (.bool true)))) [.ret (.cst (.bool false))] []] []] [],
    .asg 15 (.lst [.tup [.var 4, .bi .max [.cst (.int (1)), .bin .sub (.var 5) (.cst (.int (1)))], .var 6, .var 7, .var 8, .var 9], .tup [.var 4, .var 5, .bi .max [.cst (.int (0)), .bin .sub (.var 6) (.cst (.int (1)))], .var 7, .var 8, .var 9], .tup [.var 4, .var 5, .var 6, .var 7, .bi .max [.cst (.int (0)), .bin .sub (.var 8) (.cst (.int (1)))], .var 9]]),
    .asg 15 (.bin .add (.var 15) (.lst [.tup [.var 4, .var 5, .var 6, .bi .max [.cst (.int (0)), .bin .sub (.var 7) (.cst (.int (1)))], .var 8, .var 9], .tup [.var 4, .var 5, .var 6, .var 7, .var 8, .bi .min [.cst (.int (1000000)), .bin .add (.var 9) (.cst (.int (1)))]]])),
    .asg 15 (.bin .add (.var 15) (.ite (.cmp .eq (.var 4) (.cst (.str "heard"))) (.lst [.bin .add (.tup [.cst (.str "asked")]) (.sl true false (.var 3) (.cst (.int (1))) (.cst .none))]) (.lst []))),
    .loop (.name 16) .seq [.var 15] [.cond (.or (.and (.var 10) (.cmp .isNot (.fn 10 [false] [.var 16]) (.cst (.bool true)))) (.cmp .gt (.fn 11 [false] [.var 16]) (.fn 11 [false] [.var 3]))) [.ret (.cst (.bool false))] [],
      .cond (.and (.cmp .is (.var 11) (.cst .none)) (.cmp .isNot (.fn 29 [false] [.var 16]) (.cst .none))) [.ret (.cst (.bool false))] []],
    .asg 17 (.tup [.var 4, .var 5, .cst (.int (0)), .cst (.int (0)), .var 8, .var 9]),
    .cond (.not (.fn 38 [false, false] [.lst [.fn 10 [false] [.var 17], .fn 11 [false] [.var 17], .fn 8 [false] [.var 17]], .lst [.cmp .le (.bin .add (.var 5) (.var 8)) (.var 9), .bin .add (.var 5) (.var 8), .tup [.bin .add (.var 5) (.var 8), .cst (.int (1))]]])) [.ret (.cst (.bool false))] [],
    .asg 18 (.lc (.tup [.var 16, .var 5, .cst (.int (0)), .cst (.int (0)), .var 8, .var 9]) (.name 16) .seq [.tup [.cst (.str "until"), .cst (.str "asked"), .cst (.str "heard")]] [] [16]),
    .cond (.or (.cmp .ne (.bi .lenset [.lc (.fn 11 [false] [.var 16]) (.name 16) .seq [.var 18] [] [16]]) (.cst (.int (1)))) (.or (.cmp .ne (.bi .lenset [.lc (.fn 14 [false] [.var 16]) (.name 16) .seq [.var 18] [] [16]]) (.cst (.int (1)))) (.cmp .ne (.fn 15 [false] [.ix (.var 18) (.cst (.int (0)))]) (.fn 15 [false] [.ix (.var 18) (.cst (.int (2)))])))) [.ret (.cst (.bool false))] [],
    .asg 19 (.bi .tuple [.bin .add (.var 15) (.lst [.var 3, .var 17])]),
    .cond (.or (.cmp .ne (.fn 16 [false] [.var 19]) (.bi .tuple [.lc (.fn 11 [false] [.var 16]) (.name 16) .seq [.var 19] [] [16]])) (.cmp .ne (.fn 17 [false] [.var 19]) (.bi .tuple [.lc (.var 21) (.tup [.name 21, .name 16]) .enm [.var 19] [.not (.fn 34 [false] [.var 16])] [21, 16]]))) [.ret (.cst (.bool false))] [],
    .asg 20 (.tup [.var 4, .var 5, .var 6, .var 7, .var 8, .fn 11 [false] [.var 3]]),
    .cond (.and (.cmp .le (.fn 11 [false] [.var 3]) (.cst (.int (1000000)))) (.or (.cmp .isNot (.fn 10 [false] [.var 20]) (.cst (.bool true))) (.and (.cmp .gt (.fn 11 [false] [.var 3]) (.cst (.int (1)))) (.cmp .isNot (.fn 10 [false] [.bin .add (.sl false true (.var 20) (.cst .none) (.cst (.int (5)))) (.tup [.bin .sub (.ix (.var 20) (.cst (.int (5)))) (.cst (.int (1)))])]) (.cst (.bool false)))))) [.ret (.cst (.bool false))] []]
theorem law_eq : B_law = [.asg 1 (.fn 36 [false] [.var 0]), .loop (.name 2) .rng [.cst (.int 5)] lapB, .ret (.cst (.bool true))] := rfl
theorem Bag.V.up {b : Bag} {m n : Nat} (h : b.V m) (hn : m ≤ n) : b.V n := ⟨h.h0, h.h1, ⟨h.h2.1, by have := h.h2.2; omega⟩, h.hs, h.hl⟩
/-- how a lap's names stand -/
def Lap (s : PyData) (m : Nat) (ρ : Ev) : Prop := ∃ (b : Bag) (f16 f21 : Option D) (q2 q3 q4 q5 q6 q7 q8 q9 q10 q11 q12 q13 q14 q15 q17 q18 q19 q20 : Option (D × Bool)), b.V m ∧ ρ = SE q2 q3 q4 q5 q6 q7 q8 q9 q10 q11 q12 q13 q14 q15 (f16.map fun d => (d, false)) q17 q18 q19 q20 (f21.map fun d => (d, false)) s b
theorem lap {s : PyData} {m : Nat} {ρ : Ev} (h : Lap s m ρ) (hm : m < 1000) : ∃ ρ', exB (Phi prg 19) lapB ρ = some (.nx ρ') ∧ Lap s (m + 12) ρ' := by
  obtain ⟨b, f16, f21, q2, q3, q4, q5, q6, q7, q8, q9, q10, q11, q12, q13, q14, q15, q17, q18, q19, q20, hb, rfl⟩ := h
  obtain ⟨r, b1, hr, hb1, e1⟩ := c_drawn 15 hb (by omega)
  obtain ⟨v, b2, v0, v1, hb2, e2⟩ := c_take 18 hb1 (by omega) (many := 4) (by decide) (by decide)
  have hm2 : 2 ≤ 2 + v ∧ 2 + v ≤ 5 := by omega
  obtain ⟨p14, e7⟩ := w7 (s := s) (b := b2) (x2 := Slq q2) (r := r) q14 q15 (f16.map fun d => (d, false)) q17 q18 q19 q20 (f21.map fun d => (d, false)) hm2 hr
  obtain ⟨g16, e11⟩ := w11 (s := s) (b := b2) (x2 := Slq q2) (x12 := fz (.int (2 + v))) q17 q18 q19 q20 (f21.map fun d => (d, false)) f16 hr (fz (r.often (2 + v)).D) (Slq p14)
  refine ⟨LE s b2 (Slq q2) r (fz (.bool r.safe)) (fz r.found) (fz (.int (2 + v))) (fz (r.often (2 + v)).D) (Slq p14) (oL r.es) (Slf g16) (fz r.bare.D) (oL r.same) (fz (rulesD r.rows)) (fz r.far.D) (Slf f21), ?_, ?_⟩
  · rw [lapB]
    refine b_nx (w1 q2 q3 q4 q5 q6 q7 q8 q9 q10 q11 q12 q13 q14 q15 (f16.map fun d => (d, false)) q17 q18 q19 q20 (f21.map fun d => (d, false)) e1) ?_
    refine b_nx (w2 q2 q4 q5 q6 q7 q8 q9 q10 q11 q12 q13 q14 q15 (f16.map fun d => (d, false)) q17 q18 q19 q20 (f21.map fun d => (d, false))) ?_
    refine b_nx (w3 q10 q11 q12 q13 q14 q15 (f16.map fun d => (d, false)) q17 q18 q19 q20 (f21.map fun d => (d, false)) hr.ok) ?_
    refine b_nx (w4 q12 q13 q14 q15 (f16.map fun d => (d, false)) q17 q18 q19 q20 (f21.map fun d => (d, false)) hr) ?_
    refine b_nx (w5 q12 q13 q14 q15 (f16.map fun d => (d, false)) q17 q18 q19 q20 (f21.map fun d => (d, false)) e2 _ _) ?_
    refine b_nx (w6 q13 q14 q15 (f16.map fun d => (d, false)) q17 q18 q19 q20 (f21.map fun d => (d, false)) (sz_of (by omega) (by omega)) hr.ok _ _) ?_
    refine b_nx e7 ?_
    refine b_nx (w8 q15 (f16.map fun d => (d, false)) q17 q18 q19 q20 (f21.map fun d => (d, false))) ?_
    refine b_nx (w9 (f16.map fun d => (d, false)) q17 q18 q19 q20 (f21.map fun d => (d, false))) ?_
    refine b_nx (w10 (f16.map fun d => (d, false)) q17 q18 q19 q20 (f21.map fun d => (d, false))) ?_
    refine b_nx e11 ?_
    refine b_nx (w12 g16 f21 q17 q18 q19 q20) ?_
    refine b_nx (w13 g16 f21 q18 q19 q20 hr) ?_
    refine b_nx (w14 g16 f21 q18 q19 q20) ?_
    refine b_nx (w15 g16 f21 q19 q20 hr) ?_
    refine b_nx (w16 g16 f21 q19 q20) ?_
    refine b_nx (w17 g16 f21 q20 hr) ?_
    refine b_nx (w18 g16 f21 (some (rulesD r.rows, false)) q20 hr.ok) ?_
    refine b_nx (w19 g16 f21 (some (rulesD r.rows, false)) hr) ?_
    exact b_nil
  · refine ⟨b2, g16, f21, q2, some (r.D, false), some (.str r.k.s, false), some (.int r.hold, false), some (.int r.late, false), some (.int r.apart, false), some (.int r.run, false), some (.int r.wait, false), some (.bool r.safe, false), some (r.found, false), some (.int (2 + v), false), some ((r.often (2 + v)).D, false), p14, some (.list (r.es.map Rule.D), true), some (r.bare.D, false), some (.list (r.same.map Rule.D), true), some (rulesD r.rows, false), some (r.far.D, false), hb2.up (by omega), rfl⟩
end K43

namespace K43
open PySem EV Tab
theorem law_ans (ns : List Int) : ∃ outs, Phi prg 20 44 [some ⟨.list (ns.map PyData.int), false, false⟩] = some (.bool true, false, outs) := by
  have e0 := Phi_eq (n := 19) (args := [some ⟨.list (ns.map PyData.int), false, false⟩]) p_law rfl
  rw [law_eq] at e0
  have h0 : Lap (.list (ns.map .int)) 0 (SE none none none none none none none none none none none none none none none none none none none none (.list (ns.map .int)) (absB ns)) :=
    ⟨absB ns, none, none, none, none, none, none, none, none, none, none, none, none, none, none, none, none, none, none, none, none, absB_v ns, rfl⟩
  have e1 : exS (Phi prg 19) (.asg 1 (.fn 36 [false] [.var 0])) ([some ⟨.list (ns.map PyData.int), false, false⟩] ++ List.replicate (22 - 1) none) = some (.nx (SE none none none none none none none none none none none none none none none none none none none none (.list (ns.map .int)) (absB ns))) := by
    have e := c_bag 18 ns
    simp [retOf, exB, exS, stSeq, stRetE, stRetV, stRet, stAsg, stAsgT, stPar, stIf, stNx, stEx, evPs, evPnil, evPcons, stores, stor_eq, okS_none, okS_some, okS_q, asgT, asgTs, ee_cst, ee_glo, ee_var, ee_tup, ee_lst, ee_star, ee_bin, ee_neg, ee_cmp, ee_chn, ee_and, ee_or, ee_not, ee_ite, ee_ix, ee_sl, ee_bi, evE_fn1, evE_fn2, evE_fn3, evE_fn4, evBr, evBi, evBin, evCmp, evUn, evChn, evSl, evPart, partD, slD, evDisp, evStar, spread, seqD, evOs, evConsO, evNilO, opnd, gets, Opn.get, evC, evVar, evVs, evCons, evNil, outV, ixD, at0, at1, at2, at3, at4, at5, at6, at7, cmp_lt, cmp_le, cmp_gt, cmp_ge, cmp_eq_int, cmp_ne_int, cmp_is_none, cmp_isn_none, cmp_is_bool, cmp_isn_bool, add_int, sub_int, biD, negD, fz, List.replicate, lz0, lz1, lz2, lz3, lz4, lz5, lz6, lz7, lz8, e, Slq]
  obtain ⟨ρ', e2⟩ := loopF_cnt (os := [.val (.int 5)]) (b := fun x ρ => do
      let ρ2 ← asgT (.name 2) x ρ
      exB (Phi prg 19) lapB ρ2) (fun j ρ => Lap (.list (ns.map .int)) (12 * j) ρ) 5 (fun x j ρ hj hL => by
      obtain ⟨b, f16, f21, q2, q3, q4, q5, q6, q7, q8, q9, q10, q11, q12, q13, q14, q15, q17, q18, q19, q20, hb, rfl⟩ := hL
      have a1 : asgT (.name 2) x (SE q2 q3 q4 q5 q6 q7 q8 q9 q10 q11 q12 q13 q14 q15 (f16.map fun d => (d, false)) q17 q18 q19 q20 (f21.map fun d => (d, false)) (.list (ns.map .int)) b) = some (SE (some (x, false)) q3 q4 q5 q6 q7 q8 q9 q10 q11 q12 q13 q14 q15 (f16.map fun d => (d, false)) q17 q18 q19 q20 (f21.map fun d => (d, false)) (.list (ns.map .int)) b) := by
        simp [asgT, stor_eq, okS_q]
        rfl
      obtain ⟨ρ', e, hL⟩ := lap (s := .list (ns.map .int)) (m := 12 * j) ⟨b, f16, f21, some (x, false), q3, q4, q5, q6, q7, q8, q9, q10, q11, q12, q13, q14, q15, q17, q18, q19, q20, hb, rfl⟩ (by omega)
      refine ⟨ρ', ?_, by rw [show 12 * (j + 1) = 12 * j + 12 by omega]; exact hL, stays_val _ _ _⟩
      simp only [a1, bind, Option.bind]
      exact e) (rangeD 0 5) 0 _ (by simp [rangeD]) h0
  have e3 : exS (Phi prg 19) (.loop (.name 2) .rng [.cst (.int 5)] lapB) (SE none none none none none none none none none none none none none none none none none none none none (.list (ns.map .int)) (absB ns)) = some (.nx ρ') := by
    rw [exS, stFor]
    have a1 : evOs (Phi prg 19) [.cst (.int 5)] (SE none none none none none none none none none none none none none none none none none none none none (.list (ns.map .int)) (absB ns)) = some ([.val (.int 5)], SE none none none none none none none none none none none none none none none none none none none none (.list (ns.map .int)) (absB ns)) := by
      simp [retOf, exB, exS, stSeq, stRetE, stRetV, stRet, stAsg, stAsgT, stPar, stIf, stNx, stEx, evPs, evPnil, evPcons, stores, stor_eq, okS_none, okS_some, okS_q, asgT, asgTs, ee_cst, ee_glo, ee_var, ee_tup, ee_lst, ee_star, ee_bin, ee_neg, ee_cmp, ee_chn, ee_and, ee_or, ee_not, ee_ite, ee_ix, ee_sl, ee_bi, evE_fn1, evE_fn2, evE_fn3, evE_fn4, evBr, evBi, evBin, evCmp, evUn, evChn, evSl, evPart, partD, slD, evDisp, evStar, spread, seqD, evOs, evConsO, evNilO, opnd, gets, Opn.get, evC, evVar, evVs, evCons, evNil, outV, ixD, at0, at1, at2, at3, at4, at5, at6, at7, cmp_lt, cmp_le, cmp_gt, cmp_ge, cmp_eq_int, cmp_ne_int, cmp_is_none, cmp_isn_none, cmp_is_bool, cmp_isn_bool, add_int, sub_int, biD, negD, fz, List.replicate, lz0, lz1, lz2, lz3, lz4, lz5, lz6, lz7, lz8]
    have a2 : gets (SE none none none none none none none none none none none none none none none none none none none none (.list (ns.map .int)) (absB ns)) [.val (.int 5)] = some [.int 5] := rfl
    have a3 : iterD .rng [.int 5] = some (rangeD 0 5) := by simp [iterD, small62]
    simp only [a1, a2, a3, bind, Option.bind]
    exact e2
  refine ⟨ρ'.take 1, e0.trans ?_⟩
  refine se_nx e1 ?_
  refine se_nx e3 ?_
  exact se_ret (ρ' := ρ') (by simp [retOf, exB, exS, stSeq, stRetE, stRetV, stRet, stAsg, stAsgT, stPar, stIf, stNx, stEx, evPs, evPnil, evPcons, stores, stor_eq, okS_none, okS_some, okS_q, asgT, asgTs, ee_cst, ee_glo, ee_var, ee_tup, ee_lst, ee_star, ee_bin, ee_neg, ee_cmp, ee_chn, ee_and, ee_or, ee_not, ee_ite, ee_ix, ee_sl, ee_bi, evE_fn1, evE_fn2, evE_fn3, evE_fn4, evBr, evBi, evBin, evCmp, evUn, evChn, evSl, evPart, partD, slD, evDisp, evStar, spread, seqD, evOs, evConsO, evNilO, opnd, gets, Opn.get, evC, evVar, evVs, evCons, evNil, outV, ixD, at0, at1, at2, at3, at4, at5, at6, at7, cmp_lt, cmp_le, cmp_gt, cmp_ge, cmp_eq_int, cmp_ne_int, cmp_is_none, cmp_isn_none, cmp_is_bool, cmp_isn_bool, add_int, sub_int, biD, negD, fz, List.replicate, lz0, lz1, lz2, lz3, lz4, lz5, lz6, lz7, lz8])
end K43
theorem PySem.Challenge.cw_everyhost_k43_whole_rules_of_leases_besi_holds : PySem.Challenge.rw_everyhost_k43_whole_rules_of_leases_besi.Holds :=
  Tab.holds_of fun ns _ _ => K43.law_ans ns
