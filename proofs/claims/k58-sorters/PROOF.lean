import PyProof.Rows.All
import Wide.All
import OpenK.AllK
import Wide.FinOn
import PyProof.P3Statements
import PyProof.EqLayable
import HandS.ForMost
import HandS.Deep
import HandS.TupLe
import HandS.TupAny
import HandS.IsInst
import HandS.SortInts
import KE.DataMinMax
import KE.KTupSum
import HandS.Text
import HandS.Walk
import KE.GoesEnum
import HandS.Zip
import HandS.Conv
import HandS.Comp
import HandS.Style
import PySem.Challenge.RW_shoplands_k58_whole_sorters
set_option Elab.async false
set_option linter.all false
/-! VI: an own small language over plain data: values, terms, what they yield. -/
namespace VI
open PySem

abbrev D := PyData
/-- a mutable object of a def's own -/
inductive Obj where
  | no
  | pl (ds : List D)
/-- a value: data; the n-th object; an object that nobody else knows yet -/
inductive W where
  | p (d : D) | loc (n : Nat) | nw (o : Obj)
abbrev Store := List Obj
abbrev Env := List (Option W)

inductive Bop where | add | sub | mul | fdiv | mod | pow
  deriving DecidableEq
inductive Cop where | eq | ne | lt | le | gt | ge | is | isn | inn | nin
  deriving DecidableEq
inductive Bi where | len | sum | max | min | max2 | min2 | abs | int | str | list | tuple | sorted | all | any
  deriving DecidableEq
inductive Mt where | index | join
  deriving DecidableEq
inductive Ty where | int | bool | str | tuple | list
  deriving DecidableEq

mutual
inductive T where
  | nm (i : Nat)
  | tp (ts : Ts)
inductive Ts where
  | nil
  | cons (t : T) (ts : Ts)
end
mutual
inductive E where
  | k (d : D)
  | v (i : Nat)
  | g (i : Nat)
  | bin (o : Bop) (a b : E)
  | neg (a : E)
  | cmp (o : Cop) (a b : E)
  | cmp2 (o o' : Cop) (a b c : E)
  | and (a b : E)
  | or (a b : E)
  | not (a : E)
  | ite (c : C) (a b : E)
  | tup (es : Es)
  | lst (es : Es)
  | ix (a i : E)
  | sl (a : E) (lo hi : Oe)
  | call (f : Nat) (es : Es)
  | bi (f : Bi) (es : Es)
  | isi (a : E) (t : Ty)
  | mt (f : Mt) (a e : E)
  | app (a e : E)
  | pop (a : E)
  | popi (a i : E)
  | nv
  | lrg (a : E)
  | lrg2 (a b : E)
  | trg (a : E)
  | lc (elt : E) (tg : T) (it : I) (cd : Oc) (own : List Nat)
  | lc2 (elt : E) (tg : T) (it : I) (cd : Oc) (tg1 : T) (it1 : I) (cd1 : Oc) (own : List Nat) (own1 : List Nat)
inductive C where
  | e (a : E)
  | and (a b : C)
  | or (a b : C)
  | not (a : C)
inductive Oc where
  | no
  | so (c : C)
inductive Es where
  | nil
  | cons (e : E) (es : Es)
inductive Oe where
  | no
  | so (e : E)
inductive I where
  | sq (e : E)
  | rng (a : E)
  | rng2 (a b : E)
  | rng3 (a b c : E)
  | enu (a : E)
  | zip (a b : E)
end
mutual
inductive S where
  | asg (t : T) (e : E)
  | par (is : List Nat) (es : Es)
  | aug (i : Nat) (o : Bop) (e : E)
  | setix (a i e : E)
  | set2 (a i b j e : E)
  | augix (a i : E) (o : Bop) (e : E)
  | ret (e : E)
  | retn
  | ite (c : C) (a b : Ss)
  | for_ (t : T) (it : I) (b : Ss)
  | whl (c : C) (b : Ss)
  | brk
  | cnt
  | pass
  | expr (e : E)
  | kill (is : List Nat)
  | nv
inductive Ss where
  | nil
  | cons (s : S) (ss : Ss)
end

/-! ### operations on data -/
/-- the line of lengths -/
abbrev L : Nat := 16777216
@[simp] def rd : W → Store → Option D
  | .p d, _ => some d
  | .loc n, S => match S[n]? with
    | some (.pl ds) => some (.list ds)
    | _ => none
  | .nw (.pl ds), _ => some (.list ds)
  | .nw .no, _ => none
@[simp] def rds : List W → Store → Option (List D)
  | [], _ => some []
  | w :: ws, S => do
    let d ← rd w S
    let ds ← rds ws S
    return d :: ds
/-- a value as data: a fresh object is known to nobody, so it will not change -/
@[simp] def fz : W → Option D
  | .p d => some d
  | .nw (.pl ds) => some (.list ds)
  | _ => none
/-- handed on: fresh ones as data -/
@[simp] def hand : W → Option W
  | .p d => some (.p d)
  | .loc n => some (.loc n)
  | .nw (.pl ds) => some (.p (.list ds))
  | .nw .no => none
/-- the script: a list that is read by its places alone -/
abbrev scr (ds : List D) : D := .dict [(.none, .list ds)]
@[simp] def truD : D → Option Bool
  | .none => some false
  | .bool b => some b
  | .int i => some (i != 0)
  | .list ds => some (!ds.isEmpty)
  | .tuple ds => some (!ds.isEmpty)
  | .str s => if s.length ≤ L then some ((s.length : Int) != 0) else none
  | .dict _ => none
@[simp] def smallI (a : Int) : Bool := decide (-(2 ^ 64) < a) && decide (a < 2 ^ 64)
@[simp] def bop : Bop → D → D → Option W
  | .add, .int a, .int b => some (.p (.int (a + b)))
  | .add, .str a, .str b => if a.length + b.length ≤ L then some (.p (.str (a ++ b))) else none
  | .add, .tuple a, .tuple b => if a.length + b.length ≤ L then some (.p (.tuple (a ++ b))) else none
  | .add, .list a, .list b => if a.length + b.length ≤ L then some (.nw (.pl (a ++ b))) else none
  | .sub, .int a, .int b => some (.p (.int (a - b)))
  | .mul, .int a, .int b => if smallI a || smallI b then some (.p (.int (a * b))) else none
  | .mul, .list a, .int b => if decide (-(2 ^ 63) ≤ b) && decide (b < 2 ^ 63) && decide (a.length * b.toNat ≤ L) then some (.nw (.pl (List.replicate b.toNat a).flatten)) else none
  | .fdiv, .int a, .int b => if decide (0 < b) && decide (b < 1073741824) then some (.p (.int (a / b))) else none
  | .mod, .int a, .int b => if decide (0 < b) then some (.p (.int (a % b))) else none
  | .pow, .int a, .int b => if decide (0 ≤ b) && decide (b ≤ 1000000) && decide (a.natAbs < 2 ^ 64) then some (.p (.int (a ^ b.toNat))) else none
  | _, _, _ => none
/-- a op= b, of ints and texts -/
@[simp] def iop : Bop → D → D → Option W
  | .add, .int a, .int b => some (.p (.int (a + b)))
  | .sub, .int a, .int b => some (.p (.int (a - b)))
  | .mul, .int a, .int b => if smallI a || smallI b then some (.p (.int (a * b))) else none
  | .fdiv, .int a, .int b => if decide (0 < b) && decide (b < 1073741824) then some (.p (.int (a / b))) else none
  | .mod, .int a, .int b => if decide (0 < b) then some (.p (.int (a % b))) else none
  | .add, .str a, .str b => if a.length + b.length ≤ L then some (.p (.str (a ++ b))) else none
  | _, _, _ => none
@[simp] def isScal : D → Bool
  | .none | .bool _ | .int _ | .str _ => true
  | _ => false
/-- == may be asked -/
@[simp] def eqok (d e : D) : Bool := (isScal d && isScal e) || (SeqAt.shaped d && SeqAt.shaped e)
def inok (d e : D) : Bool := SeqAt.shaped d && SeqAt.shaped e
mutual
/-- the order of data: ints, texts, tuples of these -/
def relD (o : Cop) : D → D → Option Bool
  | .int a, .int b => match o with
    | .lt => some (decide (a < b))
    | .le => some (decide (a ≤ b))
    | .gt => some (decide (b < a))
    | .ge => some (decide (b ≤ a))
    | _ => none
  | .str a, .str b => match o with
    | .lt => some (decide (a.cps.toList < b.cps.toList))
    | .le => some (!decide (b.cps.toList < a.cps.toList))
    | .gt => some (decide (b.cps.toList < a.cps.toList))
    | .ge => some (!decide (a.cps.toList < b.cps.toList))
    | _ => none
  | .tuple a, .tuple b => relAll o a b
  | _, _ => none
def relAll (o : Cop) : List D → List D → Option Bool
  | [], [] => match o with
    | .le | .ge => some true
    | .lt | .gt => some false
    | _ => none
  | [], _ :: _ => match o with
    | .lt | .le => some true
    | .gt | .ge => some false
    | _ => none
  | _ :: _, [] => match o with
    | .gt | .ge => some true
    | .lt | .le => some false
    | _ => none
  | x :: xs, y :: ys => match relAll o xs ys with
    | none => none
    | some r => if PyData.eqv x y then some r else relD o x y
end
@[simp] def noneD : D → Bool
  | .none => true
  | _ => false
@[simp] def boolD (b : Bool) : D → Bool
  | .bool c => c == b
  | _ => false
@[simp] def isD : D → D → Option Bool
  | d, .none => some (noneD d)
  | d, .bool b => some (boolD b d)
  | _, _ => none
@[simp] def inD (d : D) : D → Option Bool
  | .list ds => if SeqAt.shaped d && SeqAt.shaped (.list ds) then some (ds.any fun z => PyData.eqv z d) else none
  | .tuple ds => if SeqAt.shaped d && SeqAt.shaped (.list ds) then some (ds.any fun z => PyData.eqv z d) else none
  | _ => none
def relT (o : Cop) : D → D → Option Bool
  | .tuple d, .tuple e => if SeqAt.shaped (.tuple d) && SeqAt.shaped (.tuple e) then relD o (.tuple d) (.tuple e) else none
  | d, e => relD o d e
def cop : Cop → D → D → Option Bool
  | .eq, d, e => if eqok d e then some (PyData.eqv d e) else none
  | .ne, d, e => if eqok d e then some (!PyData.eqv d e) else none
  | .is, d, e => isD d e
  | .isn, d, e => (isD d e).map (!·)
  | .inn, d, e => inD d e
  | .nin, d, e => (inD d e).map (!·)
  | o, d, e => relT o d e
/-- the place of an index -/
def ixN (n : Nat) (i : Int) : Option Nat := if 0 ≤ i then (if i < n then some i.toNat else none) else if -(n : Int) ≤ i then some (i + n).toNat else none
def atI {α : Type} (xs : List α) (i : Int) : Option α := (ixN xs.length i).bind fun j => xs[j]?
@[simp] def ixD : D → D → Option D
  | .list ds, .int i => atI ds i
  | .tuple ds, .int i => atI ds i
  | .dict [(.none, .list ds)], .int i => atI ds i
  | .str s, .int i => if s.length ≤ L then (atI s.cps.toList i).map fun c => .str ⟨#[c]⟩ else none
  | _, _ => none
def sIx (n d : Nat) : Option Int → Nat
  | none => d
  | some i => if i < 0 then (i + n).toNat else min i.toNat n
def cut {α : Type} (xs : List α) (lo hi : Option Int) : List α := (xs.drop (sIx xs.length 0 lo)).take (sIx xs.length xs.length hi - sIx xs.length 0 lo)
@[simp] def slD (d : D) (lo hi : Option Int) : Option W :=
  match d with
  | .list ds => some (.nw (.pl (cut ds lo hi)))
  | .tuple ds => some (.p (.tuple (cut ds lo hi)))
  | _ => none
def allInt : List D → Option (List Int)
  | [] => some []
  | .int i :: r => (allInt r).map (i :: ·)
  | _ => none
def allBool : List D → Option (List Bool)
  | [] => some []
  | .bool i :: r => (allBool r).map (i :: ·)
  | _ => none
def allStr : List D → Option (List Str)
  | [] => some []
  | .str i :: r => (allStr r).map (i :: ·)
  | _ => none
def maxI : List Int → Option Int
  | [] => none
  | [a] => some a
  | a :: r => (maxI r).map fun b => if b > a then b else a
def minI : List Int → Option Int
  | [] => none
  | [a] => some a
  | a :: r => (minI r).map fun b => if b < a then b else a
@[simp] def seqD : D → Option (List D)
  | .list ds => some ds
  | .tuple ds => some ds
  | _ => none
def insI (a : Int) : List Int → List Int
  | [] => [a]
  | b :: r => if a ≤ b then a :: b :: r else b :: insI a r
def sortI : List Int → List Int
  | [] => []
  | a :: r => insI a (sortI r)
@[simp] def b_len : D → Option W
  | .list ds => some (.p (.int ds.length))
  | .tuple ds => some (.p (.int ds.length))
  | .dict [(.none, .list ds)] => some (.p (.int ds.length))
  | .str s => if s.length ≤ L then some (.p (.int s.length)) else none
  | _ => none
@[simp] def intsD (d : D) : Option (List Int) := (seqD d).bind allInt
@[simp] def b_max2 : D → D → Option W
  | .int a, .int b => some (.p (.int (if b > a then b else a)))
  | _, _ => none
@[simp] def b_min2 : D → D → Option W
  | .int a, .int b => some (.p (.int (if b < a then b else a)))
  | _, _ => none
@[simp] def b_abs : D → Option W
  | .int a => some (.p (.int (if a < 0 then -a else a)))
  | _ => none
@[simp] def b_int : D → Option W
  | .int a => some (.p (.int a))
  | .bool b => some (.p (.int (if b = true then 1 else 0)))
  | _ => none
@[simp] def b_str : D → Option W
  | .int a => if decide (a.natAbs.log2 < 1920) then some (.p (.str (toString a : String))) else none
  | _ => none
@[simp] def b_all : D → Option W
  | .list ds => (allBool ds).map fun bs => .p (.bool (bs.all id))
  | _ => none
@[simp] def b_any : D → Option W
  | .list ds => (allBool ds).map fun bs => .p (.bool (bs.any id))
  | _ => none
@[simp] def bifn : Bi → List D → Option W
  | .len, [d] => b_len d
  | .sum, [d] => (intsD d).map fun ns => .p (.int ns.sum)
  | .max, [d] => ((intsD d).bind maxI).map fun m => .p (.int m)
  | .min, [d] => ((intsD d).bind minI).map fun m => .p (.int m)
  | .max2, [d, e] => b_max2 d e
  | .min2, [d, e] => b_min2 d e
  | .abs, [d] => b_abs d
  | .int, [d] => b_int d
  | .str, [d] => b_str d
  | .list, [d] => (seqD d).map fun ds => .nw (.pl ds)
  | .tuple, [d] => (seqD d).map fun ds => .p (.tuple ds)
  | .sorted, [d] => (intsD d).map fun ns => .nw (.pl ((sortI ns).map .int))
  | .all, [d] => b_all d
  | .any, [d] => b_any d
  | _, _ => none
@[simp] def notDict : D → Option Unit
  | .dict _ => none
  | _ => some ()
@[simp] def isiD (t : Ty) : D → Bool
  | .none => false
  | .bool _ => t == .bool || t == .int
  | .int _ => t == .int
  | .str _ => t == .str
  | .list _ => t == .list
  | .tuple _ => t == .tuple
  | .dict _ => t == .list
def idxD (d : D) : List D → Option Nat
  | [] => none
  | z :: r => if PyData.eqv z d then some 0 else (idxD d r).map (· + 1)
@[simp] def mtf : Mt → D → D → Option W
  | .index, .list ds, d => if SeqAt.shaped d && SeqAt.shaped (.list ds) then (idxD d ds).map fun j => .p (.int j) else none
  | .join, .str a, .list ds => do
    let xs ← allStr ds
    if (xs.map (·.length)).sum + xs.length * a.length ≤ L then some (.p (.str (PySem.Str.join a xs))) else none
  | _, _, _ => none

/-! ### what terms yield -/
structure Glob where
  call : Nat → List W → Store → Option (W × Store)
  con : Nat → Option D

-- a target takes data
mutual
@[simp] def bindT : T → D → Env → Option Env
  | .nm i, d, env => some (env.set i (some (.p d)))
  | .tp ts, d, env => match d with
    | .tuple ds => bindTs ts ds env
    | _ => none
@[simp] def bindTs : Ts → List D → Env → Option Env
  | .nil, [], env => some env
  | .cons t ts, d :: ds, env => do
    let env1 ← bindT t d env
    bindTs ts ds env1
  | _, _, _ => none
end
@[simp] def wipeE (env : Env) : List Nat → Env
  | [] => env
  | i :: r => (wipeE env r).set i none
/-- what is walked: its items, read now; or the n-th object as it stands at each turn -/
inductive Src where
  | items (ds : List D)
  | live (n : Nat)
  | liveE (n : Nat)
/-- items with their places -/
def enuL (ds : List D) : List D := ds.zipIdx.map fun p => .tuple [.int (p.2 : Nat), p.1]
def zipL (ds es : List D) : List D := List.zipWith (fun d e => .tuple [d, e]) ds es
theorem enu_get (ds : List D) (i : Nat) : (enuL ds)[i]? = ds[i]?.map fun d => .tuple [.int (i : Nat), d] := by
  unfold enuL
  rw [List.getElem?_map, List.getElem?_zipIdx]
  cases ds[i]? <;> simp
theorem enu_len (ds : List D) : (enuL ds).length = ds.length := by simp [enuL]
theorem zip_get (ds es : List D) (i : Nat) {d e : D} (h : ds[i]? = some d) (h' : es[i]? = some e) : (zipL ds es)[i]? = some (.tuple [d, e]) := by
  unfold zipL
  rw [List.getElem?_zipWith, h, h']
theorem zip_len (ds es : List D) : (zipL ds es).length = min ds.length es.length := by simp [zipL]
@[simp] def srcE : W → Store → Option Src
  | .p (.list ds), _ => some (.items (enuL ds))
  | .p (.tuple ds), _ => some (.items (enuL ds))
  | .nw (.pl ds), _ => some (.items (enuL ds))
  | .loc n, S => match S[n]? with
    | some (.pl _) => some (.liveE n)
    | _ => none
  | _, _ => none
@[simp] def srcOf : W → Store → Option Src
  | .p (.list ds), _ => some (.items ds)
  | .p (.tuple ds), _ => some (.items ds)
  | .nw (.pl ds), _ => some (.items ds)
  | .loc n, S => match S[n]? with
    | some (.pl _) => some (.live n)
    | _ => none
  | _, _ => none
def rngL (a b : Int) : List D := (List.range (b - a).toNat).map fun (i : Nat) => .int (a + (i : Int))
/-- range with a step -/
def rng3n (a b c : Int) : Int := if c > 0 then (if a < b then (b - a - 1) / c + 1 else 0) else (if a > b then (a - b - 1) / (-c) + 1 else 0)
def rng3L (a b c : Int) : List D := (List.range (rng3n a b c).toNat).map fun (i : Nat) => .int (a + (i : Int) * c)
@[simp] def smallQ (a : Int) : Bool := decide (-1000000 ≤ a) && decide (a ≤ 1000000)
@[simp] def smallR (a : Int) : Bool := decide (-(2 ^ 62) ≤ a) && decide (a < 2 ^ 62)
/-- one turn's item -/
@[simp] def Src.at : Src → Store → Nat → Option (Option D)
  | .items ds, _, j => some ds[j]?
  | .live n, S, j => match S[n]? with
    | some (.pl ds) => some ds[j]?
    | _ => none
  | .liveE n, S, j => match S[n]? with
    | some (.pl ds) => some (ds[j]?.map fun d => .tuple [.int (j : Nat), d])
    | _ => none
@[simp] def Src.len : Src → Store → Nat
  | .items ds, _ => ds.length
  | .live n, S => match S[n]? with
    | some (.pl ds) => ds.length
    | _ => 0
  | .liveE n, S => match S[n]? with
    | some (.pl ds) => ds.length
    | _ => 0
/-- a comprehension's turns: f gives what is to be appended -/
def compGo (src : Src) (f : D → Store → Option (Option D × Store)) : Nat → Nat → List D → Store → Option (List D × Store)
  | 0, _, _, _ => none
  | n + 1, j, acc, S => do
    match ← src.at S j with
    | none => return (acc, S)
    | some d =>
      let (r, S1) ← f d S
      match r with
      | none => compGo src f n (j + 1) acc S1
      | some x => if acc.length < L then compGo src f n (j + 1) (acc ++ [x]) S1 else none
/-- .. of two clauses: f goes on with the list so far -/
def compGo2 (src : Src) (f : D → List D → Store → Option (List D × Store)) : Nat → Nat → List D → Store → Option (List D × Store)
  | 0, _, _, _ => none
  | n + 1, j, acc, S => do
    match ← src.at S j with
    | none => return (acc, S)
    | some d =>
      let (acc1, S1) ← f d acc S
      compGo2 src f n (j + 1) acc1 S1

@[simp] def truW (w : W) (S : Store) : Option Bool := (rd w S).bind truD

mutual
def ev (G : Glob) : E → Env → Store → Option (W × Store)
  | .k d, _, S => some (.p d, S)
  | .v i, env, S => match env[i]? with
    | some (some w) => some (w, S)
    | _ => none
  | .g i, _, S => (G.con i).map fun d => (.p d, S)
  | .bin o a b, env, S => do
    let (x, S1) ← ev G a env S
    let (y, S2) ← ev G b env S1
    let d ← rd x S2
    let e ← rd y S2
    let w ← bop o d e
    return (w, S2)
  | .neg a, env, S => do
    let (x, S1) ← ev G a env S
    match x with
    | .p (.int i) => return (.p (.int (-i)), S1)
    | _ => none
  | .cmp o a b, env, S => do
    let (x, S1) ← ev G a env S
    let (y, S2) ← ev G b env S1
    let d ← rd x S2
    let e ← rd y S2
    let c ← cop o d e
    return (.p (.bool c), S2)
  | .cmp2 o o' a b c, env, S => do
    let (x, S1) ← ev G a env S
    let (y, S2) ← ev G b env S1
    let d ← rd x S2
    let e ← rd y S2
    let r ← cop o d e
    if r then do
      let (z, S3) ← ev G c env S2
      let e' ← rd y S3
      let f ← rd z S3
      let r' ← cop o' e' f
      return (.p (.bool r'), S3)
    else return (.p (.bool false), S2)
  | .and a b, env, S => do
    let (x, S1) ← ev G a env S
    match x with
    | .p (.bool true) => ev G b env S1
    | .p (.bool false) => return (.p (.bool false), S1)
    | _ => none
  | .or a b, env, S => do
    let (x, S1) ← ev G a env S
    match x with
    | .p (.bool false) => ev G b env S1
    | .p (.bool true) => return (.p (.bool true), S1)
    | _ => none
  | .not a, env, S => do
    let (x, S1) ← ev G a env S
    match x with
    | .p (.bool b) => return (.p (.bool (!b)), S1)
    | _ => none
  | .ite c a b, env, S => do
    let (t, S1) ← evT G c env S
    if t then ev G a env S1 else ev G b env S1
  | .tup es, env, S => do
    let (ds, S1) ← evF G es env S
    if ds.length ≤ L then return (.p (.tuple ds), S1) else none
  | .lst es, env, S => do
    let (ds, S1) ← evF G es env S
    if ds.length ≤ L then return (.nw (.pl ds), S1) else none
  | .ix a i, env, S => do
    let (x, S1) ← ev G a env S
    let (y, S2) ← ev G i env S1
    let d ← rd x S2
    let e ← rd y S2
    let r ← ixD d e
    return (.p r, S2)
  | .sl a lo hi, env, S => do
    let (x, S1) ← ev G a env S
    let (l, S2) ← evO G lo env S1
    let (h, S3) ← evO G hi env S2
    let d ← rd x S3
    let w ← slD d l h
    return (w, S3)
  | .call f es, env, S => do
    let (ws, S1) ← evL G es env S
    G.call f ws S1
  | .bi f es, env, S => do
    let (ws, S1) ← evL G es env S
    let ds ← rds ws S1
    let w ← bifn f ds
    return (w, S1)
  | .isi a t, env, S => do
    let (x, S1) ← ev G a env S
    let d ← rd x S1
    let _ ← notDict d
    return (.p (.bool (isiD t d)), S1)
  | .mt f a e, env, S => do
    let (x, S1) ← ev G a env S
    let (y, S2) ← ev G e env S1
    let d ← rd x S2
    let e ← rd y S2
    let w ← mtf f d e
    return (w, S2)
  | .app a e, env, S => do
    let (x, S1) ← ev G a env S
    let (y, S2) ← ev G e env S1
    let d ← fz y
    match x with
    | .loc n => match S2[n]? with
      | some (.pl ds) => if ds.length < L then return (.p .none, S2.set n (.pl (ds ++ [d]))) else none
      | _ => none
    | _ => none
  | .pop a, env, S => do
    let (x, S1) ← ev G a env S
    match x with
    | .loc n => match S1[n]? with
      | some (.pl ds) => match ds.getLast? with
        | some d => return (.p d, S1.set n (.pl ds.dropLast))
        | none => none
      | _ => none
    | _ => none
  | .popi a i, env, S => do
    let (x, S1) ← ev G a env S
    let (y, S2) ← ev G i env S1
    match x, y with
    | .loc n, .p (.int i) => match S2[n]? with
      | some (.pl ds) => match ixN ds.length i with
        | some j => match ds[j]? with
          | some d => if smallR i then return (.p d, S2.set n (.pl (ds.eraseIdx j))) else none
          | none => none
        | none => none
      | _ => none
    | _, _ => none
  | .nv, _, _ => none
  | .lrg a, env, S => do
    let (w, S1) ← ev G a env S
    match w with
    | .p (.int j) => if smallR j && decide ((rngL 0 j).length ≤ L) then return (.nw (.pl (rngL 0 j)), S1) else none
    | _ => none
  | .lrg2 a b, env, S => do
    let (w, S1) ← ev G a env S
    let (u, S2) ← ev G b env S1
    match w, u with
    | .p (.int i), .p (.int j) => if smallR i && smallR j && decide ((rngL i j).length ≤ L) then return (.nw (.pl (rngL i j)), S2) else none
    | _, _ => none
  | .trg a, env, S => do
    let (w, S1) ← ev G a env S
    match w with
    | .p (.int j) => if smallR j && decide ((rngL 0 j).length ≤ L) then return (.p (.tuple (rngL 0 j)), S1) else none
    | _ => none
  | .lc elt tg it cd own, env, S => do
    let (src, S1) ← evI G it env S
    let (acc, S2) ← compGo src (fun d S => do
      let env1 ← bindT tg d (wipeE env own)
      let (t, S2) ← evC G cd env1 S
      if t then do
        let (w, S3) ← ev G elt env1 S2
        let x ← fz w
        return (some x, S3)
      else return (none, S2)) (src.len S1 + 1) 0 [] S1
    return (.nw (.pl acc), S2)
  | .lc2 elt tg it cd tg1 it1 cd1 own own1, env, S => do
    let (src, S1) ← evI G it env S
    let (acc, S2) ← compGo2 src (fun d acc S => do
      let env1 ← bindT tg d (wipeE env own)
      let (t, S2) ← evC G cd env1 S
      if t then do
        let (src1, S3) ← evI G it1 env1 S2
        compGo2 src1 (fun d1 acc S => do
          let env2 ← bindT tg1 d1 (wipeE env1 own1)
          let (t, S4) ← evC G cd1 env2 S
          if t then do
            let (w, S5) ← ev G elt env2 S4
            let x ← fz w
            if acc.length < L then return (acc ++ [x], S5) else none
          else return (acc, S4)) (src1.len S3 + 1) 0 acc S3
      else return (acc, S2)) (src.len S1 + 1) 0 [] S1
    return (.nw (.pl acc), S2)
/-- a test -/
def evT (G : Glob) : C → Env → Store → Option (Bool × Store)
  | .and a b, env, S => do
    let (x, S1) ← evT G a env S
    if x then evT G b env S1 else return (false, S1)
  | .or a b, env, S => do
    let (x, S1) ← evT G a env S
    if x then return (true, S1) else evT G b env S1
  | .not a, env, S => do
    let (x, S1) ← evT G a env S
    return (!x, S1)
  | .e a, env, S => do
    let (w, S1) ← ev G a env S
    let t ← truW w S1
    return (t, S1)
def evC (G : Glob) : Oc → Env → Store → Option (Bool × Store)
  | .no, _, S => some (true, S)
  | .so e, env, S => evT G e env S
def evO (G : Glob) : Oe → Env → Store → Option (Option Int × Store)
  | .no, _, S => some (none, S)
  | .so e, env, S => do
    let (w, S1) ← ev G e env S
    match w with
    | .p (.int i) => return (some i, S1)
    | _ => none
/-- terms, their values as data -/
def evF (G : Glob) : Es → Env → Store → Option (List D × Store)
  | .nil, _, S => some ([], S)
  | .cons e es, env, S => do
    let (w, S1) ← ev G e env S
    let d ← fz w
    let (ds, S2) ← evF G es env S1
    return (d :: ds, S2)
/-- terms handed on: data, or an object of ours -/
def evL (G : Glob) : Es → Env → Store → Option (List W × Store)
  | .nil, _, S => some ([], S)
  | .cons e es, env, S => do
    let (w, S1) ← ev G e env S
    let w' ← hand w
    let (ws, S2) ← evL G es env S1
    return (w' :: ws, S2)
/-- terms as they come -/
def evN (G : Glob) : Es → Env → Store → Option (List W × Store)
  | .nil, _, S => some ([], S)
  | .cons e es, env, S => do
    let (w, S1) ← ev G e env S
    let (ws, S2) ← evN G es env S1
    return (w :: ws, S2)
def evI (G : Glob) : I → Env → Store → Option (Src × Store)
  | .sq e, env, S => do
    let (w, S1) ← ev G e env S
    let s ← srcOf w S1
    return (s, S1)
  | .rng a, env, S => do
    let (w, S1) ← ev G a env S
    match w with
    | .p (.int b) => if smallR b then return (.items (rngL 0 b), S1) else none
    | _ => none
  | .rng2 a b, env, S => do
    let (w, S1) ← ev G a env S
    let (u, S2) ← ev G b env S1
    match w, u with
    | .p (.int a), .p (.int b) => if smallR a && smallR b then return (.items (rngL a b), S2) else none
    | _, _ => none
  | .rng3 a b c, env, S => do
    let (x, S1) ← ev G a env S
    let (y, S2) ← ev G b env S1
    let (z, S3) ← ev G c env S2
    match x, y, z with
    | .p (.int i), .p (.int j), .p (.int k) => if smallQ i && smallQ j && decide (k ≠ 0) && decide (k.natAbs < 1024) then return (.items (rng3L i j k), S3) else none
    | _, _, _ => none
  | .enu a, env, S => do
    let (w, S1) ← ev G a env S
    let s ← srcE w S1
    return (s, S1)
  | .zip a b, env, S => do
    let (w, S1) ← ev G a env S
    let (u, S2) ← ev G b env S1
    match w, u with
    | .p (.tuple ds), .p (.tuple es) => return (.items (zipL ds es), S2)
    | _, _ => none
end

/-- the slots that a target fills -/
def slotsT : T → List Nat
  | .nm i => [i]
  | .tp ts => slotsTs ts
where slotsTs : Ts → List Nat
  | .nil => []
  | .cons t ts => slotsT t ++ slotsTs ts
/-! ### statements -/
inductive Out where
  | nx (env : Env) (S : Store)
  | brk (env : Env) (S : Store)
  | cnt (env : Env) (S : Store)
  | ret (w : W) (S : Store)
@[simp] def isLoc (n : Nat) : Option W → Bool
  | some (.loc m) => m == n
  | _ => false
@[simp] def uses (env : Env) (n : Nat) : Bool := env.any (isLoc n)
/-- where a new object of slot i's is put: in the place of its last one, if nobody else knows that one -/
@[simp] def spot (keep : List Nat) (env : Env) (i : Nat) (S : Store) : Nat :=
  match env[i]? with
  | some (some (.loc n)) => if keep.contains n || uses (env.set i none) n || decide (S.length ≤ n) then S.length else n
  | _ => S.length
/-- a list of ours, one place stored -/
def stI : W → W → Store → D → Option Store
  | .loc n, .p (.int k), T, d => match T[n]? with
    | some (.pl ds) => (ixN ds.length k).map fun p => T.set n (.pl (ds.set p d))
    | _ => none
  | _, _, _, _ => none
@[simp] def as2 : D → Option (D × D)
  | .tuple [a, b] => some (a, b)
  | _ => none
@[simp] def put (S : Store) (n : Nat) (o : Obj) : Store := if n < S.length then S.set n o else S ++ [o]
@[simp] def setW (keep : List Nat) (i : Nat) (w : W) (env : Env) (S : Store) : Env × Store :=
  match w with
  | .nw o => (env.set i (some (.loc (spot keep env i S))), put S (spot keep env i S) o)
  | w => (env.set i (some w), S)
/-- several, one after another: no place is taken again -/
@[simp] def setWs : List Nat → List W → Env → Store → Option (Env × Store)
  | [], [], env, S => some (env, S)
  | i :: is, .nw o :: ws, env, S => setWs is ws (env.set i (some (.loc S.length))) (S ++ [o])
  | i :: is, w :: ws, env, S => setWs is ws (env.set i (some w)) S
  | _, _, _, _ => none
@[simp] def kept (keep : List Nat) (env : Env) (n : Nat) : Bool := keep.contains n || uses env n
@[simp] def lastK (k : Nat → Bool) : Nat → Nat
  | 0 => 0
  | n + 1 => if k n then n + 1 else lastK k n
@[simp] def sweepGo (k : Nat → Bool) : Nat → Store → Store
  | _, [] => []
  | n, o :: r => (if k n then o else .no) :: sweepGo k (n + 1) r
@[simp] def sweep (keep : List Nat) (env : Env) (S : Store) : Store := sweepGo (kept keep env) 0 (S.take (lastK (kept keep env) S.length))
-- turns of a for -/
def forGo (src : Src) (t : T) (body : Env → Store → Option Out) : Nat → Nat → Env → Store → Option Out
  | 0, _, _, _ => none
  | n + 1, j, env, S => do
    match ← src.at S j with
    | none => return .nx env S
    | some d =>
      let env1 ← bindT t d env
      match ← body env1 S with
      | .nx env2 S2 => forGo src t body n (j + 1) env2 S2
      | .cnt env2 S2 => forGo src t body n (j + 1) env2 S2
      | .brk env2 S2 => return .nx env2 S2
      | .ret w S2 => return .ret w S2
def whlGo (test : Env → Store → Option (Bool × Store)) (body : Env → Store → Option Out) : Nat → Env → Store → Option Out
  | 0, _, _ => none
  | n + 1, env, S => do
    let (b, S1) ← test env S
    if b then
      match ← body env S1 with
      | .nx env2 S2 => whlGo test body n env2 S2
      | .cnt env2 S2 => whlGo test body n env2 S2
      | .brk env2 S2 => return .nx env2 S2
      | .ret w S2 => return .ret w S2
    else return .nx env S1
@[simp] def Src.keep : Src → List Nat → List Nat
  | .live n, k => n :: k
  | .liveE n, k => n :: k
  | _, k => k
/-- the most turns of a while -/
def WF : Nat := 1000000

mutual
def ex (G : Glob) : S → List Nat → Env → Store → Option Out
  | .asg t e, keep, env, S => do
    let (w, S1) ← ev G e env S
    match t with
    | .nm i => return .nx (setW keep i w env S1).1 (setW keep i w env S1).2
    | .tp ts => do
      let d ← fz w
      let env1 ← bindT (.tp ts) d env
      return .nx env1 S1
  | .par is es, _, env, S => do
    let (ws, S1) ← evN G es env S
    let (env2, S2) ← setWs is ws env S1
    return .nx env2 S2
  | .aug i o e, _, env, S => do
    match env[i]? with
    | some (some (.p d)) => do
      let (w, S1) ← ev G e env S
      let d' ← rd w S1
      match ← iop o d d' with
      | .p r => return .nx (env.set i (some (.p r))) S1
      | _ => none
    | _ => none
  | .set2 a i b j e, _, env, S => do
    let (w, S1) ← ev G e env S
    let d ← fz w
    let p ← as2 d
    let (x, S2) ← ev G a env S1
    let (y, S3) ← ev G i env S2
    let S4 ← stI x y S3 p.1
    let (x', S5) ← ev G b env S4
    let (y', S6) ← ev G j env S5
    let S7 ← stI x' y' S6 p.2
    return .nx env S7
  | .setix a i e, _, env, S => do
    let (w, S1) ← ev G e env S
    let d ← fz w
    let (x, S2) ← ev G a env S1
    let (y, S3) ← ev G i env S2
    match x, y with
    | .loc n, .p (.int k) => match S3[n]? with
      | some (.pl ds) => do
        let j ← ixN ds.length k
        return .nx env (S3.set n (.pl (ds.set j d)))
      | _ => none
    | _, _ => none
  | .augix a i o e, _, env, S => do
    let (x, S1) ← ev G a env S
    let (y, S2) ← ev G i env S1
    match x, y with
    | .loc n, .p (.int k) => match S2[n]? with
      | some (.pl ds) => do
        let old ← atI ds k
        let (w, S3) ← ev G e env S2
        let d' ← rd w S3
        match ← iop o old d' with
        | .p r => match S3[n]? with
          | some (.pl ds') => do
            let j ← ixN ds'.length k
            return .nx env (S3.set n (.pl (ds'.set j r)))
          | _ => none
        | _ => none
      | _ => none
    | _, _ => none
  | .ret e, _, env, S => do
    let (w, S1) ← ev G e env S
    return .ret w S1
  | .retn, _, _, S => some (.ret (.p .none) S)
  | .ite c a b, keep, env, S => do
    let (t, S1) ← evT G c env S
    if t then exs G a keep env S1 else exs G b keep env S1
  | .for_ t it b, keep, env, S => do
    let (src, S1) ← evI G it env S
    forGo src t (exs G b (src.keep keep)) (src.len S1 + 1) 0 env S1
  | .whl c b, keep, env, S => whlGo (evT G c) (exs G b keep) WF env S
  | .brk, _, env, S => some (.brk env S)
  | .cnt, _, env, S => some (.cnt env S)
  | .pass, _, env, S => some (.nx env S)
  | .nv, _, _, _ => none
  | .expr e, _, env, S => do
    let (_, S1) ← ev G e env S
    return .nx env S1
  | .kill is, keep, env, S => some (.nx (wipeE env is) (sweep keep (wipeE env is) S))
def exs (G : Glob) : Ss → List Nat → Env → Store → Option Out
  | .nil, _, env, S => some (.nx env S)
  | .cons s ss, keep, env, S => do
    match ← ex G s keep env S with
    | .nx env1 S1 => exs G ss keep env1 S1
    | o => return o
end

/-! ### defs -/
structure Fn where
  np : Nat
  nv : Nat
  body : Ss
/-- a def at its own sight: k objects handed in -/
def fnRun (G : Glob) (fn : Fn) (args : List W) (Sc : Store) : Option (W × Store) := do
  match ← exs G fn.body (List.range Sc.length) (args.map some ++ List.replicate (fn.nv - fn.np) none) Sc with
  | .nx _ S1 => return (.p .none, S1.take Sc.length)
  | .ret w S1 => match w with
    | .loc n => if n < Sc.length then return (.loc n, S1.take Sc.length) else match S1[n]? with
      | some (.pl ds) => return (.nw (.pl ds), S1.take Sc.length)
      | _ => none
    | .p d => return (.p d, S1.take Sc.length)
    | .nw (.pl ds) => return (.nw (.pl ds), S1.take Sc.length)
    | .nw .no => none
  | _ => none
@[simp] def locsOf : List W → List Nat → List Nat
  | [], l => l
  | .loc n :: r, l => if l.contains n then locsOf r l else locsOf r (l ++ [n])
  | _ :: r, l => locsOf r l
@[simp] def handIn (l : List Nat) : List W → Option (List W)
  | [] => some []
  | .loc n :: r => (handIn l r).map (.loc (l.idxOf n) :: ·)
  | .p d :: r => (handIn l r).map (.p d :: ·)
  | .nw _ :: _ => none
@[simp] def pick {α : Type} (xs : List α) : List Nat → Option (List α)
  | [] => some []
  | n :: r => match xs[n]? with
    | none => none
    | some o => (pick xs r).map (o :: ·)
@[simp] def backTo : List Nat → Store → Store → Store
  | n :: r, o :: os, S => backTo r os (S.set n o)
  | _, _, S => S
/-- a call: the objects handed on are lent out -/
def callW (np : Nat) (sem : List W → Store → Option (W × Store)) (ws : List W) (S : Store) : Option (W × Store) := do
  let l := locsOf ws []
  let args ← handIn l ws
  let Sc ← pick S l
  if args.length = np then do
    let (w, S1) ← sem args Sc
    match w with
    | .loc n => match l[n]? with
      | some m => return (.loc m, backTo l S1 S)
      | none => none
    | w => return (w, backTo l S1 S)
  else none
def runF (prog : Nat → Option Fn) (con : Nat → Option D) : Nat → Nat → List W → Store → Option (W × Store)
  | 0, _, _, _ => none
  | k + 1, f, ws, S => match prog f with
    | none => none
    | some fn => callW fn.np (fnRun ⟨runF prog con k, con⟩ fn) ws S
end VI
set_option Elab.async false
set_option linter.all false
set_option maxRecDepth 100000
/-! how our terms are reckoned with -/
namespace VI
open PySem
/-- what follows is looked at when it is reached, no sooner: Q is bound to a mark -/
structure Tag {α : Type} (Q : α → Prop) : Type where
/-- r yields a value, and Q holds of it -/
def Wp {α : Type} (r : Option α) (Q : α → Prop) (t : Tag Q := ⟨⟩) : Prop := ∃ a, r = some a ∧ Q a
section
variable {α β : Type} {Q : α → Prop} {P : β → Prop} {t : Tag Q} {u : Tag P}
@[simp] theorem wp_some {a : α} : Wp (some a) Q t ↔ Q a := ⟨fun ⟨b, e, q⟩ => by cases e; exact q, fun q => ⟨a, rfl, q⟩⟩
@[simp] theorem wp_none : Wp (none : Option α) Q t ↔ False := ⟨(fun ⟨b, e, q⟩ => by cases e), fun h => h.elim⟩
@[simp] theorem wp_pure {a : α} : Wp (pure a : Option α) Q t ↔ Q a := wp_some
@[simp ↓] theorem wp_bind {x : Option α} {f : α → Option β} : Wp (x >>= f) P u ↔ Wp x fun a => Wp (f a) P := by
  cases x with
  | none => simp
  | some a => simp
@[simp ↓] theorem wp_bind' {x : Option α} {f : α → Option β} : Wp (x.bind f) P u ↔ Wp x fun a => Wp (f a) P := wp_bind
@[simp ↓] theorem wp_map {x : Option α} {f : α → β} : Wp (x.map f) P u ↔ Wp x fun a => P (f a) := by
  cases x with
  | none => simp
  | some a => simp
@[simp ↓] theorem wp_map' {x : Option α} {f : α → β} : Wp (f <$> x) P u ↔ Wp x fun a => P (f a) := wp_map
@[simp ↓] theorem wp_ite {c : Prop} [Decidable c] {x y : Option α} : Wp (if c then x else y) Q t ↔ if c then Wp x Q else Wp y Q := by
  split <;> rfl
theorem Wp.mono {x : Option α} {Q' : α → Prop} (h : Wp x Q) (i : ∀ a, Q a → Q' a) : Wp x Q' := let ⟨a, e, q⟩ := h; ⟨a, e, i a q⟩
theorem Wp.of {x : Option α} {a : α} (e : x = some a) (q : Q a) : Wp x Q := ⟨a, e, q⟩
theorem wp_eq {x : Option α} {a : α} (h : Wp x fun b => b = a) : x = some a := let ⟨b, e, q⟩ := h; by rw [e, q]
end
/-- a statement, then the rest -/
structure Tag2 (I : Env → Store → Prop) (Q : Out → Prop) : Type where
def SeqR (I : Env → Store → Prop) (Q : Out → Prop) (o : Out) (t : Tag2 I Q := ⟨⟩) : Prop := match o with
  | .nx e s => I e s
  | .cnt e s => Q (.cnt e s)
  | .brk e s => Q (.brk e s)
  | .ret w s => Q (.ret w s)
section
variable {I : Env → Store → Prop} {Q : Out → Prop} {e : Env} {s : Store} {w : W} {t : Tag2 I Q}
@[simp] theorem seq_nx : SeqR I Q (.nx e s) t = I e s := rfl
@[simp] theorem seq_cnt : SeqR I Q (.cnt e s) t = Q (.cnt e s) := rfl
@[simp] theorem seq_brk : SeqR I Q (.brk e s) t = Q (.brk e s) := rfl
@[simp] theorem seq_ret : SeqR I Q (.ret w s) t = Q (.ret w s) := rfl
end
/-! ### comprehensions by name -/
def lcF (G : Glob) (elt : E) (tg : T) (cd : Oc) (own : List Nat) (env : Env) : D → Store → Option (Option D × Store) := fun d S => do
  let env1 ← bindT tg d (wipeE env own)
  let (t, S2) ← evC G cd env1 S
  if t then do
    let (w, S3) ← ev G elt env1 S2
    let x ← fz w
    return (some x, S3)
  else return (none, S2)
def lc2F (G : Glob) (elt : E) (tg : T) (cd : Oc) (tg1 : T) (it1 : I) (cd1 : Oc) (own own1 : List Nat) (env : Env) : D → List D → Store → Option (List D × Store) := fun d acc S => do
  let env1 ← bindT tg d (wipeE env own)
  let (t, S2) ← evC G cd env1 S
  if t then do
    let (src1, S3) ← evI G it1 env1 S2
    compGo2 src1 (fun d1 acc S => do
      let env2 ← bindT tg1 d1 (wipeE env1 own1)
      let (t, S4) ← evC G cd1 env2 S
      if t then do
        let (w, S5) ← ev G elt env2 S4
        let x ← fz w
        if acc.length < L then return (acc ++ [x], S5) else none
      else return (acc, S4)) (src1.len S3 + 1) 0 acc S3
  else return (acc, S2)
theorem wp_iff {α : Type} {x : Option α} {Q Q' : α → Prop} {t : Tag Q} {t' : Tag Q'} (h : ∀ a, Q a ↔ Q' a) : Wp x Q t ↔ Wp x Q' t' := ⟨fun ⟨a, e, q⟩ => ⟨a, e, (h a).mp q⟩, fun ⟨a, e, q⟩ => ⟨a, e, (h a).mpr q⟩⟩
theorem wp_b {α β : Type} {x : Option α} {f : α → Option β} {P : β → Prop} {u : Tag P} {Q : α → Prop} {t : Tag Q} (h : ∀ a, Wp (f a) P ↔ Q a) : Wp (x >>= f) P u ↔ Wp x Q t := wp_bind.trans (wp_iff h)
@[simp] def getV : Env → Nat → Option W
  | some w :: _, 0 => some w
  | none :: _, 0 => none
  | [], _ => none
  | _ :: r, i + 1 => getV r i
theorem getV_eq : ∀ (env : Env) (i : Nat), getV env i = match env[i]? with
    | some (some w) => some w
    | _ => none
  | [], i => by simp [getV]
  | some w :: r, 0 => by simp [getV]
  | none :: r, 0 => by simp [getV]
  | o :: r, i + 1 => by
    cases o <;> (simp only [getV, List.getElem?_cons_succ]; exact getV_eq r i)
@[simp] def asB : W → Option Bool
  | .p (.bool b) => some b
  | _ => none
@[simp] def asInt : W → Option Int
  | .p (.int b) => some b
  | _ => none
@[simp] def asTup : W → Option (List D)
  | .p (.tuple ds) => some ds
  | _ => none
@[simp] def asP : W → Option D
  | .p d => some d
  | _ => none
@[simp] def asLoc : W → Option Nat
  | .loc n => some n
  | _ => none
def asL (S : Store) (n : Nat) : Option (List D) := match S[n]? with
  | some (.pl ds) => some ds
  | _ => none
@[simp] theorem asL_zero {ds : List D} {S : Store} : asL (.pl ds :: S) 0 = some ds := rfl
@[simp] theorem asL_succ {o : Obj} {S : Store} {n : Nat} : asL (o :: S) (n + 1) = asL S n := rfl
theorem asL_of {ds : List D} {S : Store} {n : Nat} (h : S[n]? = some (.pl ds)) : asL S n = some ds := by
  unfold asL; rw [h]
section
variable {G : Glob} {env : Env} {S : Store} {keep : List Nat}
section
variable {Q : W × Store → Prop} {t : Tag Q} {a b c : E} {o o' : Bop} {p p' : Cop}

@[simp ↓] theorem wp_k {d : D} : Wp (ev G (.k d) env S) Q t ↔ Q (.p d, S) := wp_some
@[simp ↓] theorem wp_v {i : Nat} : Wp (ev G (.v i) env S) Q t ↔ Wp (getV env i) fun w => Q (w, S) := by
  rw [getV_eq]
  show Wp (match env[i]? with
    | some (some w) => some (w, S)
    | _ => none) Q _ ↔ _
  cases env[i]? with
  | none => simp
  | some o => cases o <;> simp
@[simp ↓] theorem wp_g {i : Nat} : Wp (ev G (.g i) env S) Q t ↔ Wp (G.con i) fun d => Q (.p d, S) := wp_map
@[simp ↓] theorem wp_bin : Wp (ev G (.bin o a b) env S) Q t ↔ Wp (ev G a env S) fun r => Wp (ev G b env r.2) fun r' => Wp (rd r.1 r'.2) fun d => Wp (rd r'.1 r'.2) fun e => Wp (bop o d e) fun w => Q (w, r'.2) := wp_b fun _ => wp_b fun _ => wp_b fun _ => wp_b fun _ => wp_b fun _ => wp_pure
@[simp ↓] theorem wp_neg : Wp (ev G (.neg a) env S) Q t ↔ Wp (ev G a env S) fun r => Wp (asInt r.1) fun i => Q (.p (.int (-i)), r.2) := wp_b fun ⟨x, S1⟩ => by
  cases x with
  | p d => cases d <;> simp
  | _ => simp
@[simp ↓] theorem wp_cmp : Wp (ev G (.cmp p a b) env S) Q t ↔ Wp (ev G a env S) fun r => Wp (ev G b env r.2) fun r' => Wp (rd r.1 r'.2) fun d => Wp (rd r'.1 r'.2) fun e => Wp (cop p d e) fun c => Q (.p (.bool c), r'.2) := wp_b fun _ => wp_b fun _ => wp_b fun _ => wp_b fun _ => wp_b fun _ => wp_pure
@[simp ↓] theorem wp_cmp2 : Wp (ev G (.cmp2 p p' a b c) env S) Q t ↔ Wp (ev G a env S) fun r => Wp (ev G b env r.2) fun r' => Wp (rd r.1 r'.2) fun d => Wp (rd r'.1 r'.2) fun e => Wp (cop p d e) fun z =>
    if z = true then Wp (ev G c env r'.2) fun r3 => Wp (rd r'.1 r3.2) fun e' => Wp (rd r3.1 r3.2) fun f => Wp (cop p' e' f) fun y => Q (.p (.bool y), r3.2) else Q (.p (.bool false), r'.2) := wp_b fun _ => wp_b fun _ => wp_b fun _ => wp_b fun _ => wp_b fun z => by
  cases z with
  | false => exact wp_pure
  | true => exact wp_b (t := ⟨⟩) fun _ => wp_b fun _ => wp_b fun _ => wp_b fun _ => wp_pure
@[simp ↓] theorem wp_and : Wp (ev G (.and a b) env S) Q t ↔ Wp (ev G a env S) fun r => Wp (asB r.1) fun c => if c = true then Wp (ev G b env r.2) Q else Q (.p (.bool false), r.2) := wp_b fun ⟨x, S1⟩ => by
  cases x with
  | p d =>
    cases d with
    | bool c => cases c <;> simp
    | _ => simp
  | _ => simp
@[simp ↓] theorem wp_or : Wp (ev G (.or a b) env S) Q t ↔ Wp (ev G a env S) fun r => Wp (asB r.1) fun c => if c = true then Q (.p (.bool true), r.2) else Wp (ev G b env r.2) Q := wp_b fun ⟨x, S1⟩ => by
  cases x with
  | p d =>
    cases d with
    | bool c => cases c <;> simp
    | _ => simp
  | _ => simp
@[simp ↓] theorem wp_not : Wp (ev G (.not a) env S) Q t ↔ Wp (ev G a env S) fun r => Wp (asB r.1) fun c => Q (.p (.bool (!c)), r.2) := wp_b fun ⟨x, S1⟩ => by
  cases x with
  | p d => cases d <;> simp
  | _ => simp
@[simp ↓] theorem wp_itE {c : C} : Wp (ev G (.ite c a b) env S) Q t ↔ Wp (evT G c env S) fun r => if r.1 = true then Wp (ev G a env r.2) Q else Wp (ev G b env r.2) Q := wp_b fun ⟨x, S1⟩ => wp_ite
@[simp ↓] theorem wp_tup {es : Es} : Wp (ev G (.tup es) env S) Q t ↔ Wp (evF G es env S) fun r => r.1.length ≤ L ∧ Q (.p (.tuple r.1), r.2) := wp_b fun ⟨x, S1⟩ => by
  simp only [wp_ite]
  split
  · rename_i h; simp only [wp_pure]; exact ⟨fun q => ⟨h, q⟩, fun q => q.2⟩
  · rename_i h; simp only [wp_none, false_iff]; exact fun q => h q.1
@[simp ↓] theorem wp_lst {es : Es} : Wp (ev G (.lst es) env S) Q t ↔ Wp (evF G es env S) fun r => r.1.length ≤ L ∧ Q (.nw (.pl r.1), r.2) := wp_b fun ⟨x, S1⟩ => by
  simp only [wp_ite]
  split
  · rename_i h; simp only [wp_pure]; exact ⟨fun q => ⟨h, q⟩, fun q => q.2⟩
  · rename_i h; simp only [wp_none, false_iff]; exact fun q => h q.1
@[simp ↓] theorem wp_ix : Wp (ev G (.ix a b) env S) Q t ↔ Wp (ev G a env S) fun r => Wp (ev G b env r.2) fun r' => Wp (rd r.1 r'.2) fun d => Wp (rd r'.1 r'.2) fun e => Wp (ixD d e) fun x => Q (.p x, r'.2) := wp_b fun _ => wp_b fun _ => wp_b fun _ => wp_b fun _ => wp_b fun _ => wp_pure
@[simp ↓] theorem wp_sl {l h : Oe} : Wp (ev G (.sl a l h) env S) Q t ↔ Wp (ev G a env S) fun r => Wp (evO G l env r.2) fun r1 => Wp (evO G h env r1.2) fun r2 => Wp (rd r.1 r2.2) fun d => Wp (slD d r1.1 r2.1) fun w => Q (w, r2.2) := wp_b fun _ => wp_b fun _ => wp_b fun _ => wp_b fun _ => wp_b fun _ => wp_pure
@[simp ↓] theorem wp_call {f : Nat} {es : Es} : Wp (ev G (.call f es) env S) Q t ↔ Wp (evL G es env S) fun r => Wp (G.call f r.1 r.2) Q := wp_b fun _ => Iff.rfl
@[simp ↓] theorem wp_bi {f : Bi} {es : Es} : Wp (ev G (.bi f es) env S) Q t ↔ Wp (evL G es env S) fun r => Wp (rds r.1 r.2) fun ds => Wp (bifn f ds) fun w => Q (w, r.2) := wp_b fun _ => wp_b fun _ => wp_b fun _ => wp_pure
@[simp ↓] theorem wp_isi {y : Ty} : Wp (ev G (.isi a y) env S) Q t ↔ Wp (ev G a env S) fun r => Wp (rd r.1 r.2) fun d => Wp (notDict d) fun _ => Q (.p (.bool (isiD y d)), r.2) := wp_b fun _ => wp_b fun _ => wp_b fun _ => wp_pure
@[simp ↓] theorem wp_mt {f : Mt} : Wp (ev G (.mt f a b) env S) Q t ↔ Wp (ev G a env S) fun r => Wp (ev G b env r.2) fun r' => Wp (rd r.1 r'.2) fun d => Wp (rd r'.1 r'.2) fun e => Wp (mtf f d e) fun w => Q (w, r'.2) := wp_b fun _ => wp_b fun _ => wp_b fun _ => wp_b fun _ => wp_b fun _ => wp_pure
@[simp ↓] theorem wp_app : Wp (ev G (.app a b) env S) Q t ↔ Wp (ev G a env S) fun r => Wp (ev G b env r.2) fun r' => Wp (fz r'.1) fun d => Wp (asLoc r.1) fun n => Wp (asL r'.2 n) fun ds => ds.length < L ∧ Q (.p .none, r'.2.set n (.pl (ds ++ [d]))) := wp_b fun ⟨x, S1⟩ => wp_b fun ⟨y, S2⟩ => wp_b fun d => by
  cases x with
  | loc n =>
    simp only [asLoc, wp_some, asL]
    cases S2[n]? with
    | none => simp
    | some o =>
      cases o with
      | no => simp
      | pl ds =>
        simp only [wp_some, wp_ite]
        split
        · rename_i h; simp only [wp_pure]; exact ⟨fun q => ⟨h, q⟩, fun q => q.2⟩
        · rename_i h; simp only [wp_none, false_iff]; exact fun q => h q.1
  | _ => simp
@[simp ↓] theorem wp_pop : Wp (ev G (.pop a) env S) Q t ↔ Wp (ev G a env S) fun r => Wp (asLoc r.1) fun n => Wp (asL r.2 n) fun ds => Wp ds.getLast? fun d => Q (.p d, r.2.set n (.pl ds.dropLast)) := wp_b fun ⟨x, S1⟩ => by
  cases x with
  | loc n =>
    simp only [asLoc, wp_some, asL]
    cases S1[n]? with
    | none => simp
    | some o =>
      cases o with
      | no => simp
      | pl ds =>
        simp only [wp_some]
        cases ds.getLast? <;> simp
  | _ => simp
@[simp ↓] theorem wp_popi : Wp (ev G (.popi a b) env S) Q t ↔ Wp (ev G a env S) fun r => Wp (ev G b env r.2) fun r' => Wp (asLoc r.1) fun n => Wp (asInt r'.1) fun i => Wp (asL r'.2 n) fun ds => Wp (ixN ds.length i) fun j => Wp ds[j]? fun d => smallR i = true ∧ Q (.p d, r'.2.set n (.pl (ds.eraseIdx j))) := wp_b fun ⟨x, S1⟩ => wp_b fun ⟨y, S2⟩ => by
  cases x with
  | loc n =>
    cases y with
    | p e =>
      cases e with
      | int i =>
        simp only [asLoc, asInt, wp_some, asL]
        cases S2[n]? with
        | none => simp
        | some o =>
          cases o with
          | no => simp
          | pl ds =>
            simp only [wp_some]
            cases ixN ds.length i with
            | none => simp
            | some j =>
              simp only [wp_some]
              cases ds[j]? with
              | none => simp
              | some d =>
                simp only [wp_some, wp_ite]
                split
                · rename_i h; simp only [wp_pure]; exact ⟨fun q => ⟨h, q⟩, fun q => q.2⟩
                · rename_i h; simp only [wp_none, false_iff]; exact fun q => h q.1
      | _ => simp
    | _ => simp
  | _ => simp
@[simp ↓] theorem wp_lrg : Wp (ev G (.lrg a) env S) Q t ↔ Wp (ev G a env S) fun r => Wp (asInt r.1) fun j => (smallR j = true ∧ (rngL 0 j).length ≤ L) ∧ Q (.nw (.pl (rngL 0 j)), r.2) := wp_b fun ⟨x, S1⟩ => by
  cases x with
  | p d =>
    cases d with
    | int j =>
      simp only [asInt, wp_some, wp_ite, Bool.and_eq_true, decide_eq_true_eq]
      split
      · rename_i h; simp only [wp_pure]; exact ⟨fun q => ⟨h, q⟩, fun q => q.2⟩
      · rename_i h; simp only [wp_none, false_iff]; exact fun q => h q.1
    | _ => simp
  | _ => simp
@[simp ↓] theorem wp_trg : Wp (ev G (.trg a) env S) Q t ↔ Wp (ev G a env S) fun r => Wp (asInt r.1) fun j => (smallR j = true ∧ (rngL 0 j).length ≤ L) ∧ Q (.p (.tuple (rngL 0 j)), r.2) := wp_b fun ⟨x, S1⟩ => by
  cases x with
  | p d =>
    cases d with
    | int j =>
      simp only [asInt, wp_some, wp_ite, Bool.and_eq_true, decide_eq_true_eq]
      split
      · rename_i h; simp only [wp_pure]; exact ⟨fun q => ⟨h, q⟩, fun q => q.2⟩
      · rename_i h; simp only [wp_none, false_iff]; exact fun q => h q.1
    | _ => simp
  | _ => simp
@[simp ↓] theorem wp_lrg2 : Wp (ev G (.lrg2 a b) env S) Q t ↔ Wp (ev G a env S) fun r => Wp (ev G b env r.2) fun r' => Wp (asInt r.1) fun i => Wp (asInt r'.1) fun j => ((smallR i = true ∧ smallR j = true) ∧ (rngL i j).length ≤ L) ∧ Q (.nw (.pl (rngL i j)), r'.2) := wp_b fun ⟨x, S1⟩ => wp_b fun ⟨y, S2⟩ => by
  cases x with
  | p d =>
    cases d with
    | int i =>
      cases y with
      | p e =>
        cases e with
        | int j =>
          simp only [asInt, wp_some, wp_ite, Bool.and_eq_true, decide_eq_true_eq]
          split
          · rename_i h; simp only [wp_pure]; exact ⟨fun q => ⟨h, q⟩, fun q => q.2⟩
          · rename_i h; simp only [wp_none, false_iff]; exact fun q => h q.1
        | _ => simp
      | _ => simp
    | _ => simp
  | _ => simp
@[simp ↓] theorem wp_nv : Wp (ev G .nv env S) Q t ↔ False := wp_none
@[simp ↓] theorem wp_lc {elt : E} {tg : T} {it : I} {cd : Oc} {own : List Nat} : Wp (ev G (.lc elt tg it cd own) env S) Q t ↔ Wp (evI G it env S) fun r => Wp (compGo r.1 (lcF G elt tg cd own env) (r.1.len r.2 + 1) 0 [] r.2) fun z => Q (.nw (.pl z.1), z.2) := wp_b fun _ => wp_b fun _ => wp_pure
@[simp ↓] theorem wp_lc2 {elt : E} {tg : T} {it : I} {cd : Oc} {tg1 : T} {it1 : I} {cd1 : Oc} {own own1 : List Nat} : Wp (ev G (.lc2 elt tg it cd tg1 it1 cd1 own own1) env S) Q t ↔ Wp (evI G it env S) fun r => Wp (compGo2 r.1 (lc2F G elt tg cd tg1 it1 cd1 own own1 env) (r.1.len r.2 + 1) 0 [] r.2) fun z => Q (.nw (.pl z.1), z.2) := wp_b fun _ => wp_b fun _ => wp_pure
end
@[simp ↓] theorem wp_lcF {elt : E} {tg : T} {cd : Oc} {own : List Nat} {d : D} {Q : Option D × Store → Prop} {t : Tag Q} : Wp (lcF G elt tg cd own env d S) Q t ↔ Wp (bindT tg d (wipeE env own)) fun env1 => Wp (evC G cd env1 S) fun r => if r.1 = true then Wp (ev G elt env1 r.2) fun r' => Wp (fz r'.1) fun x => Q (some x, r'.2) else Q (none, r.2) := wp_b fun env1 => wp_b fun ⟨z, S1⟩ => by
  cases z with
  | false => exact wp_pure
  | true => exact wp_b (t := ⟨⟩) fun _ => wp_b fun _ => wp_pure
section
variable {Q : Bool × Store → Prop} {t : Tag Q} {a b : C}
@[simp ↓] theorem wp_tand : Wp (evT G (.and a b) env S) Q t ↔ Wp (evT G a env S) fun r => if r.1 = true then Wp (evT G b env r.2) Q else Q (false, r.2) := wp_b fun ⟨x, S1⟩ => by cases x <;> simp
@[simp ↓] theorem wp_tor : Wp (evT G (.or a b) env S) Q t ↔ Wp (evT G a env S) fun r => if r.1 = true then Q (true, r.2) else Wp (evT G b env r.2) Q := wp_b fun ⟨x, S1⟩ => by cases x <;> simp
@[simp ↓] theorem wp_tnot : Wp (evT G (.not a) env S) Q t ↔ Wp (evT G a env S) fun r => Q (!r.1, r.2) := wp_b fun _ => wp_pure
@[simp ↓] theorem wp_te {e : E} : Wp (evT G (.e e) env S) Q t ↔ Wp (ev G e env S) fun r => Wp (rd r.1 r.2) fun d => Wp (truD d) fun b => Q (b, r.2) := wp_b fun ⟨x, S1⟩ => by
  show Wp ((rd x S1).bind truD >>= _) Q _ ↔ _
  rw [wp_bind, wp_bind']
  exact wp_iff fun _ => wp_iff fun _ => wp_pure
@[simp ↓] theorem wp_cno : Wp (evC G .no env S) Q t ↔ Q (true, S) := wp_some
@[simp ↓] theorem wp_cso {c : C} : Wp (evC G (.so c) env S) Q t ↔ Wp (evT G c env S) Q := Iff.rfl
end
section
variable {Q : Option Int × Store → Prop} {t : Tag Q}
@[simp ↓] theorem wp_ono : Wp (evO G .no env S) Q t ↔ Q (none, S) := wp_some
@[simp ↓] theorem wp_oso {e : E} : Wp (evO G (.so e) env S) Q t ↔ Wp (ev G e env S) fun r => Wp (asInt r.1) fun i => Q (some i, r.2) := wp_b fun ⟨x, S1⟩ => by
  cases x with
  | p d => cases d <;> simp
  | _ => simp
end
@[simp ↓] theorem wp_fnil {Q : List D × Store → Prop} {t : Tag Q} : Wp (evF G .nil env S) Q t ↔ Q ([], S) := wp_some
@[simp ↓] theorem wp_fcons {Q : List D × Store → Prop} {t : Tag Q} {e : E} {es : Es} : Wp (evF G (.cons e es) env S) Q t ↔ Wp (ev G e env S) fun r => Wp (fz r.1) fun d => Wp (evF G es env r.2) fun r' => Q (d :: r'.1, r'.2) := wp_b fun _ => wp_b fun _ => wp_b fun _ => wp_pure
@[simp ↓] theorem wp_lnil {Q : List W × Store → Prop} {t : Tag Q} : Wp (evL G .nil env S) Q t ↔ Q ([], S) := wp_some
@[simp ↓] theorem wp_lcons {Q : List W × Store → Prop} {t : Tag Q} {e : E} {es : Es} : Wp (evL G (.cons e es) env S) Q t ↔ Wp (ev G e env S) fun r => Wp (hand r.1) fun d => Wp (evL G es env r.2) fun r' => Q (d :: r'.1, r'.2) := wp_b fun _ => wp_b fun _ => wp_b fun _ => wp_pure
@[simp ↓] theorem wp_nnil {Q : List W × Store → Prop} {t : Tag Q} : Wp (evN G .nil env S) Q t ↔ Q ([], S) := wp_some
@[simp ↓] theorem wp_ncons {Q : List W × Store → Prop} {t : Tag Q} {e : E} {es : Es} : Wp (evN G (.cons e es) env S) Q t ↔ Wp (ev G e env S) fun r => Wp (evN G es env r.2) fun r' => Q (r.1 :: r'.1, r'.2) := wp_b fun _ => wp_b fun _ => wp_pure
section
variable {Q : Src × Store → Prop} {t : Tag Q} {a b : E}
@[simp ↓] theorem wp_sq : Wp (evI G (.sq a) env S) Q t ↔ Wp (ev G a env S) fun r => Wp (srcOf r.1 r.2) fun s => Q (s, r.2) := wp_b fun _ => wp_b fun _ => wp_pure
@[simp ↓] theorem wp_rng : Wp (evI G (.rng a) env S) Q t ↔ Wp (ev G a env S) fun r => Wp (asInt r.1) fun b => smallR b = true ∧ Q (.items (rngL 0 b), r.2) := wp_b fun ⟨x, S1⟩ => by
  cases x with
  | p d =>
    cases d with
    | int b =>
      simp only [asInt, wp_some, wp_ite]
      split
      · rename_i h; simp only [wp_pure]; exact ⟨fun q => ⟨h, q⟩, fun q => q.2⟩
      · rename_i h; simp only [wp_none, false_iff]; exact fun q => h q.1
    | _ => simp
  | _ => simp
@[simp ↓] theorem wp_rng2 : Wp (evI G (.rng2 a b) env S) Q t ↔ Wp (ev G a env S) fun r => Wp (ev G b env r.2) fun r' => Wp (asInt r.1) fun i => Wp (asInt r'.1) fun j => (smallR i && smallR j) = true ∧ Q (.items (rngL i j), r'.2) := wp_b fun ⟨x, S1⟩ => wp_b fun ⟨y, S2⟩ => by
  cases x with
  | p d =>
    cases d with
    | int i =>
      cases y with
      | p e =>
        cases e with
        | int j =>
          simp only [asInt, wp_some, wp_ite]
          split
          · rename_i h; simp only [wp_pure]; exact ⟨fun q => ⟨h, q⟩, fun q => q.2⟩
          · rename_i h; simp only [wp_none, false_iff]; exact fun q => h q.1
        | _ => simp
      | _ => simp
    | _ => simp
  | _ => simp
@[simp ↓] theorem wp_rng3 {c : E} : Wp (evI G (.rng3 a b c) env S) Q t ↔ Wp (ev G a env S) fun r => Wp (ev G b env r.2) fun r' => Wp (ev G c env r'.2) fun r3 => Wp (asInt r.1) fun i => Wp (asInt r'.1) fun j => Wp (asInt r3.1) fun k => (((smallQ i = true ∧ smallQ j = true) ∧ k ≠ 0) ∧ k.natAbs < 1024) ∧ Q (.items (rng3L i j k), r3.2) := wp_b fun ⟨x, S1⟩ => wp_b fun ⟨y, S2⟩ => wp_b fun ⟨z, S3⟩ => by
  cases x with
  | p d =>
    cases d with
    | int i =>
      cases y with
      | p e =>
        cases e with
        | int j =>
          cases z with
          | p f =>
            cases f with
            | int k =>
              simp only [asInt, wp_some, wp_ite, Bool.and_eq_true, decide_eq_true_eq]
              split
              · rename_i h; simp only [wp_pure]; exact ⟨fun q => ⟨h, q⟩, fun q => q.2⟩
              · rename_i h; simp only [wp_none, false_iff]; exact fun q => h q.1
            | _ => simp
          | _ => simp
        | _ => simp
      | _ => simp
    | _ => simp
  | _ => simp
@[simp ↓] theorem wp_enu : Wp (evI G (.enu a) env S) Q t ↔ Wp (ev G a env S) fun r => Wp (srcE r.1 r.2) fun s => Q (s, r.2) := wp_b fun _ => wp_b fun _ => wp_pure
@[simp ↓] theorem wp_zip : Wp (evI G (.zip a b) env S) Q t ↔ Wp (ev G a env S) fun r => Wp (ev G b env r.2) fun r' => Wp (asTup r.1) fun ds => Wp (asTup r'.1) fun es => Q (.items (zipL ds es), r'.2) := wp_b fun ⟨x, S1⟩ => wp_b fun ⟨y, S2⟩ => by
  cases x with
  | p d =>
    cases d with
    | tuple ds =>
      cases y with
      | p e => cases e <;> simp
      | _ => simp
    | _ => simp
  | _ => simp
end
/-! ### statements -/
section
variable {Q : Out → Prop} {t : Tag Q} {e a b : E}
@[simp ↓] theorem wp_asg {i : Nat} : Wp (ex G (.asg (.nm i) e) keep env S) Q t ↔ Wp (ev G e env S) fun r => Q (.nx (setW keep i r.1 env r.2).1 (setW keep i r.1 env r.2).2) := wp_b fun _ => wp_pure
@[simp ↓] theorem wp_asgT {ts : Ts} : Wp (ex G (.asg (.tp ts) e) keep env S) Q t ↔ Wp (ev G e env S) fun r => Wp (fz r.1) fun d => Wp (bindT (.tp ts) d env) fun env1 => Q (.nx env1 r.2) := wp_b fun _ => wp_b fun _ => wp_b fun _ => wp_pure
@[simp ↓] theorem wp_par {is : List Nat} {es : Es} : Wp (ex G (.par is es) keep env S) Q t ↔ Wp (evN G es env S) fun r => Wp (setWs is r.1 env r.2) fun z => Q (.nx z.1 z.2) := wp_b fun _ => wp_b fun _ => wp_pure
@[simp ↓] theorem wp_aug {i : Nat} {o : Bop} : Wp (ex G (.aug i o e) keep env S) Q t ↔ Wp (getV env i) fun w => Wp (asP w) fun d => Wp (ev G e env S) fun r => Wp (rd r.1 r.2) fun d' => Wp (iop o d d') fun u => Wp (asP u) fun x => Q (.nx (env.set i (some (.p x))) r.2) := by
  rw [getV_eq]
  show Wp (match env[i]? with
    | some (some (.p d)) => _
    | _ => none) Q _ ↔ _
  cases env[i]? with
  | none => simp
  | some o =>
    cases o with
    | none => simp
    | some w =>
      cases w with
      | p d =>
        simp only [wp_some, asP]
        refine wp_b fun _ => wp_b fun _ => wp_b fun u => ?_
        cases u <;> simp
      | _ => simp
@[simp ↓] theorem wp_setix : Wp (ex G (.setix a b e) keep env S) Q t ↔ Wp (ev G e env S) fun r => Wp (fz r.1) fun d => Wp (ev G a env r.2) fun x => Wp (ev G b env x.2) fun y => Wp (asLoc x.1) fun n => Wp (asInt y.1) fun k => Wp (asL y.2 n) fun ds => Wp (ixN ds.length k) fun j => Q (.nx env (y.2.set n (.pl (ds.set j d)))) := wp_b fun _ => wp_b fun _ => wp_b fun ⟨x, S1⟩ => wp_b fun ⟨y, S2⟩ => by
  cases x with
  | loc n =>
    cases y with
    | p d =>
      cases d with
      | int k =>
        simp only [asLoc, asInt, wp_some, asL]
        cases S2[n]? with
        | none => simp
        | some o =>
          cases o with
          | no => simp
          | pl ds =>
            simp only [wp_some]
            exact wp_b fun _ => wp_pure
      | _ => simp
    | _ => simp
  | _ => simp
theorem stI_wp {n k : Nat} {T : Store} {ds : List D} {d : D} {Q : Store → Prop} {t : Tag Q} (h : T[n]? = some (.pl ds)) (hk : k < ds.length) : Wp (stI (.loc n) (.p (.int (k : Int))) T d) Q t ↔ Q (T.set n (.pl (ds.set k d))) := by
  unfold stI
  simp only [h]
  unfold ixN
  rw [if_pos (by omega), if_pos (by omega)]
  simp
@[simp ↓] theorem wp_set2 {i j e' : E} : Wp (ex G (.set2 a i b j e') keep env S) Q t ↔ Wp (ev G e' env S) fun r => Wp (fz r.1) fun d => Wp (as2 d) fun p => Wp (ev G a env r.2) fun x => Wp (ev G i env x.2) fun y => Wp (stI x.1 y.1 y.2 p.1) fun T => Wp (ev G b env T) fun x' => Wp (ev G j env x'.2) fun y' => Wp (stI x'.1 y'.1 y'.2 p.2) fun T' => Q (.nx env T') :=
  wp_b fun _ => wp_b fun _ => wp_b fun _ => wp_b fun _ => wp_b fun _ => wp_b fun _ => wp_b fun _ => wp_b fun _ => wp_b fun _ => wp_pure
@[simp ↓] theorem wp_augix {o : Bop} : Wp (ex G (.augix a b o e) keep env S) Q t ↔ Wp (ev G a env S) fun x => Wp (ev G b env x.2) fun y => Wp (asLoc x.1) fun n => Wp (asInt y.1) fun k => Wp (asL y.2 n) fun ds => Wp (atI ds k) fun old => Wp (ev G e env y.2) fun r => Wp (rd r.1 r.2) fun d' => Wp (iop o old d') fun u => Wp (asP u) fun z => Wp (asL r.2 n) fun ds' => Wp (ixN ds'.length k) fun j => Q (.nx env (r.2.set n (.pl (ds'.set j z)))) := wp_b fun ⟨x, S1⟩ => wp_b fun ⟨y, S2⟩ => by
  cases x with
  | loc n =>
    cases y with
    | p d =>
      cases d with
      | int k =>
        simp only [asLoc, asInt, wp_some, asL]
        cases S2[n]? with
        | none => simp
        | some ob =>
          cases ob with
          | no => simp
          | pl ds =>
            simp only [wp_some]
            refine wp_b fun old => wp_b fun ⟨w, S3⟩ => wp_b fun d' => wp_b fun u => ?_
            cases u with
            | p z =>
              simp only [asP, wp_some]
              cases S3[n]? with
              | none => simp
              | some ob =>
                cases ob with
                | no => simp
                | pl ds' =>
                  simp only [wp_some]
                  exact wp_b fun _ => wp_pure
            | _ => simp
      | _ => simp
    | _ => simp
  | _ => simp
@[simp ↓] theorem wp_ret : Wp (ex G (.ret e) keep env S) Q t ↔ Wp (ev G e env S) fun r => Q (.ret r.1 r.2) := wp_b fun _ => wp_pure
@[simp ↓] theorem wp_retn : Wp (ex G .retn keep env S) Q t ↔ Q (.ret (.p .none) S) := wp_some
@[simp ↓] theorem wp_if {c : C} {x y : Ss} : Wp (ex G (.ite c x y) keep env S) Q t ↔ Wp (evT G c env S) fun r => if r.1 = true then Wp (exs G x keep env r.2) Q else Wp (exs G y keep env r.2) Q := wp_b fun ⟨z, S1⟩ => wp_ite
@[simp ↓] theorem wp_for {tg : T} {it : I} {x : Ss} : Wp (ex G (.for_ tg it x) keep env S) Q t ↔ Wp (evI G it env S) fun r => Wp (forGo r.1 tg (exs G x (r.1.keep keep)) (r.1.len r.2 + 1) 0 env r.2) Q := wp_b fun _ => Iff.rfl
@[simp ↓] theorem wp_whl {c : C} {x : Ss} : Wp (ex G (.whl c x) keep env S) Q t ↔ Wp (whlGo (evT G c) (exs G x keep) WF env S) Q := Iff.rfl
@[simp ↓] theorem wp_brk : Wp (ex G .brk keep env S) Q t ↔ Q (.brk env S) := wp_some
@[simp ↓] theorem wp_cnt : Wp (ex G .cnt keep env S) Q t ↔ Q (.cnt env S) := wp_some
@[simp ↓] theorem wp_pass : Wp (ex G .pass keep env S) Q t ↔ Q (.nx env S) := wp_some
@[simp ↓] theorem wp_snv : Wp (ex G .nv keep env S) Q t ↔ False := wp_none
@[simp ↓] theorem wp_expr : Wp (ex G (.expr e) keep env S) Q t ↔ Wp (ev G e env S) fun r => Q (.nx env r.2) := wp_b fun _ => wp_pure
@[simp ↓] theorem wp_kill {is : List Nat} : Wp (ex G (.kill is) keep env S) Q t ↔ Q (.nx (wipeE env is) (sweep keep (wipeE env is) S)) := wp_some
@[simp ↓] theorem wp_nil : Wp (exs G .nil keep env S) Q t ↔ Q (.nx env S) := wp_some
@[simp ↓] theorem wp_cons {s : VI.S} {ss : Ss} : Wp (exs G (.cons s ss) keep env S) Q t ↔ Wp (ex G s keep env S) (fun o => SeqR (fun e s => Wp (exs G ss keep e s) Q) Q o) := wp_b fun o => by
  cases o with
  | nx e s => exact Iff.rfl
  | cnt e s => exact wp_some
  | brk e s => exact wp_some
  | ret e s => exact wp_some
end
end
@[simp] theorem atI_nat {α : Type} (xs : List α) (i : Nat) : atI xs (i : Int) = xs[i]? := by
  unfold atI ixN
  rw [if_pos (by omega)]
  by_cases h : (i : Int) < xs.length
  · rw [if_pos h]; simp
  · rw [if_neg h, List.getElem?_eq_none (by omega)]; rfl
theorem atI_pos {α : Type} (xs : List α) (i : Int) (h : 0 ≤ i) : atI xs i = xs[i.toNat]? := by
  obtain ⟨n, rfl⟩ := Int.eq_ofNat_of_zero_le h
  simp
@[simp] theorem atI_lit {α : Type} (xs : List α) (n : Nat) : atI xs (no_index (OfNat.ofNat n : Int)) = xs[n]? := atI_nat xs n
@[simp] theorem atI_zero {α : Type} (xs : List α) : atI xs 0 = xs[0]? := atI_nat xs 0
@[simp] theorem atI_one {α : Type} (xs : List α) : atI xs 1 = xs[1]? := atI_nat xs 1
theorem atI_neg {α : Type} (xs : List α) (j : Nat) (h : 0 < j) (hl : j ≤ xs.length) : atI xs (-(j : Int)) = xs[xs.length - j]? := by
  unfold atI ixN
  rw [if_neg (by omega), if_pos (by omega)]
  simp only [Option.bind_some]
  congr 1
  omega
@[simp] theorem atI_last {α : Type} (xs : List α) : atI xs (-1) = xs.getLast? := by
  by_cases h : xs = []
  · subst h; rfl
  · rw [show (-1 : Int) = -((1 : Nat) : Int) from rfl, atI_neg xs 1 (by decide) (by have := List.length_pos_iff.mpr h; omega), List.getLast?_eq_getElem?]
theorem ixN_nat (n i : Nat) (h : i < n) : ixN n (i : Int) = some i := by
  unfold ixN
  rw [if_pos (by omega), if_pos (by omega)]
  simp
/-- a comprehension that changes nothing -/
theorem compGo_pure {f : D → Store → Option (Option D × Store)} {S : Store} {ds : List D} (g : D → Option D) (hf : ∀ d ∈ ds, f d S = some (g d, S)) (hl : ds.length ≤ L) : ∀ (n j : Nat) (acc : List D), ds.length < n + j → j ≤ ds.length → acc.length ≤ j → compGo (.items ds) f n j acc S = some (acc ++ (ds.drop j).filterMap g, S)
  | 0, j, acc, h, hj, ha => by omega
  | n + 1, j, acc, h, hj, ha => by
    unfold compGo
    simp only [Src.at, Option.bind_eq_bind, Option.bind_some]
    cases hd : ds[j]? with
    | none =>
      have : ds.length ≤ j := by simpa using hd
      simp [List.drop_eq_nil_of_le this]
    | some d =>
      obtain ⟨hjl, e⟩ := List.getElem?_eq_some_iff.mp hd
      have hm : d ∈ ds := List.mem_of_getElem? hd
      have hdr : ds.drop j = d :: ds.drop (j + 1) := by rw [← e]; exact List.drop_eq_getElem_cons hjl
      simp only [hf d hm, Option.bind_some, hdr, List.filterMap_cons]
      cases g d with
      | none =>
        simp only
        exact compGo_pure g hf hl n (j + 1) acc (by omega) (by omega) (by omega)
      | some x =>
        simp only
        rw [if_pos (by omega), compGo_pure g hf hl n (j + 1) (acc ++ [x]) (by omega) (by omega) (by simp; omega)]
        simp
theorem comp_pure {f : D → Store → Option (Option D × Store)} {S : Store} {ds : List D} (g : D → Option D) (hf : ∀ d ∈ ds, f d S = some (g d, S)) (hl : ds.length ≤ L) : compGo (.items ds) f (ds.length + 1) 0 [] S = some (ds.filterMap g, S) := by
  rw [compGo_pure g hf hl _ 0 [] (by omega) (by omega) (by simp)]; simp
theorem comp_map {f : D → Store → Option (Option D × Store)} {S : Store} {ds : List D} (g : D → D) (hf : ∀ d ∈ ds, f d S = some (some (g d), S)) (hl : ds.length ≤ L) : compGo (.items ds) f (ds.length + 1) 0 [] S = some (ds.map g, S) := by
  rw [comp_pure (fun d => some (g d)) hf hl]
  simp
/-- .. whose terms change what they find -/
theorem compGo_wp {f : D → Store → Option (Option D × Store)} {ds : List D} {Q : List D × Store → Prop} (Inv : Nat → List D → Store → Prop) (hl : ds.length ≤ L)
    (step : ∀ j d acc S, ds[j]? = some d → Inv j acc S → Wp (f d S) fun r => match r.1 with
      | none => Inv (j + 1) acc r.2
      | some x => Inv (j + 1) (acc ++ [x]) r.2) (fin : ∀ acc S, Inv ds.length acc S → Q (acc, S)) : ∀ (n j : Nat) (acc : List D) (S : Store), ds.length < n + j → j ≤ ds.length → acc.length ≤ j → Inv j acc S → Wp (compGo (.items ds) f n j acc S) Q
  | 0, j, acc, S, h, hj, ha, hI => by omega
  | n + 1, j, acc, S, h, hj, ha, hI => by
    unfold compGo
    simp only [Src.at, Option.bind_eq_bind, Option.bind_some]
    cases hd : ds[j]? with
    | none =>
      have : ds.length ≤ j := by simpa using hd
      have e : j = ds.length := by omega
      subst e
      simpa using fin acc S hI
    | some d =>
      obtain ⟨hjl, e⟩ := List.getElem?_eq_some_iff.mp hd
      simp only [wp_bind']
      refine (step j d acc S hd hI).mono fun ⟨r, S1⟩ hr => ?_
      cases r with
      | none => exact compGo_wp Inv hl step fin n (j + 1) acc S1 (by omega) (by omega) (by omega) hr
      | some x =>
        simp only
        rw [if_pos (by omega)]
        exact compGo_wp Inv hl step fin n (j + 1) _ S1 (by omega) (by omega) (by simp; omega) hr
theorem comp_wp {f : D → Store → Option (Option D × Store)} {ds : List D} {S : Store} {Q : List D × Store → Prop} (Inv : Nat → List D → Store → Prop) (hl : ds.length ≤ L) (h0 : Inv 0 [] S)
    (step : ∀ j d acc S, ds[j]? = some d → Inv j acc S → Wp (f d S) fun r => match r.1 with
      | none => Inv (j + 1) acc r.2
      | some x => Inv (j + 1) (acc ++ [x]) r.2) (fin : ∀ acc S, Inv ds.length acc S → Q (acc, S)) : Wp (compGo (.items ds) f (ds.length + 1) 0 [] S) Q :=
  compGo_wp Inv hl step fin _ 0 [] S (by omega) (by omega) (by simp) h0
@[simp] theorem L_eq : L = 16777216 := rfl
theorem cut_pre {α : Type} (xs : List α) {i : Int} (h : 0 ≤ i) : cut xs none (some i) = xs.take i.toNat := by
  unfold cut sIx
  dsimp only
  rw [if_neg (by omega)]
  simp only [List.drop_zero, Nat.sub_zero]
  by_cases hl : i.toNat ≤ xs.length
  · rw [Nat.min_eq_left hl]
  · rw [Nat.min_eq_right (by omega), List.take_length, List.take_of_length_le (by omega)]
theorem cut_suf {α : Type} (xs : List α) {i : Int} (h : 0 ≤ i) : cut xs (some i) none = xs.drop i.toNat := by
  unfold cut sIx
  dsimp only
  rw [if_neg (by omega)]
  by_cases hl : i.toNat ≤ xs.length
  · rw [Nat.min_eq_left hl]
    exact List.take_of_length_le (by rw [List.length_drop]; omega)
  · rw [Nat.min_eq_right (by omega)]
    simp
    omega
theorem cut_mid {α : Type} (xs : List α) {i j : Int} (h : 0 ≤ i) (h' : 0 ≤ j) : cut xs (some i) (some j) = (xs.drop i.toNat).take (j.toNat - i.toNat) := by
  unfold cut sIx
  dsimp only
  rw [if_neg (by omega), if_neg (by omega)]
  by_cases hl : i.toNat ≤ xs.length
  · rw [Nat.min_eq_left hl]
    by_cases hj : j.toNat ≤ xs.length
    · rw [Nat.min_eq_left hj]
    · rw [Nat.min_eq_right (by omega), List.take_of_length_le (by rw [List.length_drop]; omega), List.take_of_length_le (by rw [List.length_drop]; omega)]
  · have e : min i.toNat xs.length = xs.length := Nat.min_eq_right (by omega)
    rw [e, List.drop_eq_nil_of_le (Nat.le_refl _), List.drop_eq_nil_of_le (as := xs) (i := i.toNat) (by omega)]
    simp
/-! ### equality, kinds -/
@[simp] theorem eqv_int {a b : Int} : PyData.eqv (.int a) (.int b) = (a == b) := by simp [PyData.eqv]
@[simp] theorem eqv_strs {a b : Str} : PyData.eqv (.str a) (.str b) = (a == b) := by simp [PyData.eqv]
@[simp] theorem eqv_bool {a b : Bool} : PyData.eqv (.bool a) (.bool b) = (a == b) := by simp [PyData.eqv]
@[simp] theorem eqv_non : PyData.eqv .none .none = true := by simp [PyData.eqv]
@[simp] theorem eqv_lst {a b : List D} : PyData.eqv (.list a) (.list b) = PyData.eqvAll a b := by simp [PyData.eqv]
@[simp] theorem eqv_tup {a b : List D} : PyData.eqv (.tuple a) (.tuple b) = PyData.eqvAll a b := by simp [PyData.eqv]
@[simp] theorem eqvAll_nil : PyData.eqvAll [] [] = true := by simp [PyData.eqvAll]
@[simp] theorem eqvAll_cons {a b : D} {as bs : List D} : PyData.eqvAll (a :: as) (b :: bs) = (PyData.eqv a b && PyData.eqvAll as bs) := by simp [PyData.eqvAll]
@[simp] theorem eqvAll_nc {b : D} {bs : List D} : PyData.eqvAll [] (b :: bs) = false := by simp [PyData.eqvAll]
@[simp] theorem eqvAll_cn {b : D} {bs : List D} : PyData.eqvAll (b :: bs) [] = false := by simp [PyData.eqvAll]
@[simp] theorem cop_lt {a b : Int} : cop .lt (.int a) (.int b) = some (decide (a < b)) := by simp [cop, relT, relD]
@[simp] theorem cop_le {a b : Int} : cop .le (.int a) (.int b) = some (decide (a ≤ b)) := by simp [cop, relT, relD]
@[simp] theorem cop_gt {a b : Int} : cop .gt (.int a) (.int b) = some (decide (b < a)) := by simp [cop, relT, relD]
@[simp] theorem cop_ge {a b : Int} : cop .ge (.int a) (.int b) = some (decide (b ≤ a)) := by simp [cop, relT, relD]
@[simp] theorem cop_eq {a b : D} : cop .eq a b = if eqok a b = true then some (PyData.eqv a b) else none := rfl
@[simp] theorem cop_ne {a b : D} : cop .ne a b = if eqok a b = true then some (!PyData.eqv a b) else none := rfl
@[simp] theorem cop_is {a b : D} : cop .is a b = isD a b := rfl
@[simp] theorem cop_isn {a b : D} : cop .isn a b = (isD a b).map (!·) := rfl
@[simp] theorem cop_in {a b : D} : cop .inn a b = inD a b := rfl
@[simp] theorem cop_nin {a b : D} : cop .nin a b = (inD a b).map (!·) := rfl
@[simp] def tyInt : D → Bool
  | .int _ => true
  | .bool _ => true
  | _ => false
@[simp] def tyBool : D → Bool
  | .bool _ => true
  | _ => false
@[simp] def tyStr : D → Bool
  | .str _ => true
  | _ => false
@[simp] def tyTup : D → Bool
  | .tuple _ => true
  | _ => false
@[simp] def tyLst : D → Bool
  | .list _ => true
  | .dict _ => true
  | _ => false
@[simp ↓ high] theorem isi_int {d : D} : isiD .int d = tyInt d := by cases d <;> rfl
@[simp ↓ high] theorem isi_bool {d : D} : isiD .bool d = tyBool d := by cases d <;> rfl
@[simp ↓ high] theorem isi_str {d : D} : isiD .str d = tyStr d := by cases d <;> rfl
@[simp ↓ high] theorem isi_tup {d : D} : isiD .tuple d = tyTup d := by cases d <;> rfl
@[simp ↓ high] theorem isi_lst {d : D} : isiD .list d = tyLst d := by cases d <;> rfl
/-! ### loops -/
/-- a turn's end -/
def EndR (I : Env → Store → Prop) (Q : Out → Prop) (o : Out) (t : Tag2 I Q := ⟨⟩) : Prop := match o with
  | .nx e s => I e s
  | .cnt e s => I e s
  | .brk e s => Q (.nx e s)
  | .ret w s => Q (.ret w s)
section
variable {I : Env → Store → Prop} {Q : Out → Prop} {e : Env} {s : Store} {w : W} {t : Tag2 I Q}
@[simp] theorem end_nx : EndR I Q (.nx e s) t = I e s := rfl
@[simp] theorem end_cnt : EndR I Q (.cnt e s) t = I e s := rfl
@[simp] theorem end_brk : EndR I Q (.brk e s) t = Q (.nx e s) := rfl
@[simp] theorem end_ret : EndR I Q (.ret w s) t = Q (.ret w s) := rfl
end
theorem forGo_wp {t : T} {body : Env → Store → Option Out} {ds : List D} {Q : Out → Prop} (Inv : Nat → Env → Store → Prop)
    (step : ∀ j d env S, ds[j]? = some d → Inv j env S → Wp (bindT t d env) fun env1 => Wp (body env1 S) (fun o => EndR (Inv (j + 1)) Q o)) (fin : ∀ env S, Inv ds.length env S → Q (.nx env S)) :
    ∀ (n j : Nat) (env : Env) (S : Store), ds.length < n + j → j ≤ ds.length → Inv j env S → Wp (forGo (.items ds) t body n j env S) Q
  | 0, j, env, S, h, hj, hI => by omega
  | n + 1, j, env, S, h, hj, hI => by
    unfold forGo
    simp only [Src.at, Option.bind_eq_bind, Option.bind_some]
    cases hd : ds[j]? with
    | none =>
      have : ds.length ≤ j := by simpa using hd
      have e : j = ds.length := by omega
      subst e
      simpa using fin env S hI
    | some d =>
      obtain ⟨hjl, e⟩ := List.getElem?_eq_some_iff.mp hd
      simp only [wp_bind']
      refine (step j d env S hd hI).mono fun env1 h1 => wp_bind'.mpr (h1.mono fun o ho => ?_)
      cases o with
      | nx e s => exact forGo_wp Inv step fin n (j + 1) e s (by omega) (by omega) ho
      | cnt e s => exact forGo_wp Inv step fin n (j + 1) e s (by omega) (by omega) ho
      | brk e s => exact wp_some.mpr ho
      | ret w s => exact wp_some.mpr ho
theorem for_wp {t : T} {body : Env → Store → Option Out} {ds : List D} {Q : Out → Prop} {env : Env} {S : Store} (Inv : Nat → Env → Store → Prop) (h0 : Inv 0 env S)
    (step : ∀ j d env S, ds[j]? = some d → Inv j env S → Wp (bindT t d env) fun env1 => Wp (body env1 S) (fun o => EndR (Inv (j + 1)) Q o)) (fin : ∀ env S, Inv ds.length env S → Q (.nx env S)) :
    Wp (forGo (.items ds) t body (ds.length + 1) 0 env S) Q := forGo_wp Inv step fin _ 0 env S (by omega) (by omega) h0
theorem rng_len (a b : Int) : (rngL a b).length = (b - a).toNat := by simp [rngL]
theorem rng_get {a b : Int} {j : Nat} {d : D} (h : (rngL a b)[j]? = some d) : d = .int (a + j) ∧ j < (b - a).toNat := by
  have hl : j < (b - a).toNat := by rw [← rng_len]; exact (List.getElem?_eq_some_iff.mp h).1
  simp only [rngL, List.getElem?_map, List.getElem?_range hl, Option.map_some, Option.some.injEq] at h
  exact ⟨h.symm, hl⟩
theorem rng_mem {a b : Int} {d : D} (h : d ∈ rngL a b) : ∃ j : Nat, j < (b - a).toNat ∧ d = .int (a + j) := by
  obtain ⟨j, hj⟩ := List.getElem?_of_mem h
  obtain ⟨e, hl⟩ := rng_get hj
  exact ⟨j, hl, e⟩
/-- for i in range(a, b) -/
theorem forR_wp {i : Nat} {body : Env → Store → Option Out} {a b : Int} {n : Nat} {Q : Out → Prop} {env : Env} {S : Store} (Inv : Nat → Env → Store → Prop) (hn : (b - a).toNat = n) (h0 : Inv 0 env S)
    (step : ∀ j env S, j < n → Inv j env S → Wp (body (env.set i (some (.p (.int (a + j))))) S) (fun o => EndR (Inv (j + 1)) Q o)) (fin : ∀ env S, Inv n env S → Q (.nx env S)) :
    Wp (forGo (.items (rngL a b)) (.nm i) body ((rngL a b).length + 1) 0 env S) Q :=
  for_wp Inv h0 (fun j d env S hd hI => by
    obtain ⟨rfl, hj⟩ := rng_get hd
    simp only [bindT, wp_some]
    exact step j env S (by omega) hI) (fun env S hI => fin env S (by rw [rng_len, hn] at hI; exact hI))
/-- a list of ours that is walked while it stands -/
theorem forL_wp {t : T} {body : Env → Store → Option Out} {m : Nat} {ds : List D} {Q : Out → Prop} (Inv : Nat → Env → Store → Prop) (live : ∀ j env S, Inv j env S → S[m]? = some (.pl ds))
    (step : ∀ j d env S, ds[j]? = some d → Inv j env S → Wp (bindT t d env) fun env1 => Wp (body env1 S) (fun o => EndR (Inv (j + 1)) Q o)) (fin : ∀ env S, Inv ds.length env S → Q (.nx env S)) :
    ∀ (n j : Nat) (env : Env) (S : Store), ds.length < n + j → j ≤ ds.length → Inv j env S → Wp (forGo (.live m) t body n j env S) Q
  | 0, j, env, S, h, hj, hI => by omega
  | n + 1, j, env, S, h, hj, hI => by
    unfold forGo
    simp only [Src.at, live j env S hI, Option.bind_eq_bind, Option.bind_some]
    cases hd : ds[j]? with
    | none =>
      have : ds.length ≤ j := by simpa using hd
      have e : j = ds.length := by omega
      subst e
      simpa using fin env S hI
    | some d =>
      obtain ⟨hjl, e⟩ := List.getElem?_eq_some_iff.mp hd
      simp only [wp_bind']
      refine (step j d env S hd hI).mono fun env1 h1 => wp_bind'.mpr (h1.mono fun o ho => ?_)
      cases o with
      | nx e s => exact forL_wp Inv live step fin n (j + 1) e s (by omega) (by omega) ho
      | cnt e s => exact forL_wp Inv live step fin n (j + 1) e s (by omega) (by omega) ho
      | brk e s => exact wp_some.mpr ho
      | ret w s => exact wp_some.mpr ho
theorem whl_wp {test : Env → Store → Option (Bool × Store)} {body : Env → Store → Option Out} {Q : Out → Prop} (Inv : Nat → Env → Store → Prop)
    (step : ∀ m env S, Inv m env S → Wp (test env S) fun r => if r.1 = true then Wp (body env r.2) (fun o => EndR (fun e s => ∃ m', m' < m ∧ Inv m' e s) Q o) else Q (.nx env r.2)) :
    ∀ (n m : Nat) (env : Env) (S : Store), m < n → Inv m env S → Wp (whlGo test body n env S) Q
  | 0, m, env, S, h, hI => by omega
  | n + 1, m, env, S, h, hI => by
    unfold whlGo
    simp only [Option.bind_eq_bind, wp_bind']
    refine (step m env S hI).mono fun ⟨b, S1⟩ hb => ?_
    cases b with
    | false => simpa using hb
    | true =>
      simp only [if_true, wp_bind'] at hb ⊢
      refine hb.mono fun o ho => ?_
      cases o with
      | nx e s => obtain ⟨m', h1, h2⟩ := ho; exact whl_wp Inv step n m' e s (by omega) h2
      | cnt e s => obtain ⟨m', h1, h2⟩ := ho; exact whl_wp Inv step n m' e s (by omega) h2
      | brk e s => exact wp_some.mpr ho
      | ret w s => exact wp_some.mpr ho
/-! ### defs -/
/-- a def's end, at n objects handed in -/
@[simp] def RetR (n : Nat) (Q : W → Store → Prop) : Out → Prop
  | .nx _ S => Q (.p .none) (S.take n)
  | .ret w S => match w with
    | .loc m => if m < n then Q (.loc m) (S.take n) else match S[m]? with
      | some (.pl ds) => Q (.nw (.pl ds)) (S.take n)
      | _ => False
    | .p d => Q (.p d) (S.take n)
    | .nw (.pl ds) => Q (.nw (.pl ds)) (S.take n)
    | .nw .no => False
  | _ => False
theorem fn_wp {G : Glob} {fn : Fn} {args : List W} {Sc : Store} {Q : W × Store → Prop} (h : Wp (exs G fn.body (List.range Sc.length) (args.map some ++ List.replicate (fn.nv - fn.np) none) Sc) (RetR Sc.length fun w S => Q (w, S))) : Wp (fnRun G fn args Sc) Q := by
  unfold fnRun
  simp only [Option.bind_eq_bind, wp_bind']
  refine h.mono fun o ho => ?_
  cases o with
  | nx e s => exact wp_some.mpr ho
  | brk e s => exact ho.elim
  | cnt e s => exact ho.elim
  | ret w S =>
    cases w with
    | p d => exact wp_some.mpr ho
    | loc m =>
      simp only [RetR] at ho
      by_cases hm : m < Sc.length
      · simp only [if_pos hm] at ho ⊢
        exact wp_some.mpr ho
      · simp only [if_neg hm] at ho ⊢
        cases hS : S[m]? with
        | none => rw [hS] at ho; exact ho.elim
        | some o =>
          rw [hS] at ho
          cases o with
          | no => exact ho.elim
          | pl ds => exact wp_some.mpr ho
    | nw o =>
      cases o with
      | no => exact ho.elim
      | pl ds => exact wp_some.mpr ho
/-- values that nobody lends -/
def allP : List W → Bool
  | [] => true
  | .p _ :: r => allP r
  | _ => false
theorem locs_p : ∀ {ws : List W} {l : List Nat}, allP ws = true → locsOf ws l = l
  | [], l, _ => rfl
  | .p d :: r, l, h => locs_p (ws := r) h
  | .loc n :: r, l, h => by cases h
  | .nw n :: r, l, h => by cases h
theorem hand_p : ∀ {ws : List W} {l : List Nat}, allP ws = true → handIn l ws = some ws
  | [], l, _ => rfl
  | .p d :: r, l, h => by simp [hand_p (ws := r) (l := l) h]
  | .loc n :: r, l, h => by cases h
  | .nw n :: r, l, h => by cases h
/-- a call that is handed data alone -/
theorem call_p {np : Nat} {sem : List W → Store → Option (W × Store)} {ws : List W} {S : Store} {Q : W × Store → Prop} (hp : allP ws = true) (hn : ws.length = np) (h : Wp (sem ws []) fun r => (∀ n, r.1 ≠ .loc n) ∧ Q (r.1, S)) : Wp (callW np sem ws S) Q := by
  unfold callW
  rw [locs_p hp]
  simp only [hand_p hp, pick, Option.bind_eq_bind, Option.bind_some, if_pos hn, wp_bind']
  refine h.mono fun ⟨w, S1⟩ ⟨h1, h2⟩ => ?_
  cases w with
  | p d => simpa using h2
  | loc n => exact absurd rfl (h1 n)
  | nw o => simpa using h2
/-- a call that is lent one object, its first value -/
theorem call_1 {np n : Nat} {o : Obj} {sem : List W → Store → Option (W × Store)} {ws : List W} {S : Store} {Q : W × Store → Prop} (hp : allP ws = true) (hn : ws.length + 1 = np) (hS : S[n]? = some o)
    (h : Wp (sem (.loc 0 :: ws) [o]) fun r => (∀ n, r.1 ≠ .loc n) ∧ ∃ o', r.2 = [o'] ∧ Q (r.1, S.set n o')) : Wp (callW np sem (.loc n :: ws) S) Q := by
  unfold callW
  have e1 : locsOf (.loc n :: ws) [] = [n] := by simp [locs_p hp]
  rw [e1]
  have e2 : handIn [n] (.loc n :: ws) = some (.loc 0 :: ws) := by simp [hand_p hp]
  have hn' : (W.loc 0 :: ws).length = np := by simpa using hn
  simp only [e2, pick, hS, Option.map_some, Option.bind_eq_bind, Option.bind_some, if_pos hn', wp_bind']
  refine h.mono fun ⟨w, S1⟩ ⟨h1, o', h2, h3⟩ => ?_
  simp only at h2
  subst h2
  cases w with
  | p d => simpa using h3
  | loc n => exact absurd rfl (h1 n)
  | nw o => simpa using h3
end VI
set_option Elab.async false
set_option linter.all false
set_option maxRecDepth 100000
/-! the words that many laws share -/
namespace VI
open PySem
def F_is_whole : Fn := ⟨1, 1, (.cons (.ret (.and (.isi (.v 0) .int) (.not (.isi (.v 0) .bool)))) .nil)⟩
def F_is_between (c_is_whole : Nat) : Fn := ⟨3, 3, (.cons (.ret (.and (.call c_is_whole (.cons (.v 0) .nil)) (.cmp2 .le .le (.v 1) (.v 0) (.v 2)))) .nil)⟩
def F_is_pair : Fn := ⟨1, 1, (.cons (.ret (.and (.isi (.v 0) .tuple) (.cmp .eq (.bi .len (.cons (.v 0) .nil)) (.k (.int 2))))) .nil)⟩
def F_is_ascending : Fn := ⟨1, 2, (.cons (.ret (.bi .all (.cons (.lc (.cmp .lt (.ix (.v 0) (.v 1)) (.ix (.v 0) (.bin .add (.v 1) (.k (.int 1))))) (.nm 1) (.rng (.bin .sub (.bi .len (.cons (.v 0) .nil)) (.k (.int 1)))) .no [1]) .nil))) .nil)⟩
def F_law_other (c_law_draw : Nat) : Fn := ⟨2, 4, (.cons (.ite (.e (.isi (.v 1) .tuple)) (.cons (.asg (.nm 2) (.bi .tuple (.cons (.lc (.ix (.v 1) (.bin .sub (.bin .sub (.bi .len (.cons (.v 1) .nil)) (.k (.int 1))) (.v 3))) (.nm 3) (.rng (.bi .len (.cons (.v 1) .nil))) .no [3]) .nil))) (.cons (.ret (.ix (.lst (.cons (.bi .list (.cons (.v 1) .nil)) (.cons (.bin .add (.v 1) (.sl (.v 1) .no (.so (.k (.int 1))))) (.cons (.sl (.v 1) (.so (.k (.int 1))) .no) (.cons (.k .none) (.cons (.tup .nil) (.cons (.v 2) .nil))))))) (.call c_law_draw (.cons (.v 0) (.cons (.k (.int 6)) .nil))))) .nil)) .nil) (.cons (.kill [2]) (.cons (.ite (.e (.isi (.v 1) .str)) (.cons (.ret (.ix (.lst (.cons (.k (.str "j0")) (.cons (.k (.str "j1")) (.cons (.k (.str "j2")) (.cons (.k (.str "s0")) (.cons (.k (.str "jobs")) (.cons (.k (.str "two")) (.cons (.k (.str "full")) (.cons (.k (.str "A")) (.cons (.k (.str "")) (.cons (.k (.str "x y")) (.cons (.k .none) (.cons (.k (.str "j9")) .nil))))))))))))) (.call c_law_draw (.cons (.v 0) (.cons (.k (.int 12)) .nil))))) .nil) .nil) (.cons (.ite (.e (.cmp .is (.v 1) (.k .none))) (.cons (.ret (.ix (.lst (.cons (.k (.int 0)) (.cons (.k (.str "")) (.cons (.tup .nil) .nil)))) (.call c_law_draw (.cons (.v 0) (.cons (.k (.int 3)) .nil))))) .nil) .nil) (.cons (.ret (.ix (.lst (.cons (.bin .add (.v 1) (.k (.int 1))) (.cons (.bin .sub (.v 1) (.k (.int 1))) (.cons (.bin .sub (.k (.int 0)) (.v 1)) (.cons (.k (.bool true)) (.cons (.k .none) (.cons (.k (.int 0)) (.cons (.k (.int 100)) .nil)))))))) (.call c_law_draw (.cons (.v 0) (.cons (.k (.int 7)) .nil))))) .nil)))))⟩
def F_law_changed (c_law_other c_law_draw c_law_changed : Nat) : Fn := ⟨2, 3, (.cons (.ite (.or (.not (.e (.isi (.v 1) .tuple))) (.or (.e (.cmp .eq (.v 1) (.tup .nil))) (.e (.cmp .eq (.call c_law_draw (.cons (.v 0) (.cons (.k (.int 9)) .nil))) (.k (.int 0)))))) (.cons (.ret (.call c_law_other (.cons (.v 0) (.cons (.v 1) .nil)))) .nil) .nil) (.cons (.asg (.nm 2) (.bin .mod (.call c_law_draw (.cons (.v 0) (.cons (.k (.int 900)) .nil))) (.bi .len (.cons (.v 1) .nil)))) (.cons (.ret (.bin .add (.bin .add (.sl (.v 1) .no (.so (.v 2))) (.tup (.cons (.call c_law_changed (.cons (.v 0) (.cons (.ix (.v 1) (.v 2)) .nil))) .nil))) (.sl (.v 1) (.so (.bin .add (.v 2) (.k (.int 1)))) .no))) .nil)))⟩
def F_law_cell : Fn := ⟨2, 2, (.cons (.ite (.e (.cmp .lt (.v 1) (.bi .len (.cons (.v 0) .nil)))) (.cons (.ret (.ix (.v 0) (.v 1))) .nil) .nil) (.cons (.ret (.k (.int 0))) .nil))⟩
def B_law_digits_1 : Ss := (.cons (.ite (.e (.cmp .gt (.v 5) (.k (.int 0)))) (.cons (.expr (.app (.v 3) (.bin .mod (.bi .int (.cons (.v 5) .nil)) (.k (.int 1000))))) (.cons (.asg (.nm 5) (.bin .fdiv (.v 5) (.k (.int 1000)))) .nil)) .nil) (.cons (.kill [6]) .nil))
def B_law_digits_2 : Ss := (.cons (.asg (.nm 7) (.bin .mod (.bi .int (.cons (.bin .add (.bin .add (.bin .mul (.v 7) (.k (.int 16807))) (.bin .mul (.k (.int 7)) (.v 6))) (.k (.int 1))) .nil)) (.k (.int 2147483647)))) (.cons (.expr (.app (.v 3) (.bin .mod (.bi .int (.cons (.bin .fdiv (.v 7) (.k (.int 997))) .nil)) (.k (.int 1000))))) (.cons (.kill [6]) .nil)))
def B_law_digits_3 (c_law_cell : Nat) : Ss := (.cons (.asg (.nm 5) (.call c_law_cell (.cons (.v 0) (.cons (.v 4) .nil)))) (.cons (.ite (.e (.cmp .lt (.v 5) (.k (.int 0)))) (.cons (.asg (.nm 5) (.bin .sub (.k (.int 1)) (.bin .mul (.k (.int 2)) (.v 5)))) .nil) .nil) (.cons (.ite (.e (.cmp .gt (.bi .len (.cons (.v 3) .nil)) (.k (.int 1500)))) (.cons (.kill [4, 5, 6, 7]) (.cons .brk .nil)) .nil) (.cons (.ite (.e (.cmp .ge (.v 5) (.bin .pow (.k (.int 10)) (.k (.int 18))))) (.cons (.kill [6]) (.cons (.for_ (.nm 6) (.rng (.k (.int 60))) B_law_digits_1) (.cons (.kill [5, 6]) .nil))) (.cons (.asg (.nm 7) (.bin .mod (.bi .int (.cons (.bin .add (.bin .add (.bin .mul (.v 5) (.k (.int 48271))) (.bin .mul (.v 4) (.k (.int 69621)))) (.k (.int 11))) .nil)) (.k (.int 2147483647)))) (.cons (.kill [6]) (.cons (.for_ (.nm 6) (.rng (.k (.int 12))) B_law_digits_2) (.cons (.kill [6, 7]) .nil))))) (.cons (.kill [5, 6, 7]) (.cons (.kill [4, 5, 6, 7]) .nil))))))
def F_law_digits (c_law_cell : Nat) : Fn := ⟨3, 8, (.cons (.asg (.nm 3) (.lst .nil)) (.cons (.for_ (.nm 4) (.rng2 (.v 1) (.v 2)) (B_law_digits_3 c_law_cell)) (.cons (.kill [4, 5, 6, 7]) (.cons (.ret (.v 3)) .nil))))⟩
def F_law_draw : Fn := ⟨2, 3, (.cons (.asg (.nm 2) (.ix (.v 0) (.k (.int 1)))) (.cons (.setix (.v 0) (.k (.int 1)) (.bin .add (.v 2) (.k (.int 1)))) (.cons (.ite (.e (.cmp .lt (.v 2) (.bi .len (.cons (.ix (.v 0) (.k (.int 0))) .nil)))) (.cons (.ret (.bin .mod (.bi .int (.cons (.ix (.ix (.v 0) (.k (.int 0))) (.v 2)) .nil)) (.v 1))) .nil) .nil) (.cons (.ret (.bin .mod (.bi .int (.cons (.bin .mul (.v 2) (.k (.int 7))) .nil)) (.v 1))) .nil))))⟩
def F_law_like (c_law_like : Nat) : Fn := ⟨2, 3, (.cons (.ite (.e (.isi (.v 1) .tuple)) (.cons (.ite (.or (.not (.e (.isi (.v 0) .tuple))) (.e (.cmp .ne (.bi .len (.cons (.v 0) .nil)) (.bi .len (.cons (.v 1) .nil))))) (.cons (.ret (.k (.bool false))) .nil) .nil) (.cons (.ret (.cmp .eq (.lc (.k (.int 1)) (.nm 2) (.rng (.bi .len (.cons (.v 1) .nil))) (.so (.not (.e (.call c_law_like (.cons (.ix (.v 0) (.v 2)) (.cons (.ix (.v 1) (.v 2)) .nil)))))) [2]) (.lst .nil))) .nil)) .nil) (.cons (.ite (.e (.cmp .is (.v 1) (.k .none))) (.cons (.ret (.cmp .is (.v 0) (.k .none))) .nil) .nil) (.cons (.ite (.e (.cmp .is (.v 1) (.k (.bool true)))) (.cons (.ret (.cmp .is (.v 0) (.k (.bool true)))) .nil) .nil) (.cons (.ite (.e (.cmp .is (.v 1) (.k (.bool false)))) (.cons (.ret (.cmp .is (.v 0) (.k (.bool false)))) .nil) .nil) (.cons (.ite (.e (.isi (.v 1) .str)) (.cons (.ret (.and (.isi (.v 0) .str) (.cmp .eq (.mt .join (.k (.str "")) (.lst (.cons (.v 0) .nil))) (.v 1)))) .nil) .nil) (.cons (.ret (.and (.isi (.v 0) .int) (.and (.not (.isi (.v 0) .bool)) (.cmp .eq (.v 0) (.v 1))))) .nil))))))⟩
def F_law_whole : Fn := ⟨3, 3, (.cons (.ite (.or (.not (.e (.isi (.v 0) .int))) (.e (.isi (.v 0) .bool))) (.cons (.ret (.k (.bool false))) .nil) .nil) (.cons (.ret (.and (.or (.cmp .is (.v 1) (.k .none)) (.cmp .le (.v 1) (.v 0))) (.or (.cmp .is (.v 2) (.k .none)) (.cmp .le (.v 0) (.v 2))))) .nil))⟩
def B_law_subsets_1 : Ss := (.cons (.asg (.nm 1) (.bin .add (.v 1) (.lc (.bin .add (.v 3) (.tup (.cons (.v 2) .nil))) (.nm 3) (.sq (.v 1)) .no [3]))) (.cons (.kill [2]) .nil))
def F_law_subsets : Fn := ⟨1, 4, (.cons (.asg (.nm 1) (.lst (.cons (.tup .nil) .nil))) (.cons (.for_ (.nm 2) (.sq (.v 0)) B_law_subsets_1) (.cons (.kill [2]) (.cons (.ret (.v 1)) .nil))))⟩
def F_law_ascending : Fn := ⟨1, 2, (.cons (.ret (.cmp .eq (.lc (.k (.int 1)) (.nm 1) (.rng2 (.k (.int 1)) (.bi .len (.cons (.v 0) .nil))) (.so (.e (.cmp .ge (.ix (.v 0) (.bin .sub (.v 1) (.k (.int 1)))) (.ix (.v 0) (.v 1))))) [1]) (.lst .nil))) .nil)⟩
def F_law_marks (c_law_whole c_law_ascending : Nat) : Fn := ⟨3, 4, (.cons (.ret (.and (.isi (.v 0) .tuple) (.and (.cmp .eq (.lc (.k (.int 1)) (.nm 3) (.sq (.v 0)) (.so (.not (.e (.call c_law_whole (.cons (.v 3) (.cons (.v 1) (.cons (.v 2) .nil))))))) [3]) (.lst .nil)) (.call c_law_ascending (.cons (.v 0) .nil))))) .nil)⟩
def B_law_flat_1 : Ss := (.cons (.asg (.nm 1) (.bin .add (.v 1) (.bi .list (.cons (.v 2) .nil)))) (.cons (.kill [2]) .nil))
def F_law_flat : Fn := ⟨1, 3, (.cons (.asg (.nm 1) (.lst .nil)) (.cons (.for_ (.nm 2) (.sq (.v 0)) B_law_flat_1) (.cons (.kill [2]) (.cons (.ret (.v 1)) .nil))))⟩
def B_law_shuffled_1 (c_law_draw : Nat) : Ss := (.cons (.expr (.app (.v 3) (.popi (.v 2) (.bin .mod (.call c_law_draw (.cons (.v 0) (.cons (.k (.int 900)) .nil))) (.bi .len (.cons (.v 2) .nil)))))) .nil)
def F_law_shuffled (c_law_draw : Nat) : Fn := ⟨2, 4, (.cons (.par [2, 3] (.cons (.bi .list (.cons (.v 1) .nil)) (.cons (.lst .nil) .nil))) (.cons (.whl (.e (.cmp .ne (.v 2) (.lst .nil))) (B_law_shuffled_1 c_law_draw)) (.cons (.ret (.bi .tuple (.cons (.v 3) .nil))) .nil)))⟩
def F_law_rows_of_two : Fn := ⟨1, 2, (.cons (.ret (.and (.isi (.v 0) .tuple) (.cmp .eq (.lc (.k (.int 1)) (.nm 1) (.sq (.v 0)) (.so (.or (.not (.e (.isi (.v 1) .tuple))) (.e (.cmp .ne (.bi .len (.cons (.v 1) .nil)) (.k (.int 2)))))) [1]) (.lst .nil)))) .nil)⟩
def F_law_numbers_row (c_law_draw : Nat) : Fn := ⟨3, 4, (.cons (.ret (.bi .tuple (.cons (.lc (.call c_law_draw (.cons (.v 0) (.cons (.bin .add (.v 2) (.k (.int 1))) .nil))) (.nm 3) (.rng (.v 1)) .no [3]) .nil))) .nil)⟩
end VI
set_option Elab.async false
set_option linter.all false
set_option maxRecDepth 100000
set_option maxHeartbeats 1000000
namespace VI
open PySem
/-- a def that is handed data alone yields r, whatever stands -/
def CallP (c : List W → Store → Option (W × Store)) (args : List W) (r : W) : Prop := ∀ S, c args S = some (r, S)
def noLoc : W → Bool
  | .loc _ => false
  | _ => true
theorem callP {prog : Nat → Option Fn} {con : Nat → Option D} {k f : Nat} {fn : Fn} {args : List W} {r : W} {S0 : Store} (hp : prog f = some fn) (h : fnRun ⟨runF prog con k, con⟩ fn args [] = some (r, S0)) (ha : allP args = true) (hn : args.length = fn.np) (hr : noLoc r = true) : ∀ S, runF prog con (k + 1) f args S = some (r, S) := fun S => by
  apply wp_eq
  simp only [runF, hp]
  refine call_p ha hn (Wp.of h ⟨fun n e => ?_, rfl⟩)
  simp only at e
  subst e; cases hr
/-- whole numbers -/
def isW : D → Bool
  | .int _ => true
  | _ => false
def isT2 : D → Bool
  | .tuple [_, _] => true
  | _ => false
def isTup' : D → Bool
  | .tuple _ => true
  | _ => false
def isS : D → Bool
  | .str _ => true
  | _ => false
def noDict : D → Bool
  | .dict _ => false
  | _ => true
theorem s_is_whole {G : Glob} {d : D} (h : noDict d = true) : fnRun G F_is_whole [.p d] [] = some (.p (.bool (isW d)), []) := by
  apply wp_eq
  apply fn_wp
  cases d <;> first | (cases h; done) | simp [F_is_whole, isW]
theorem s_is_pair {G : Glob} {d : D} (h : noDict d = true) : fnRun G F_is_pair [.p d] [] = some (.p (.bool (isT2 d)), []) := by
  apply wp_eq
  apply fn_wp
  cases d with
  | dict _ => cases h
  | tuple ds =>
    match ds with
    | [] => simp [F_is_pair, isT2]
    | [a] => simp [F_is_pair, isT2]
    | [a, b] => simp [F_is_pair, isT2]
    | a :: b :: c :: r => simp [F_is_pair, isT2]; omega
  | _ => simp [F_is_pair, isT2]
/-- least <= d <= most, d whole -/
def isB (a b : Int) : D → Bool
  | .int i => decide (a ≤ i) && decide (i ≤ b)
  | _ => false
theorem s_is_between {G : Glob} {c : Nat} {d : D} {a b : Int} (hc : ∀ S, G.call c [.p d] S = some (.p (.bool (isW d)), S)) : fnRun G (F_is_between c) [.p d, .p (.int a), .p (.int b)] [] = some (.p (.bool (isB a b d)), []) := by
  apply wp_eq
  apply fn_wp
  simp [F_is_between, hc]
  cases d <;> simp [isW, isB]
  split <;> simp_all <;> omega
theorem s_law_whole {G : Glob} {d : D} {a b : Int} (h : noDict d = true) : fnRun G F_law_whole [.p d, .p (.int a), .p (.int b)] [] = some (.p (.bool (isB a b d)), []) := by
  apply wp_eq
  apply fn_wp
  cases d <;> first | (cases h; done) | simp [F_law_whole, isB]
  split <;> simp_all <;> omega
theorem s_law_whole0 {G : Glob} {d : D} (h : noDict d = true) : fnRun G F_law_whole [.p d, .p .none, .p .none] [] = some (.p (.bool (isW d)), []) := by
  apply wp_eq
  apply fn_wp
  cases d <;> first | (cases h; done) | simp [F_law_whole, isW]
/-! ### the script's numbers -/
def cellV (ns : List Int) (k : Int) : Int := if k < ns.length then (ns[k.toNat]?).getD 0 else 0
theorem s_law_cell {G : Glob} {ns : List Int} {k : Int} (hk : 0 ≤ k) : fnRun G F_law_cell [.p (scr (ns.map .int)), .p (.int k)] [] = some (.p (.int (cellV ns k)), []) := by
  apply wp_eq
  apply fn_wp
  simp [F_law_cell]
  split
  · rename_i h
    rw [atI_pos _ _ hk, List.getElem?_map, List.getElem?_eq_getElem (by omega)]
    simp [cellV, h]
    rw [List.getElem?_eq_getElem (by omega)]; rfl
  · rename_i h
    simp [cellV, h]
/-- the box: the digits, and how many were drawn -/
abbrev boxO (ds : List Int) (at_ : Int) : Obj := .pl [.list (ds.map .int), .int at_]
def drw (ds : List Int) (at_ : Int) (m : Int) : Int := if at_ < ds.length then (ds[at_.toNat]?).getD 0 % m else at_ * 7 % m
theorem drw_lo {ds : List Int} {a m : Int} (h : 0 < m) : 0 ≤ drw ds a m := by
  unfold drw
  split <;> exact Int.emod_nonneg _ (by omega)
theorem drw_hi {ds : List Int} {a m : Int} (h : 0 < m) : drw ds a m < m := by
  unfold drw
  split <;> exact Int.emod_lt_of_pos _ h
theorem s_law_draw {G : Glob} {ds : List Int} {a m : Int} (ha : 0 ≤ a) (hm : 0 < m) : fnRun G F_law_draw [.loc 0, .p (.int m)] [boxO ds a] = some (.p (.int (drw ds a m)), [boxO ds (a + 1)]) := by
  apply wp_eq
  apply fn_wp
  simp [F_law_draw, ixN, hm, b_int]
  split
  · rename_i h
    rw [atI_pos _ _ ha, List.getElem?_map, List.getElem?_eq_getElem (by omega)]
    simp [hm, drw, h]
    rw [List.getElem?_eq_getElem (by omega)]; rfl
  · rename_i h
    simp [hm, drw, h]
theorem call_draw {prog : Nat → Option Fn} {con : Nat → Option D} {k f n : Nat} {S : Store} {ds : List Int} {a m : Int} (hp : prog f = some F_law_draw) (hk : 1 ≤ k) (hS : S[n]? = some (boxO ds a)) (ha : 0 ≤ a) (hm : 0 < m) :
    runF prog con k f [.loc n, .p (.int m)] S = some (.p (.int (drw ds a m)), S.set n (boxO ds (a + 1))) := by
  obtain ⟨k, rfl⟩ : ∃ j, k = j + 1 := ⟨k - 1, by omega⟩
  apply wp_eq
  simp only [runF, hp]
  exact call_1 rfl rfl hS (Wp.of (s_law_draw ha hm) ⟨(fun n e => nomatch e), _, rfl, rfl⟩)
end VI
set_option Elab.async false
set_option linter.all false
set_option maxRecDepth 100000
set_option maxHeartbeats 1000000
namespace VI
open PySem
@[simp] theorem b_int_i {i : Int} : b_int (.int i) = some (.p (.int i)) := rfl
theorem dig1 {G : Glob} {a b c k : D} {cell : Int} {ds : List Int} {n : Nat} {Q : Out → Prop} (hl : ds.length ≤ n) (hn : n ≤ 10000)
    (q : ∀ (cell' : Int) (ds' : List Int), ds'.length ≤ n + 60 → Q (.nx [some (.p a), some (.p b), some (.p c), some (.loc 0), some (.p k), some (.p (.int cell')), none, none] [.pl (ds'.map .int)])) :
    Wp (forGo (.items (rngL 0 60)) (.nm 6) (exs G B_law_digits_1 []) ((rngL 0 60).length + 1) 0 [some (.p a), some (.p b), some (.p c), some (.loc 0), some (.p k), some (.p (.int cell)), none, none] [.pl (ds.map .int)]) Q := by
  refine forR_wp (n := 60) (fun j env S => ∃ (cell' : Int) (ds' : List Int), ds'.length ≤ n + j ∧ env = [some (.p a), some (.p b), some (.p c), some (.loc 0), some (.p k), some (.p (.int cell')), none, none] ∧ S = [.pl (ds'.map .int)]) rfl ⟨cell, ds, hl, rfl, rfl⟩ ?_ ?_
  · rintro j env S hj ⟨cell', ds', h1, rfl, rfl⟩
    simp only [B_law_digits_1]
    simp -dsimp [List.set]
    split
    · exact ⟨by show _ < 16777216; omega, _, ds' ++ [cell' % 1000], by simp; omega, rfl, by simp⟩
    · exact ⟨_, ds', by omega, rfl, rfl⟩
  · rintro env S ⟨cell', ds', h1, rfl, rfl⟩
    exact q _ _ h1
theorem dig2 {G : Glob} {a b c k : D} {cell seed : Int} {ds : List Int} {n : Nat} {Q : Out → Prop} (hl : ds.length ≤ n) (hn : n ≤ 10000)
    (q : ∀ (seed' : Int) (ds' : List Int), ds'.length ≤ n + 60 → Q (.nx [some (.p a), some (.p b), some (.p c), some (.loc 0), some (.p k), some (.p (.int cell)), none, some (.p (.int seed'))] [.pl (ds'.map .int)])) :
    Wp (forGo (.items (rngL 0 12)) (.nm 6) (exs G B_law_digits_2 []) ((rngL 0 12).length + 1) 0 [some (.p a), some (.p b), some (.p c), some (.loc 0), some (.p k), some (.p (.int cell)), none, some (.p (.int seed))] [.pl (ds.map .int)]) Q := by
  refine forR_wp (n := 12) (fun j env S => ∃ (seed' : Int) (ds' : List Int), ds'.length ≤ n + j ∧ env = [some (.p a), some (.p b), some (.p c), some (.loc 0), some (.p k), some (.p (.int cell)), none, some (.p (.int seed'))] ∧ S = [.pl (ds'.map .int)]) rfl ⟨seed, ds, hl, rfl, rfl⟩ ?_ ?_
  · rintro j env S hj ⟨cell', ds', h1, rfl, rfl⟩
    simp only [B_law_digits_2]
    simp -dsimp [List.set]
    exact ⟨by show _ < 16777216; omega, _, ds' ++ [_], by simp; omega, rfl, by simp; rfl⟩
  · rintro env S ⟨cell', ds', h1, rfl, rfl⟩
    exact q _ _ (by omega)
theorem s_law_digits {G : Glob} {c : Nat} {ns : List Int} (hc : ∀ k S, 0 ≤ k → G.call c [.p (scr (ns.map .int)), .p (.int k)] S = some (.p (.int (cellV ns k)), S)) :
    ∃ ds : List Int, fnRun G (F_law_digits c) [.p (scr (ns.map .int)), .p (.int 0), .p (.int 63)] [] = some (.nw (.pl (ds.map .int)), []) := by
  have : Wp (fnRun G (F_law_digits c) [.p (scr (ns.map .int)), .p (.int 0), .p (.int 63)] []) fun r => ∃ ds : List Int, r = (.nw (.pl (ds.map .int)), []) := by
    apply fn_wp
    simp only [F_law_digits]
    simp -dsimp
    refine forR_wp (n := 63) (fun j env S => ∃ (ds : List Int), ds.length ≤ 60 * j ∧ env = [some (.p (scr (ns.map .int))), some (.p (.int 0)), some (.p (.int 63)), some (.loc 0), none, none, none, none] ∧ S = [.pl (ds.map .int)]) rfl ⟨[], by simp, rfl, rfl⟩ ?_ ?_
    · rintro j env S hj ⟨ds, h1, rfl, rfl⟩
      simp only [B_law_digits_3]
      simp -dsimp [hc, List.set]
      split
      all_goals split
      all_goals first | exact ⟨ds, rfl⟩ | split
      · refine dig1 (n := 60 * j) h1 (by omega) fun cell' ds' hl' => ?_
        simp -dsimp [List.set]
        exact ⟨ds', by omega, rfl⟩
      · refine dig2 (n := 60 * j) h1 (by omega) fun cell' ds' hl' => ?_
        simp -dsimp [List.set]
        exact ⟨ds', by omega, rfl⟩
      · refine dig1 (n := 60 * j) h1 (by omega) fun cell' ds' hl' => ?_
        simp -dsimp [List.set]
        exact ⟨ds', by omega, rfl⟩
      · refine dig2 (n := 60 * j) h1 (by omega) fun cell' ds' hl' => ?_
        simp -dsimp [List.set]
        exact ⟨ds', by omega, rfl⟩
    · rintro env S ⟨ds, h1, rfl, rfl⟩
      simp -dsimp
      exact ⟨_, rfl⟩
  obtain ⟨r, e, ds, rfl⟩ := this
  exact ⟨ds, e⟩
end VI
set_option Elab.async false
set_option linter.all false
set_option maxRecDepth 100000
set_option maxHeartbeats 1000000
namespace VI
open PySem
/-! ### data of no great size -/
def nice (m : Nat) : Nat → D → Bool
  | _, .none => true
  | _, .bool _ => true
  | _, .int _ => true
  | _, .str s => PyData.strOk s && decide (s.length ≤ m)
  | k + 1, .list ds => decide (ds.length ≤ m) && ds.all (nice m k)
  | k + 1, .tuple ds => decide (ds.length ≤ m) && ds.all (nice m k)
  | _, _ => false
theorem nice_mono {m m' : Nat} (hm : m ≤ m') : ∀ {k k' : Nat} {d : D}, k ≤ k' → nice m k d = true → nice m' k' d = true
  | _, _, .none, _, _ => by simp [nice]
  | _, _, .bool _, _, _ => by simp [nice]
  | _, _, .int _, _, _ => by simp [nice]
  | _, _, .str s, _, h => by
    simp [nice] at h ⊢
    exact ⟨h.1, by omega⟩
  | k + 1, k' + 1, .list ds, hk, h => by
    simp only [nice, Bool.and_eq_true, decide_eq_true_eq, List.all_eq_true] at h ⊢
    exact ⟨by omega, fun x hx => nice_mono hm (by omega) (h.2 x hx)⟩
  | k + 1, k' + 1, .tuple ds, hk, h => by
    simp only [nice, Bool.and_eq_true, decide_eq_true_eq, List.all_eq_true] at h ⊢
    exact ⟨by omega, fun x hx => nice_mono hm (by omega) (h.2 x hx)⟩
  | 0, _, .list ds, _, h => by simp [nice] at h
  | 0, _, .tuple ds, _, h => by simp [nice] at h
  | _, _, .dict _, _, h => by simp [nice] at h
theorem canAll_of {f : D → Bool} : ∀ {ds : List D}, (∀ x ∈ ds, PyData.canLay0 x = true) → PyData.canLayAll0 ds = true
  | [], _ => by simp [PyData.canLayAll0]
  | d :: r, h => by
    simp only [PyData.canLayAll0, Bool.and_eq_true]
    exact ⟨h d List.mem_cons_self, canAll_of (f := f) fun x hx => h x (List.mem_cons_of_mem _ hx)⟩
theorem depAll_le {n : Nat} : ∀ {ds : List D}, (∀ x ∈ ds, PyData.depth x ≤ n) → PyData.depthAll ds ≤ n
  | [], _ => by simp [PyData.depthAll]
  | d :: r, h => by
    simp only [PyData.depthAll]
    exact Nat.max_le.mpr ⟨h d List.mem_cons_self, depAll_le fun x hx => h x (List.mem_cons_of_mem _ hx)⟩
theorem nice_lay {m : Nat} : ∀ {k : Nat} {d : D}, nice m k d = true → PyData.canLay0 d = true ∧ PyData.depth d ≤ k
  | _, .none, _ => by simp [PyData.canLay0, PyData.depth]
  | _, .bool _, _ => by simp [PyData.canLay0, PyData.depth]
  | _, .int _, _ => by simp [PyData.canLay0, PyData.depth]
  | _, .str s, h => by
    simp [nice] at h
    simp [PyData.canLay0, PyData.depth, h.1]
  | k + 1, .list ds, h => by
    simp only [nice, Bool.and_eq_true, decide_eq_true_eq, List.all_eq_true] at h
    simp only [PyData.canLay0, PyData.depth]
    exact ⟨canAll_of (f := fun _ => true) fun x hx => (nice_lay (h.2 x hx)).1, by have := depAll_le fun x hx => (nice_lay (h.2 x hx)).2; omega⟩
  | k + 1, .tuple ds, h => by
    simp only [nice, Bool.and_eq_true, decide_eq_true_eq, List.all_eq_true] at h
    simp only [PyData.canLay0, PyData.depth]
    exact ⟨canAll_of (f := fun _ => true) fun x hx => (nice_lay (h.2 x hx)).1, by have := depAll_le fun x hx => (nice_lay (h.2 x hx)).2; omega⟩
  | 0, .list ds, h => by simp [nice] at h
  | 0, .tuple ds, h => by simp [nice] at h
  | _, .dict _, h => by simp [nice] at h
theorem nice_shaped {m k : Nat} {d : D} (h : nice m k d = true) (hk : k ≤ 64) : SeqAt.shaped d = true := by
  obtain ⟨h1, h2⟩ := nice_lay h
  unfold SeqAt.shaped
  rw [h1, decide_eq_true (by omega)]; rfl
theorem nice_noDict {m k : Nat} {d : D} (h : nice m k d = true) : noDict d = true := by
  cases d <;> first | rfl | (simp [nice] at h)
theorem shaped_nil : SeqAt.shaped (.list []) = true := by decide
/-! ### is it alike -/
/-- what alike is asked of: no list within -/
def plainD (m : Nat) : Nat → D → Bool
  | _, .none => true
  | _, .bool _ => true
  | _, .int _ => true
  | _, .str s => decide (s.length ≤ m)
  | k + 1, .tuple ds => decide (ds.length ≤ m) && ds.all (plainD m k)
  | _, _ => false
theorem s_law_like {prog : Nat → Option Fn} {con : Nat → Option D} {f m : Nat} (hp : prog f = some (F_law_like f)) (hm : m ≤ L) : ∀ (k : Nat) (d : D), plainD m k d = true → ∀ (j : Nat) (S : Store), k < j → runF prog con j f [.p d, .p d] S = some (.p (.bool true), S)
  | k, d, h, 0, S, hj => by omega
  | k, d, h, j + 1, S, hj => by
    refine callP (S0 := []) hp (wp_eq (fn_wp ?_)) rfl rfl rfl S
    simp only [F_law_like]
    cases d with
    | tuple ds =>
      cases k with
      | zero => simp [plainD] at h
      | succ k =>
        simp only [plainD, Bool.and_eq_true, decide_eq_true_eq, List.all_eq_true] at h
        simp -dsimp
        have hS : ∀ x ∈ ds, ∀ S : Store, runF prog con j f [.p x, .p x] S = some (.p (.bool true), S) := fun x hx S => s_law_like (con := con) hp hm k x (h.2 x hx) j S (by omega)
        have hL : ds.length ≤ L := by omega
        have hL' : ds.length ≤ 16777216 := hL
        refine ⟨by omega, Wp.of (comp_pure (fun _ => none) (fun z hz => ?_) (by rw [rng_len]; omega)) ?_⟩
        · obtain ⟨i, hi, rfl⟩ := rng_mem hz
          have hi' : i < ds.length := by omega
          apply wp_eq
          simp -dsimp [List.getElem?_eq_getElem hi', hS _ (List.getElem_mem hi')]
        · have e : (rngL 0 (ds.length : Int)).filterMap (fun x => (none : Option D)) = [] := by simp
          simp -dsimp [shaped_nil, e]
    | dict _ => simp [plainD] at h
    | list _ => simp [plainD] at h
    | str s =>
      simp [plainD] at h
      have h' : s.length ≤ 16777216 := Nat.le_trans h hm
      simp -dsimp [allStr, Str.join, h']
      have e : (Str.ofString "").length = 0 := by decide
      rw [e]; exact h'
    | _ => simp -dsimp
/-! ### another thing -/
theorem nice_tuple {m k : Nat} {ds : List D} : nice m (k + 1) (.tuple ds) = true ↔ ds.length ≤ m ∧ ∀ x ∈ ds, nice m k x = true := by
  simp [nice]
theorem nice_list {m k : Nat} {ds : List D} : nice m (k + 1) (.list ds) = true ↔ ds.length ≤ m ∧ ∀ x ∈ ds, nice m k x = true := by
  simp [nice]
theorem rev_get {ds : List D} {i : Nat} (h : i < ds.length) : ds[ds.length - 1 - i]? = some (ds[ds.length - 1 - i]'(by omega)) := List.getElem?_eq_getElem _
/-- what is changed: no list, no truth value within -/
def pure' (m : Nat) : Nat → D → Bool
  | _, .none => true
  | _, .int _ => true
  | _, .str s => PyData.strOk s && decide (s.length ≤ m)
  | k + 1, .tuple ds => decide (ds.length ≤ m) && ds.all (pure' m k)
  | _, _ => false
theorem pure_tuple {m k : Nat} {ds : List D} : pure' m (k + 1) (.tuple ds) = true ↔ ds.length ≤ m ∧ ∀ x ∈ ds, pure' m k x = true := by
  simp [pure']
theorem pure_nice {m : Nat} : ∀ {k : Nat} {d : D}, pure' m k d = true → nice m k d = true
  | _, .none, _ => by simp [nice]
  | _, .int _, _ => by simp [nice]
  | _, .bool _, h => by simp [pure'] at h
  | _, .list _, h => by simp [pure'] at h
  | _, .dict _, h => by simp [pure'] at h
  | _, .str s, h => by simpa [nice, pure'] using h
  | 0, .tuple ds, h => by simp [pure'] at h
  | k + 1, .tuple ds, h => by
    rw [pure_tuple] at h
    rw [nice_tuple]
    exact ⟨h.1, fun x hx => pure_nice (h.2 x hx)⟩
theorem pickW {ds : List Int} {a : Int} (xs : List D) (Q : D → Prop) (hx : xs ≠ []) (hq : ∀ x ∈ xs, Q x) : Wp (atI xs (drw ds a xs.length)) Q := by
  have hl : 0 < (xs.length : Int) := by have := List.length_pos_iff.mpr hx; omega
  have h1 := drw_lo (ds := ds) (a := a) hl
  have h2 := drw_hi (ds := ds) (a := a) hl
  have h3 : (drw ds a xs.length).toNat < xs.length := by omega
  rw [atI_pos _ _ h1, List.getElem?_eq_getElem h3]
  exact wp_some.mpr (hq _ (List.getElem_mem h3))
/-- the box that was drawn from -/
theorem s_law_other {G : Glob} {f m k : Nat} {d : D} {ds : List Int} {a : Int} (hd : pure' m (k + 1) d = true) (hm : 12 ≤ m) (hm' : m + 1 ≤ L) (ha : 0 ≤ a)
    (hdraw : ∀ S n ds a b, S[n]? = some (boxO ds a) → 0 ≤ a → 0 < b → G.call f [.loc n, .p (.int b)] S = some (.p (.int (drw ds a b)), S.set n (boxO ds (a + 1)))) :
    Wp (fnRun G (F_law_other f) [.loc 0, .p d] [boxO ds a]) fun r => ∃ d', r = (.p d', [boxO ds (a + 1)]) ∧ nice (m + 1) (k + 1) d' = true := by
  have hm2 : m + 1 ≤ 16777216 := hm'
  have hdr : ∀ b : Int, 0 < b → G.call f [.loc 0, .p (.int b)] [boxO ds a] = some (.p (.int (drw ds a b)), [boxO ds (a + 1)]) := fun b hb => hdraw _ _ _ _ _ rfl ha hb
  apply fn_wp
  simp only [F_law_other]
  cases d with
  | tuple xs =>
    rw [pure_tuple] at hd
    have hn : ∀ x ∈ xs, nice (m + 1) k x = true := fun x hx => nice_mono (by omega) (Nat.le_refl k) (pure_nice (hd.2 x hx))
    simp -dsimp
    refine ⟨by omega, Wp.of (comp_map (fun d => match d with
      | .int i => (xs[xs.length - 1 - i.toNat]?).getD .none
      | _ => .none) (fun z hz => ?_) (by rw [rng_len]; omega)) ?_⟩
    · obtain ⟨i, hi, rfl⟩ := rng_mem hz
      have hi' : i < xs.length := by omega
      apply wp_eq
      simp -dsimp
      have e : ((xs.length : Int) - 1 - (i : Int)) = ((xs.length - 1 - i : Nat) : Int) := by omega
      rw [e, atI_nat, rev_get hi']
      simp [rev_get hi']
    · have c1 : cut xs none (some 1) = xs.take 1 := cut_pre xs (by decide)
      have c2 : cut xs (some 1) none = xs.drop 1 := cut_suf xs (by decide)
      have hm1 : (xs.take 1).length ≤ 1 := by simp; omega
      simp -dsimp [hdr, c1, c2]
      refine ⟨by omega, ?_⟩
      refine pickW [_, _, _, _, _, _] _ (by simp) fun x hx => ?_
      have hm0 : ∀ x ∈ xs.take 1, nice (m + 1) k x = true := fun x hx => hn x (List.mem_of_mem_take hx)
      have hm2 : ∀ x ∈ xs.tail, nice (m + 1) k x = true := fun x hx => hn x (List.mem_of_mem_tail hx)
      simp only [List.mem_cons, List.not_mem_nil, or_false] at hx
      refine ⟨x, rfl, ?_⟩
      rcases hx with rfl | rfl | rfl | rfl | rfl | rfl
      · rw [nice_list]; exact ⟨by omega, hn⟩
      · rw [nice_tuple]
        refine ⟨by rw [List.length_append]; omega, fun x hx => ?_⟩
        rcases List.mem_append.mp hx with h | h
        · exact hn x h
        · exact hm0 x h
      · rw [nice_tuple]
        exact ⟨by rw [List.length_tail]; omega, hm2⟩
      · rfl
      · simp [nice]
      · rw [nice_tuple]
        refine ⟨by rw [List.length_map, rng_len]; omega, fun x hx => ?_⟩
        obtain ⟨z, hz, rfl⟩ := List.mem_map.mp hx
        obtain ⟨i, hi, rfl⟩ := rng_mem hz
        have hi' : i < xs.length := by omega
        simp only [Int.zero_add, Int.toNat_natCast]
        rw [rev_get hi']
        exact hn _ (List.getElem_mem _)
  | dict _ => simp [pure'] at hd
  | bool _ => simp [pure'] at hd
  | list _ => simp [pure'] at hd
  | str s =>
    simp -dsimp [hdr]
    refine pickW [_, _, _, _, _, _, _, _, _, _, _, _] _ (by simp) fun x hx => ?_
    simp only [List.mem_cons, List.not_mem_nil, or_false] at hx
    refine ⟨x, rfl, ?_⟩
    have key : ∀ s : Str, PyData.strOk s = true → s.length ≤ 4 → nice (m + 1) (k + 1) (.str s) = true := fun s h1 h2 => by
      simp [nice, h1]; omega
    rcases hx with rfl | rfl | rfl | rfl | rfl | rfl | rfl | rfl | rfl | rfl | rfl | rfl <;> first | rfl | exact key _ (by decide +kernel) (by decide +kernel)
  | none => 
    simp -dsimp [hdr]
    refine pickW [_, _, _] _ (by simp) fun x hx => ?_
    simp only [List.mem_cons, List.not_mem_nil, or_false] at hx
    refine ⟨x, rfl, ?_⟩
    have key : ∀ s : Str, PyData.strOk s = true → s.length ≤ 4 → nice (m + 1) (k + 1) (.str s) = true := fun s h1 h2 => by
      simp [nice, h1]; omega
    rcases hx with rfl | rfl | rfl
    · rfl
    · exact key _ (by decide +kernel) (by decide +kernel)
    · simp [nice]
  | int i =>
    simp -dsimp [hdr]
    refine pickW [_, _, _, _, _, _, _] _ (by simp) fun x hx => ?_
    simp only [List.mem_cons, List.not_mem_nil, or_false] at hx
    rcases hx with rfl | rfl | rfl | rfl | rfl | rfl | rfl <;> exact ⟨_, rfl, rfl⟩
end VI
set_option Elab.async false
set_option linter.all false
set_option maxRecDepth 100000
set_option maxHeartbeats 1000000
namespace VI
open PySem
theorem pure_mono {m : Nat} : ∀ {k k' : Nat} {d : D}, k ≤ k' → pure' m k d = true → pure' m k' d = true
  | _, _, .none, _, _ => by simp [pure']
  | _, _, .int _, _, _ => by simp [pure']
  | _, _, .str s, _, h => by simpa [pure'] using h
  | k + 1, k' + 1, .tuple ds, hk, h => by
    rw [pure_tuple] at h ⊢
    exact ⟨h.1, fun x hx => pure_mono (by omega) (h.2 x hx)⟩
  | 0, _, .tuple ds, _, h => by simp [pure'] at h
  | _, _, .bool _, _, h => by simp [pure'] at h
  | _, _, .list _, _, h => by simp [pure'] at h
  | _, _, .dict _, _, h => by simp [pure'] at h
theorem shaped_nilT : SeqAt.shaped (.tuple []) = true := by decide
theorem s_law_changed {prog : Nat → Option Fn} {con : Nat → Option D} {fo fd fc m : Nat} (hc : prog fc = some (F_law_changed fo fd fc)) (ho : prog fo = some (F_law_other fd)) (hd : prog fd = some F_law_draw) (hm : 12 ≤ m) (hm' : m + 1 ≤ L) :
    ∀ (k : Nat) (d : D), k ≤ 60 → pure' m k d = true → ∀ (j : Nat), k + 2 < j → ∀ (n : Nat) (S : Store) (ds : List Int) (a : Int), S[n]? = some (boxO ds a) → 0 ≤ a →
      Wp (runF prog con j fc [.loc n, .p d] S) fun r => ∃ d' a', 0 ≤ a' ∧ r = (.p d', S.set n (boxO ds a')) ∧ nice (m + 1) (k + 1) d' = true
  | k, d, hk, h, 0, hj => by omega
  | k, d, hk, h, j + 1, hj => by
    intro n S ds a hS ha
    simp only [runF, hc]
    refine call_1 (ws := [.p d]) rfl rfl hS ?_
    have hdr : ∀ b a : Int, 0 < b → 0 ≤ a → runF prog con j fd [.loc 0, .p (.int b)] [boxO ds a] = some (.p (.int (drw ds a b)), [boxO ds (a + 1)]) := fun b a hb ha => by
      rw [call_draw hd (by omega) rfl ha hb]; rfl
    have hoth : ∀ a : Int, 0 ≤ a → Wp (runF prog con j fo [.loc 0, .p d] [boxO ds a]) fun r => ∃ d', r = (.p d', [boxO ds (a + 1)]) ∧ nice (m + 1) (k + 1) d' = true := fun a ha => by
      obtain ⟨i, rfl⟩ : ∃ i, j = i + 1 := ⟨j - 1, by omega⟩
      simp only [runF, ho]
      refine call_1 (ws := [.p d]) rfl rfl rfl ?_
      refine (s_law_other (G := ⟨runF prog con i, con⟩) (f := fd) (m := m) (k := k) (pure_mono (by omega) h) hm hm' ha fun S n ds a b hS ha hb => call_draw hd (by omega) hS ha hb).mono fun r ⟨d', e, hn⟩ => ?_
      subst e
      exact ⟨(fun n e => nomatch e), _, rfl, d', rfl, hn⟩
    apply fn_wp
    simp only [F_law_changed]
    cases d with
    | tuple xs =>
      cases k with
      | zero => simp [pure'] at h
      | succ k =>
        have h0 := h
        rw [pure_tuple] at h
        have hsh : SeqAt.shaped (.tuple xs) = true := nice_shaped (pure_nice h0) (by omega)
        by_cases hx : xs = []
        · subst hx
          simp -dsimp [shaped_nilT]
          refine (hoth a ha).mono fun r ⟨d', e, hn⟩ => ?_
          subst e
          simp -dsimp
          exact ⟨d', a + 1, by omega, ⟨rfl, rfl⟩, hn⟩
        · have hl : 0 < xs.length := List.length_pos_iff.mpr hx
          have hq : PyData.eqvAll xs [] = false := by
            cases xs with
            | nil => exact absurd rfl hx
            | cons x r => simp
          have hl' : (0 : Int) < xs.length := by omega
          simp -dsimp [shaped_nilT, hsh, hq, hdr 9 a (by decide) ha]
          split
          · refine (hoth (a + 1) (by omega)).mono fun r ⟨d', e, hn⟩ => ?_
            subst e
            simp -dsimp
            exact ⟨d', a + 1 + 1, by omega, ⟨rfl, rfl⟩, hn⟩
          · refine Wp.of (hdr 900 (a + 1) (by decide) (by omega)) ?_
            obtain ⟨i, hi, e⟩ : ∃ i : Nat, i < xs.length ∧ drw ds (a + 1) 900 % (xs.length : Int) = i := by
              have h1 := Int.emod_nonneg (drw ds (a + 1) 900) (b := (xs.length : Int)) (by omega)
              have h2 := Int.emod_lt_of_pos (drw ds (a + 1) 900) hl'
              exact ⟨(drw ds (a + 1) 900 % (xs.length : Int)).toNat, by omega, by omega⟩
            have c1 : cut xs none (some (i : Int)) = xs.take i := by rw [cut_pre xs (by omega)]; rfl
            have c2 : cut xs (some ((i : Int) + 1)) none = xs.drop (i + 1) := by rw [cut_suf xs (by omega)]; congr 1
            simp -dsimp [hl', e, c1, c2, List.getElem?_eq_getElem hi]
            refine ⟨hl, (s_law_changed hc ho hd hm hm' k xs[i] (by omega) (h.2 _ (List.getElem_mem hi)) j (by omega) 0 [boxO ds (a + 1 + 1)] ds (a + 1 + 1) rfl (by omega)).mono fun r ⟨d', a', ha', e', hn⟩ => ?_⟩
            subst e'
            simp -dsimp [c2]
            have hm2 : m + 1 ≤ 16777216 := hm'
            refine ⟨by omega, by omega, _, a', ha', ⟨rfl, rfl⟩, ?_⟩
            rw [nice_tuple]
            refine ⟨by rw [List.length_append, List.length_cons, List.length_take, List.length_drop]; omega, fun x hx => ?_⟩
            have hs : ∀ x ∈ xs, nice (m + 1) (k + 1) x = true := fun x hx => nice_mono (by omega) (by omega) (pure_nice (h.2 x hx))
            rcases List.mem_append.mp hx with q | q
            · exact hs x (List.mem_of_mem_take q)
            · rcases List.mem_cons.mp q with q | q
              · subst q; exact hn
              · exact hs x (List.mem_of_mem_drop q)
    | none =>
      simp -dsimp
      refine (hoth a ha).mono fun r ⟨d', e, hn⟩ => ?_
      subst e
      simp -dsimp
      exact ⟨d', a + 1, by omega, ⟨rfl, rfl⟩, hn⟩
    | int i =>
      simp -dsimp
      refine (hoth a ha).mono fun r ⟨d', e, hn⟩ => ?_
      subst e
      simp -dsimp
      exact ⟨d', a + 1, by omega, ⟨rfl, rfl⟩, hn⟩
    | str s =>
      simp -dsimp
      refine (hoth a ha).mono fun r ⟨d', e, hn⟩ => ?_
      subst e
      simp -dsimp
      exact ⟨d', a + 1, by omega, ⟨rfl, rfl⟩, hn⟩
    | dict _ => simp [pure'] at h
    | bool _ => simp [pure'] at h
    | list _ => simp [pure'] at h
end VI
set_option Elab.async false
set_option linter.all false
set_option maxRecDepth 100000
set_option maxHeartbeats 1000000
namespace VI
open PySem
/-! ### rows of numbers -/
theorem s_numbers_row {prog : Nat → Option Fn} {con : Nat → Option D} {f fd j n : Nat} {many high : Int} {S : Store} {ds : List Int} {a : Int} (hf : prog f = some (F_law_numbers_row fd)) (hd : prog fd = some F_law_draw) (hj : 2 ≤ j) (hS : S[n]? = some (boxO ds a)) (ha : 0 ≤ a) (hm0 : 0 ≤ many) (hm : many ≤ 1000) (hh : 0 ≤ high) :
    Wp (runF prog con j f [.loc n, .p (.int many), .p (.int high)] S) fun r => ∃ (xs : List Int) (a' : Int), 0 ≤ a' ∧ r = (.p (.tuple (xs.map .int)), S.set n (boxO ds a')) ∧ xs.length = many.toNat ∧ ∀ x ∈ xs, 0 ≤ x ∧ x ≤ high := by
  obtain ⟨j, rfl⟩ : ∃ i, j = i + 1 := ⟨j - 1, by omega⟩
  simp only [runF, hf]
  refine call_1 (ws := [.p (.int many), .p (.int high)]) rfl rfl hS ?_
  have hl : (rngL 0 many).length = many.toNat := by rw [rng_len]; simp
  apply fn_wp
  simp only [F_law_numbers_row]
  simp -dsimp
  refine ⟨by omega, comp_wp (fun i acc S => ∃ (xs : List Int) (a' : Int), 0 ≤ a' ∧ acc = xs.map .int ∧ S = [boxO ds a'] ∧ xs.length = i ∧ ∀ x ∈ xs, 0 ≤ x ∧ x ≤ high) (by rw [hl, L_eq]; omega) ⟨[], a, ha, rfl, rfl, rfl, by simp⟩ ?_ ?_⟩
  · rintro i d acc S hd' ⟨xs, a', ha', rfl, rfl, h1, h2⟩
    obtain ⟨rfl, hi⟩ := rng_get hd'
    simp -dsimp
    refine Wp.of (call_draw hd (by omega) rfl ha' (by omega)) ?_
    have b1 := drw_lo (ds := ds) (a := a') (m := high + 1) (by omega)
    have b2 := drw_hi (ds := ds) (a := a') (m := high + 1) (by omega)
    simp -dsimp
    refine ⟨xs ++ [drw ds a' (high + 1)], a' + 1, by omega, by simp, rfl, by simp [h1], fun x hx => ?_⟩
    rcases List.mem_append.mp hx with q | q
    · exact h2 x q
    · rw [List.mem_singleton] at q; omega
  · rintro acc S ⟨xs, a', ha', rfl, rfl, h1, h2⟩
    simp -dsimp
    exact ⟨xs, a', ha', ⟨rfl, rfl⟩, by rw [h1, hl], fun x hx => h2 x hx⟩
end VI
set_option Elab.async false
set_option linter.all false
set_option maxRecDepth 100000
set_option maxHeartbeats 1000000
namespace VI
open PySem
theorem canInts : ∀ ns : List Int, PyData.canLayAll0 (ns.map .int) = true
  | [] => by simp [PyData.canLayAll0]
  | n :: r => by simp [PyData.canLayAll0, PyData.canLay0, canInts r]
theorem depInts : ∀ ns : List Int, PyData.depthAll (ns.map .int) = 0
  | [] => by simp [PyData.depthAll]
  | n :: r => by simp [PyData.depthAll, PyData.depth, depInts r]
theorem shaped_ints (ns : List Int) : SeqAt.shaped (.list (ns.map .int)) = true := by
  unfold SeqAt.shaped
  simp [PyData.canLay0, PyData.depth, canInts, depInts]
theorem eqvAll_nil_iff (xs : List D) : PyData.eqvAll xs [] = xs.isEmpty := by
  cases xs <;> simp
/-- [1 for x in .. if not good(x)] == [] -/
def bad1 (g : D → Bool) : D → Option D := fun d => if g d = true then none else some (.int 1)
theorem bad1_ints (g : D → Bool) : ∀ ds : List D, ∃ ns : List Int, ds.filterMap (bad1 g) = ns.map .int ∧ (ds.filterMap (bad1 g)).isEmpty = ds.all g
  | [] => ⟨[], rfl, rfl⟩
  | d :: r => by
    obtain ⟨ns, h1, h2⟩ := bad1_ints g r
    by_cases h : g d = true
    · refine ⟨ns, ?_, ?_⟩ <;> simp [List.filterMap_cons, bad1, h] <;> first | exact h1 | simpa [bad1] using h2
    · refine ⟨1 :: ns, ?_, ?_⟩ <;> simp [List.filterMap_cons, bad1, h]
      exact h1
theorem bad1_shaped (g : D → Bool) (ds : List D) : SeqAt.shaped (.list (ds.filterMap (bad1 g))) = true := by
  obtain ⟨ns, h1, _⟩ := bad1_ints g ds
  rw [h1]; exact shaped_ints ns
theorem bad1_eqv (g : D → Bool) (ds : List D) : PyData.eqvAll (ds.filterMap (bad1 g)) [] = ds.all g := by
  obtain ⟨ns, _, h2⟩ := bad1_ints g ds
  rw [eqvAll_nil_iff, h2]
def rows2 : D → Bool
  | .tuple rs => rs.all isT2
  | _ => false
theorem isT2_len {ds : List D} : isT2 (.tuple ds) = (ds.length == 2) := by
  match ds with
  | [] => rfl
  | [_] => rfl
  | [_, _] => rfl
  | _ :: _ :: _ :: r => simp [isT2]
theorem s_rows_of_two {G : Glob} {m k : Nat} {d : D} (h : nice m k d = true) (hm : m ≤ L) : fnRun G F_law_rows_of_two [.p d] [] = some (.p (.bool (rows2 d)), []) := by
  apply wp_eq
  apply fn_wp
  simp only [F_law_rows_of_two]
  cases d with
  | dict _ => simp [nice] at h
  | tuple rs =>
    cases k with
    | zero => simp [nice] at h
    | succ k =>
      rw [nice_tuple] at h
      simp -dsimp
      refine Wp.of (comp_pure (bad1 isT2) (fun z hz => ?_) (Nat.le_trans h.1 hm)) ?_
      · apply wp_eq
        have hn := h.2 z hz
        cases z with
        | dict _ => simp [nice] at hn
        | tuple xs =>
          simp -dsimp [bad1, isT2_len]
          by_cases hx : xs.length = 2
          · simp [hx]
          · have : ¬ ((xs.length : Int) = 2) := by omega
            simp [hx, this]
        | _ => simp -dsimp [bad1, isT2]
      · simp -dsimp [bad1_shaped, bad1_eqv, shaped_nil]
        rfl
  | _ => simp -dsimp [rows2]
@[simp] theorem allInt_ints : ∀ ns : List Int, allInt (ns.map .int) = some ns
  | [] => rfl
  | n :: r => by simp [allInt, allInt_ints r]
@[simp] theorem allInt_fun {α : Type} (f : α → Int) (xs : List α) : allInt (xs.map fun x => .int (f x)) = some (xs.map f) := by
  have := allInt_ints (xs.map f)
  rwa [List.map_map] at this
/-! ### comprehensions of two clauses that change nothing -/
theorem compGo2_pure {f : D → List D → Store → Option (List D × Store)} {S : Store} {ds : List D} (h : D → List D) (hf : ∀ d ∈ ds, ∀ acc, acc.length + (h d).length ≤ L → f d acc S = some (acc ++ h d, S)) : ∀ (n j : Nat) (acc : List D), ds.length < n + j → j ≤ ds.length → acc.length + ((ds.drop j).flatMap h).length ≤ L → compGo2 (.items ds) f n j acc S = some (acc ++ (ds.drop j).flatMap h, S)
  | 0, j, acc, hn, hj, ha => by omega
  | n + 1, j, acc, hn, hj, ha => by
    unfold compGo2
    simp only [Src.at, Option.bind_eq_bind, Option.bind_some]
    cases hd : ds[j]? with
    | none =>
      have : ds.length ≤ j := by simpa using hd
      simp [List.drop_eq_nil_of_le this]
    | some d =>
      obtain ⟨hjl, e⟩ := List.getElem?_eq_some_iff.mp hd
      have hm : d ∈ ds := List.mem_of_getElem? hd
      have hdr : ds.drop j = d :: ds.drop (j + 1) := by rw [← e]; exact List.drop_eq_getElem_cons hjl
      rw [hdr, List.flatMap_cons, List.length_append] at ha
      simp only [hf d hm acc (by omega), Option.bind_some, hdr, List.flatMap_cons]
      rw [compGo2_pure h hf n (j + 1) (acc ++ h d) (by omega) (by omega) (by rw [List.length_append]; omega)]
      simp
theorem comp2_pure {f : D → List D → Store → Option (List D × Store)} {S : Store} {ds : List D} (h : D → List D) (hf : ∀ d ∈ ds, ∀ acc, acc.length + (h d).length ≤ L → f d acc S = some (acc ++ h d, S)) (hl : (ds.flatMap h).length ≤ L) : compGo2 (.items ds) f (ds.length + 1) 0 [] S = some (ds.flatMap h, S) := by
  rw [compGo2_pure h hf _ 0 [] (by omega) (by omega) (by simpa using hl)]; simp
/-- the second clause: one term of each item -/
theorem lc2F_map {G : Glob} {elt : E} {tg tg1 : T} {it1 : I} {own own1 : List Nat} {env env1 : Env} {d : D} {S : Store} {ds1 : List D} (g : D → D) (h1 : bindT tg d (wipeE env own) = some env1) (h2 : evI G it1 env1 S = some (.items ds1, S))
    (h3 : ∀ d1 ∈ ds1, ∃ env2, bindT tg1 d1 (wipeE env1 own1) = some env2 ∧ ∃ w, ev G elt env2 S = some (w, S) ∧ fz w = some (g d1)) (acc : List D) (hl : acc.length + ds1.length ≤ L) :
    lc2F G elt tg .no tg1 it1 .no own own1 env d acc S = some (acc ++ ds1.map g, S) := by
  unfold lc2F
  simp only [h1, evC, h2, Option.bind_eq_bind, Option.bind_some, if_true]
  have key : ∀ (n j : Nat) (acc : List D), ds1.length < n + j → j ≤ ds1.length → acc.length + (ds1.length - j) ≤ L → compGo2 (.items ds1) (fun d1 acc S => do
      let env2 ← bindT tg1 d1 (wipeE env1 own1)
      let (t, S4) ← evC G .no env2 S
      if t then do
        let (w, S5) ← ev G elt env2 S4
        let x ← fz w
        if acc.length < L then return (acc ++ [x], S5) else none
      else return (acc, S4)) n j acc S = some (acc ++ (ds1.drop j).map g, S) := by
    intro n
    induction n with
    | zero => intro j acc hn hj ha; omega
    | succ n ih =>
      intro j acc hn hj ha
      unfold compGo2
      simp only [Src.at, Option.bind_eq_bind, Option.bind_some]
      cases hd : ds1[j]? with
      | none =>
        have : ds1.length ≤ j := by simpa using hd
        simp [List.drop_eq_nil_of_le this]
      | some d1 =>
        obtain ⟨hjl, e⟩ := List.getElem?_eq_some_iff.mp hd
        obtain ⟨env2, q1, w, q2, q3⟩ := h3 d1 (List.mem_of_getElem? hd)
        have hdr : ds1.drop j = d1 :: ds1.drop (j + 1) := by rw [← e]; exact List.drop_eq_getElem_cons hjl
        simp only [q1, evC, q2, q3, Option.bind_some, if_true]
        rw [if_pos (by omega)]
        have := ih (j + 1) (acc ++ [g d1]) (by omega) (by omega) (by rw [List.length_append, List.length_cons, List.length_nil]; omega)
        simp only [evC, Option.bind_eq_bind, Option.bind_some, if_true, Option.pure_def] at this ⊢
        rw [this, hdr]
        simp
  have := key (ds1.length + 1) 0 acc (by omega) (by omega) (by simpa using hl)
  simpa [evC, Src.len] using this
@[simp] theorem allBool_fun {α : Type} (f : α → Bool) : ∀ xs : List α, allBool (xs.map fun x => .bool (f x)) = some (xs.map f)
  | [] => rfl
  | x :: r => by simp [allBool, allBool_fun f r]
end VI
set_option Elab.async false
set_option linter.all false
set_option maxRecDepth 100000
set_option maxHeartbeats 1000000
namespace VI
open PySem
/-! ### neighbours -/
def chB {α : Type} (f : α → α → Bool) : List α → Bool
  | a :: b :: r => f a b && chB f (b :: r)
  | _ => true
theorem chB_iff {α : Type} {f : α → α → Bool} : ∀ {xs : List α}, chB f xs = true ↔ ∀ (i : Nat) (x y : α), xs[i]? = some x → xs[i + 1]? = some y → f x y = true
  | [] => by simp [chB]
  | [a] => by simp [chB]
  | a :: b :: r => by
    rw [chB, Bool.and_eq_true, chB_iff (xs := b :: r)]
    constructor
    · rintro ⟨h1, h2⟩ i x y hx hy
      cases i with
      | zero => simp at hx hy; subst hx; subst hy; exact h1
      | succ i => exact h2 i x y (by simpa using hx) (by simpa using hy)
    · intro h
      exact ⟨h 0 a b rfl rfl, fun i x y hx hy => h (i + 1) x y (by simpa using hx) (by simpa using hy)⟩
def nth (xs : List Int) (i : Nat) : Int := (xs[i]?).getD 0
theorem chB_get {f : Int → Int → Bool} {xs : List Int} : chB f xs = true ↔ ∀ i : Nat, i + 1 < xs.length → f (nth xs i) (nth xs (i + 1)) = true := by
  rw [chB_iff]
  constructor
  · intro h i hi
    unfold nth
    rw [List.getElem?_eq_getElem hi, List.getElem?_eq_getElem (Nat.lt_of_succ_lt hi)]
    exact h i _ _ (List.getElem?_eq_getElem _) (List.getElem?_eq_getElem hi)
  · intro h i x y hx hy
    have := h i (List.getElem?_eq_some_iff.mp hy).1
    unfold nth at this
    rw [hx, hy] at this
    exact this
/-! ### filters that tell ints -/
theorem fm_ints {g : D → Option D} : ∀ {ds : List D}, (∀ d ∈ ds, ∀ x, g d = some x → ∃ i, x = .int i) → ∃ ns : List Int, ds.filterMap g = ns.map .int
  | [], _ => ⟨[], rfl⟩
  | d :: r, h => by
    obtain ⟨ns, e⟩ := fm_ints (ds := r) fun d hd => h d (List.mem_cons_of_mem _ hd)
    cases hg : g d with
    | none => exact ⟨ns, by rw [List.filterMap_cons_none hg]; exact e⟩
    | some x =>
      obtain ⟨i, rfl⟩ := h d List.mem_cons_self x hg
      exact ⟨i :: ns, by rw [List.filterMap_cons_some hg, e]; rfl⟩
theorem fm_shaped {g : D → Option D} {ds : List D} (h : ∀ d ∈ ds, ∀ x, g d = some x → ∃ i, x = .int i) : SeqAt.shaped (.list (ds.filterMap g)) = true := by
  obtain ⟨ns, e⟩ := fm_ints h
  rw [e]; exact shaped_ints ns
theorem fm_eqv (g : D → Option D) : ∀ ds : List D, PyData.eqvAll (ds.filterMap g) [] = ds.all fun d => (g d).isNone
  | [] => by simp
  | d :: r => by
    cases hg : g d with
    | none => rw [List.filterMap_cons_none hg, List.all_cons, hg, fm_eqv g r]; rfl
    | some x => rw [List.filterMap_cons_some hg, List.all_cons, hg]; simp
/-- all places of a range -/
theorem rng_all {a b : Int} {h : D → Bool} : (rngL a b).all h = true ↔ ∀ j : Nat, j < (b - a).toNat → h (.int (a + j)) = true := by
  rw [List.all_eq_true]
  constructor
  · intro q j hj
    refine q _ ?_
    unfold rngL
    exact List.mem_map.mpr ⟨j, List.mem_range.mpr hj, rfl⟩
  · intro q d hd
    obtain ⟨j, hj, rfl⟩ := rng_mem hd
    exact q j hj
def ltI (a b : Int) : Bool := decide (a < b)
/-- a list or a tuple of ints -/
def SeqI (d : D) (xs : List Int) : Prop := d = .tuple (xs.map .int) ∨ d = .list (xs.map .int)
theorem getI {xs : List Int} {i : Nat} (h : i < xs.length) : (xs.map PyData.int)[i]? = some (.int (nth xs i)) := by
  unfold nth
  rw [List.getElem?_map, List.getElem?_eq_getElem h]; rfl
theorem s_law_ascending {G : Glob} {d : D} {xs : List Int} (h : SeqI d xs) (hl : xs.length ≤ 10000) : fnRun G F_law_ascending [.p d] [] = some (.p (.bool (chB ltI xs)), []) := by
  apply wp_eq
  apply fn_wp
  simp only [F_law_ascending]
  have hrl : (rngL 1 (xs.length : Int)).length ≤ L := by rw [rng_len, L_eq]; omega
  have key : ∀ x : List D, (rngL 1 (xs.length : Int)).all (fun d => match d with
      | .int i => ltI (nth xs (i.toNat - 1)) (nth xs i.toNat)
      | _ => false) = chB ltI xs := fun _ => by
    rw [Bool.eq_iff_iff, rng_all, chB_get]
    constructor
    · intro q i hi
      have := q i (by omega)
      simpa [show ((1 : Int) + (i : Int)).toNat = i + 1 by omega] using this
    · intro q j hj
      have := q j (by omega)
      simpa [show ((1 : Int) + (j : Int)).toNat = j + 1 by omega] using this
  have hf : ∀ z ∈ rngL 1 (xs.length : Int), ∃ i : Nat, z = .int ((i + 1 : Nat) : Int) ∧ i + 1 < xs.length := fun z hz => by
    obtain ⟨j, hj, rfl⟩ := rng_mem hz
    exact ⟨j, by congr 1; omega, by omega⟩
  rcases h with rfl | rfl <;>
  · simp -dsimp
    refine ⟨by omega, Wp.of (comp_pure (bad1 fun d => match d with
      | .int i => ltI (nth xs (i.toNat - 1)) (nth xs i.toNat)
      | _ => false) (fun z hz => ?_) hrl) ?_⟩
    · obtain ⟨i, rfl, hi⟩ := hf z hz
      apply wp_eq
      have e1 : ((i + 1 : Nat) : Int) - 1 = (i : Int) := by omega
      have g1 := getI (xs := xs) (i := i) (by omega)
      have g2 := getI (xs := xs) hi
      simp -dsimp only [wp_lcF, bindT, wp_some, wp_cso, wp_te, wp_cmp, wp_ix, wp_v, wp_bin, wp_k, getV, wipeE, List.set, rd, bop, e1, ixD, atI_nat, g1, g2]
      simp -dsimp [e1, g1, g2, bad1, ltI]
    · simp -dsimp [bad1_shaped, bad1_eqv, shaped_nil]
      exact key []
theorem all_bools {ds : List D} {h : D → Bool} (hd : ∀ d ∈ ds, True) : allBool (ds.map fun d => .bool (h d)) = some (ds.map h) := allBool_fun h ds
theorem s_is_ascending {G : Glob} {d : D} {xs : List Int} (h : SeqI d xs) (hl : xs.length ≤ 10000) : fnRun G F_is_ascending [.p d] [] = some (.p (.bool (chB ltI xs)), []) := by
  apply wp_eq
  apply fn_wp
  simp only [F_is_ascending]
  have hrl : (rngL 0 ((xs.length : Int) - 1)).length ≤ L := by rw [rng_len, L_eq]; omega
  have key : (rngL 0 ((xs.length : Int) - 1)).all (fun d => match d with
      | .int i => ltI (nth xs i.toNat) (nth xs (i.toNat + 1))
      | _ => false) = chB ltI xs := by
    rw [Bool.eq_iff_iff, rng_all, chB_get]
    constructor
    · intro q i hi
      have := q i (by omega)
      simpa using this
    · intro q j hj
      have := q j (by omega)
      simpa using this
  rcases h with rfl | rfl <;>
  · simp -dsimp
    refine ⟨by omega, Wp.of (comp_map (fun d => .bool (match d with
      | .int i => ltI (nth xs i.toNat) (nth xs (i.toNat + 1))
      | _ => false)) (fun z hz => ?_) hrl) ?_⟩
    · obtain ⟨j, hj, rfl⟩ := rng_mem hz
      have e1 : ((0 : Int) + (j : Int)) = ((j : Nat) : Int) := by omega
      have e2 : ((j : Nat) : Int) + 1 = ((j + 1 : Nat) : Int) := by omega
      have g1 := getI (xs := xs) (i := j) (by omega)
      have g2 := getI (xs := xs) (i := j + 1) (by omega)
      rw [e1]
      apply wp_eq
      simp -dsimp only [wp_lcF, bindT, wp_some, wp_cno, wp_cmp, wp_ix, wp_v, wp_bin, wp_k, getV, wipeE, List.set, rd, bop, e2, ixD, atI_nat, g1, g2]
      simp -dsimp [e2, g1, g2, ltI]
    · simp -dsimp
      exact key
/-! ### marks -/
def toI : D → Int
  | .int i => i
  | _ => 0
theorem all_isB {lo hi : Int} : ∀ {ds : List D}, ds.all (isB lo hi) = true → ds = (ds.map toI).map .int ∧ ∀ x ∈ ds.map toI, lo ≤ x ∧ x ≤ hi
  | [], _ => ⟨rfl, by simp⟩
  | d :: r, h => by
    rw [List.all_cons, Bool.and_eq_true] at h
    obtain ⟨h1, h2⟩ := all_isB h.2
    cases d with
    | int i =>
      have h3 := h.1
      simp [isB] at h3
      refine ⟨by rw [List.map_cons, List.map_cons, ← h1]; rfl, fun x hx => ?_⟩
      rw [List.map_cons] at hx
      rcases List.mem_cons.mp hx with rfl | hx
      · exact h3
      · exact h2 x hx
    | _ => cases h.1
def marksP (lo hi : Int) : D → Bool
  | .tuple ds => ds.all (isB lo hi) && chB ltI (ds.map toI)
  | _ => false
theorem s_law_marks {G : Glob} {cw ca m k : Nat} {d : D} {lo hi : Int} (h : nice m k d = true) (hm : m ≤ 10000) (hw : ∀ z S, nice m k z = true → G.call cw [.p z, .p (.int lo), .p (.int hi)] S = some (.p (.bool (isB lo hi z)), S))
    (ha : ∀ (xs : List Int) S, xs.length ≤ m → G.call ca [.p (.tuple (xs.map .int))] S = some (.p (.bool (chB ltI xs)), S)) : fnRun G (F_law_marks cw ca) [.p d, .p (.int lo), .p (.int hi)] [] = some (.p (.bool (marksP lo hi d)), []) := by
  apply wp_eq
  apply fn_wp
  simp only [F_law_marks]
  cases d with
  | dict _ => simp [nice] at h
  | tuple ds =>
    cases k with
    | zero => simp [nice] at h
    | succ k =>
      have h0 := h
      rw [nice_tuple] at h
      simp -dsimp
      refine Wp.of (comp_pure (bad1 (isB lo hi)) (fun z hz => ?_) (Nat.le_trans h.1 (by rw [L_eq]; omega))) ?_
      · apply wp_eq
        simp -dsimp [hw z [] (nice_mono (Nat.le_refl _) (by omega) (h.2 z hz)), bad1]
      · simp -dsimp [bad1_shaped, bad1_eqv, shaped_nil]
        by_cases hb : ds.all (isB lo hi) = true
        · obtain ⟨e, _⟩ := all_isB hb
          have hc : G.call ca [.p (.tuple ds)] [] = some (.p (.bool (chB ltI (ds.map toI))), []) := by
            have := ha (ds.map toI) [] (by simpa using h.1)
            rwa [← e] at this
          simp -dsimp [hb, hc, marksP]
          intro x hx h2
          rw [List.all_eq_true.mp hb x hx] at h2; cases h2
        · have hb' : ds.all (isB lo hi) = false := by simpa using hb
          simp -dsimp [hb', marksP]
          exact fun hall => absurd (List.all_eq_true.mpr hall) hb
  | _ => simp -dsimp [marksP]
/-! ### a list of ours that a comprehension walks and does not change -/
theorem compGo_live {f : D → Store → Option (Option D × Store)} {S : Store} {n : Nat} {ds : List D} (hS : S[n]? = some (.pl ds)) (hf : ∀ d ∈ ds, ∃ o, f d S = some (o, S)) : ∀ (k j : Nat) (acc : List D), compGo (.live n) f k j acc S = compGo (.items ds) f k j acc S
  | 0, j, acc => rfl
  | k + 1, j, acc => by
    unfold compGo
    simp only [Src.at, hS, Option.bind_eq_bind, Option.bind_some]
    cases hd : ds[j]? with
    | none => rfl
    | some d =>
      obtain ⟨o, e⟩ := hf d (List.mem_of_getElem? hd)
      simp only [e, Option.bind_some]
      cases o with
      | none => exact compGo_live hS hf k (j + 1) acc
      | some x =>
        simp only
        split
        · exact compGo_live hS hf k (j + 1) _
        · rfl
theorem compL_pure {f : D → Store → Option (Option D × Store)} {S : Store} {n k : Nat} {ds : List D} (hS : S[n]? = some (.pl ds)) (g : D → Option D) (hf : ∀ d ∈ ds, f d S = some (g d, S)) (hl : ds.length ≤ L) (hk : ds.length < k) : compGo (.live n) f k 0 [] S = some (ds.filterMap g, S) := by
  rw [compGo_live hS (fun d hd => ⟨g d, hf d hd⟩), compGo_pure g hf hl k 0 [] (by omega) (by omega) (by simp)]
  simp
theorem compL_map {f : D → Store → Option (Option D × Store)} {S : Store} {n k : Nat} {ds : List D} (hS : S[n]? = some (.pl ds)) (g : D → D) (hf : ∀ d ∈ ds, f d S = some (some (g d), S)) (hl : ds.length ≤ L) (hk : ds.length < k) : compGo (.live n) f k 0 [] S = some (ds.map g, S) := by
  rw [compL_pure hS (fun d => some (g d)) hf hl hk]; simp
/-! ### all parts of a list -/
def subsL {α : Type} (xs : List α) : List (List α) := xs.foldl (fun acc x => acc ++ acc.map (· ++ [x])) [[]]
theorem subsGo_mem {α : Type} : ∀ {xs : List α} {acc : List (List α)} {s : List α}, s ∈ xs.foldl (fun acc x => acc ++ acc.map (· ++ [x])) acc ↔ ∃ a ∈ acc, ∃ t, t.Sublist xs ∧ s = a ++ t
  | [], acc, s => by
    simp only [List.foldl_nil, List.sublist_nil]
    exact ⟨fun h => ⟨s, h, [], rfl, by simp⟩, fun ⟨a, h, t, e, e2⟩ => by subst e; rw [e2, List.append_nil]; exact h⟩
  | x :: r, acc, s => by
    rw [List.foldl_cons, subsGo_mem]
    constructor
    · rintro ⟨a, ha, t, ht, e⟩
      rcases List.mem_append.mp ha with q | q
      · exact ⟨a, q, t, ht.cons x, e⟩
      · obtain ⟨b, hb, rfl⟩ := List.mem_map.mp q
        exact ⟨b, hb, x :: t, ht.cons_cons x, by rw [e, List.append_assoc]; rfl⟩
    · rintro ⟨a, ha, t, ht, e⟩
      cases ht with
      | cons _ h => exact ⟨a, List.mem_append_left _ ha, t, h, e⟩
      | cons_cons _ h =>
        rename_i t'
        exact ⟨a ++ [x], List.mem_append_right _ (List.mem_map_of_mem ha), t', h, by rw [e, List.append_assoc]; rfl⟩
theorem subs_mem {α : Type} {xs s : List α} : s ∈ subsL xs ↔ s.Sublist xs := by
  unfold subsL
  rw [subsGo_mem]
  exact ⟨fun ⟨a, ha, t, h, e⟩ => by rw [List.mem_singleton] at ha; subst ha; rw [e]; exact h, fun h => ⟨[], List.mem_singleton.mpr rfl, s, h, rfl⟩⟩
theorem subs_snoc {α : Type} (xs : List α) (x : α) : subsL (xs ++ [x]) = subsL xs ++ (subsL xs).map (· ++ [x]) := by
  unfold subsL; rw [List.foldl_append]; rfl
theorem subs_len {α : Type} (xs : List α) : (subsL xs).length = 2 ^ xs.length := by
  have : ∀ (xs : List α) (acc : List (List α)), (xs.foldl (fun acc x => acc ++ acc.map (· ++ [x])) acc).length = acc.length * 2 ^ xs.length := fun xs => by
    induction xs with
    | nil => intro acc; simp
    | cons x r ih => intro acc; rw [List.foldl_cons, ih, List.length_append, List.length_map, List.length_cons, Nat.pow_succ]; rw [← Nat.mul_two, Nat.mul_assoc, Nat.mul_comm 2]
  unfold subsL; rw [this]; simp
theorem subs_map {α β : Type} (f : α → β) (xs : List α) : subsL (xs.map f) = (subsL xs).map (List.map f) := by
  have : ∀ (xs : List α) (acc : List (List α)), (xs.map f).foldl (fun acc x => acc ++ acc.map (· ++ [x])) (acc.map (List.map f)) = (xs.foldl (fun acc x => acc ++ acc.map (· ++ [x])) acc).map (List.map f) := fun xs => by
    induction xs with
    | nil => intro acc; rfl
    | cons x r ih =>
      intro acc
      rw [List.map_cons, List.foldl_cons, List.foldl_cons, ← ih]
      congr 1
      simp [List.map_append, List.map_map, Function.comp_def]
  exact this xs [[]]
theorem s_law_subsets {G : Glob} {ds : List D} {d : D} (hd : d = .list ds ∨ d = .tuple ds) (hl : ds.length ≤ 20) : fnRun G F_law_subsets [.p d] [] = some (.nw (.pl ((subsL ds).map .tuple)), []) := by
  apply wp_eq
  apply fn_wp
  simp only [F_law_subsets]
  have hp : ∀ j, j ≤ ds.length → (subsL (ds.take j)).length ≤ 2 ^ 20 := fun j hj => by
    rw [subs_len, List.length_take]
    exact Nat.pow_le_pow_right (by decide) (by omega)
  have main : ∀ (dd : D) (Q : Out → Prop), (Q (.nx [some (.p dd), some (.loc 0), none, none] [.pl ((subsL ds).map .tuple)])) → Wp (forGo (.items ds) (.nm 2) (exs G B_law_subsets_1 []) (ds.length + 1) 0 [some (.p dd), some (.loc 0), none, none] [.pl [.tuple []]]) Q := fun dd Q q => by
    refine for_wp (fun j env S => j ≤ ds.length ∧ env = [some (.p dd), some (.loc 0), none, none] ∧ S = [.pl ((subsL (ds.take j)).map .tuple)]) ⟨Nat.zero_le _, rfl, rfl⟩ ?_ ?_
    · rintro j d env S hd ⟨hj, rfl, rfl⟩
      obtain ⟨hjl, e⟩ := List.getElem?_eq_some_iff.mp hd
      have hS := subs_snoc (ds.take j) d
      have ht : ds.take (j + 1) = ds.take j ++ [d] := by rw [List.take_succ, hd]; rfl
      have h1 := hp j hj
      have h2 := hp (j + 1) hjl
      rw [ht] at h2 ⊢
      rw [hS] at h2 ⊢
      rw [List.length_append, List.length_map] at h2
      have hlen : ((subsL (ds.take j)).map PyData.tuple).length = (subsL (ds.take j)).length := List.length_map ..
      have hsub : ∀ s ∈ subsL (ds.take j), s.length ≤ 20 := fun s hs => by
        have := (subs_mem.mp hs).length_le
        rw [List.length_take] at this; omega
      simp only [B_law_subsets_1]
      simp -dsimp
      refine Wp.of (compL_map (n := 0) (ds := (subsL (ds.take j)).map PyData.tuple) rfl (fun z => match z with
        | .tuple s => .tuple (s ++ [d])
        | _ => .none) (fun z hz => ?_) (by rw [hlen, L_eq]; omega) (by omega)) ?_
      · obtain ⟨s, hs, rfl⟩ := List.mem_map.mp hz
        have := hsub s hs
        apply wp_eq
        simp -dsimp
        omega
      · simp -dsimp
        omega
    · rintro env S ⟨hj, rfl, rfl⟩
      rw [List.take_length]
      exact q
  rcases hd with rfl | rfl <;>
  · simp -dsimp
    refine main _ _ ?_
    simp -dsimp
end VI
set_option Elab.async false
set_option linter.all false
set_option maxRecDepth 100000
set_option maxHeartbeats 1000000
namespace VI
open PySem
/-! ### the shared words, called -/
section
variable {prog : Nat → Option Fn} {con : Nat → Option D}
theorem callP' {k f : Nat} {fn : Fn} {args : List W} {r : W} {S0 : Store} (hp : prog f = some fn) (hk : 1 ≤ k) (h : fnRun ⟨runF prog con (k - 1), con⟩ fn args [] = some (r, S0)) (ha : allP args = true) (hn : args.length = fn.np) (hr : noLoc r = true) (S : Store) : runF prog con k f args S = some (r, S) := by
  obtain ⟨j, rfl⟩ : ∃ j, k = j + 1 := ⟨k - 1, by omega⟩
  exact callP hp h ha hn hr S
theorem g_whole {f j : Nat} {d : D} {S : Store} (hp : prog f = some F_is_whole) (hj : 1 ≤ j) (h : noDict d = true) : runF prog con j f [.p d] S = some (.p (.bool (isW d)), S) := callP' (S0 := []) hp hj (s_is_whole h) rfl rfl rfl S
theorem g_pair {f j : Nat} {d : D} {S : Store} (hp : prog f = some F_is_pair) (hj : 1 ≤ j) (h : noDict d = true) : runF prog con j f [.p d] S = some (.p (.bool (isT2 d)), S) := callP' (S0 := []) hp hj (s_is_pair h) rfl rfl rfl S
theorem g_betw {f fw j : Nat} {d : D} {a b : Int} {S : Store} (hp : prog f = some (F_is_between fw)) (hw : prog fw = some F_is_whole) (hj : 2 ≤ j) (h : noDict d = true) : runF prog con j f [.p d, .p (.int a), .p (.int b)] S = some (.p (.bool (isB a b d)), S) :=
  callP' (S0 := []) hp (by omega) (s_is_between fun S => g_whole hw (by omega) h) rfl rfl rfl S
theorem g_lw {f j : Nat} {d : D} {a b : Int} {S : Store} (hp : prog f = some F_law_whole) (hj : 1 ≤ j) (h : noDict d = true) : runF prog con j f [.p d, .p (.int a), .p (.int b)] S = some (.p (.bool (isB a b d)), S) := callP' (S0 := []) hp hj (s_law_whole h) rfl rfl rfl S
theorem g_lw0 {f j : Nat} {d : D} {S : Store} (hp : prog f = some F_law_whole) (hj : 1 ≤ j) (h : noDict d = true) : runF prog con j f [.p d, .p .none, .p .none] S = some (.p (.bool (isW d)), S) := callP' (S0 := []) hp hj (s_law_whole0 h) rfl rfl rfl S
/-- least <= d, d whole -/
def isGe (a : Int) : D → Bool
  | .int i => decide (a ≤ i)
  | _ => false
theorem s_law_whole1 {G : Glob} {d : D} {a : Int} (h : noDict d = true) : fnRun G F_law_whole [.p d, .p (.int a), .p .none] [] = some (.p (.bool (isGe a d)), []) := by
  apply wp_eq
  apply fn_wp
  cases d <;> first | (cases h; done) | simp [F_law_whole, isGe]
theorem g_lw1 {f j : Nat} {d : D} {a : Int} {S : Store} (hp : prog f = some F_law_whole) (hj : 1 ≤ j) (h : noDict d = true) : runF prog con j f [.p d, .p (.int a), .p .none] S = some (.p (.bool (isGe a d)), S) := callP' (S0 := []) hp hj (s_law_whole1 h) rfl rfl rfl S
theorem g_rows2 {f j m k : Nat} {d : D} {S : Store} (hp : prog f = some F_law_rows_of_two) (hj : 1 ≤ j) (h : nice m k d = true) (hm : m ≤ L) : runF prog con j f [.p d] S = some (.p (.bool (rows2 d)), S) := callP' (S0 := []) hp hj (s_rows_of_two h hm) rfl rfl rfl S
theorem g_lasc {f j : Nat} {d : D} {xs : List Int} {S : Store} (hp : prog f = some F_law_ascending) (hj : 1 ≤ j) (h : SeqI d xs) (hl : xs.length ≤ 10000) : runF prog con j f [.p d] S = some (.p (.bool (chB ltI xs)), S) := callP' (S0 := []) hp hj (s_law_ascending h hl) rfl rfl rfl S
theorem g_asc {f j : Nat} {d : D} {xs : List Int} {S : Store} (hp : prog f = some F_is_ascending) (hj : 1 ≤ j) (h : SeqI d xs) (hl : xs.length ≤ 10000) : runF prog con j f [.p d] S = some (.p (.bool (chB ltI xs)), S) := callP' (S0 := []) hp hj (s_is_ascending h hl) rfl rfl rfl S
theorem g_marks {f fw fa j m k : Nat} {d : D} {lo hi : Int} {S : Store} (hp : prog f = some (F_law_marks fw fa)) (hw : prog fw = some F_law_whole) (ha : prog fa = some F_law_ascending) (hj : 2 ≤ j) (h : nice m k d = true) (hm : m ≤ 10000) :
    runF prog con j f [.p d, .p (.int lo), .p (.int hi)] S = some (.p (.bool (marksP lo hi d)), S) :=
  callP' (S0 := []) hp (by omega) (s_law_marks h hm (fun z S hz => g_lw hw (by omega) (nice_noDict hz)) (fun xs S hx => g_lasc ha (by omega) (.inl rfl) (by omega))) rfl rfl rfl S
theorem g_subsets {f j : Nat} {ds : List D} {d : D} {S : Store} (hp : prog f = some F_law_subsets) (hj : 1 ≤ j) (hd : d = .list ds ∨ d = .tuple ds) (hl : ds.length ≤ 20) : runF prog con j f [.p d] S = some (.nw (.pl ((subsL ds).map .tuple)), S) := callP' (S0 := []) hp hj (s_law_subsets hd hl) rfl rfl rfl S
theorem g_like {f j : Nat} {b : Bool} {S : Store} (hp : prog f = some (F_law_like f)) (hj : 1 ≤ j) : runF prog con j f [.p (.bool b), .p (.bool b)] S = some (.p (.bool true), S) := s_law_like (m := 1) hp (by decide) 0 (.bool b) rfl j S (by omega)
theorem g_digits {f fc j : Nat} {ns : List Int} (hp : prog f = some (F_law_digits fc)) (hc : prog fc = some F_law_cell) (hj : 2 ≤ j) : ∃ ds : List Int, ∀ S, runF prog con j f [.p (scr (ns.map .int)), .p (.int 0), .p (.int 63)] S = some (.nw (.pl (ds.map .int)), S) := by
  obtain ⟨ds, h⟩ := s_law_digits (G := ⟨runF prog con (j - 1), con⟩) (c := fc) (ns := ns) (fun k S hk => callP' (S0 := []) hc (by omega) (s_law_cell hk) rfl rfl rfl S)
  exact ⟨ds, callP' (S0 := []) hp (by omega) h rfl rfl rfl⟩
end
/-! ### comprehensions over rows of a kind -/
theorem comp_sel {α : Type} {f : D → Store → Option (Option D × Store)} {S : Store} {k : Nat} {xs : List α} (r : α → D) (c : α → Bool) (v : α → D) (hf : ∀ a ∈ xs, f (r a) S = some (if c a = true then some (v a) else none, S)) (hl : xs.length ≤ L) (hk : xs.length < k) :
    compGo (.items (xs.map r)) f k 0 [] S = some ((xs.filter c).map v, S) := by
  have hl' : (xs.map r).length = xs.length := List.length_map ..
  have key : ∀ (n j : Nat) (acc : List D), xs.length < n + j → j ≤ xs.length → acc.length ≤ j → compGo (.items (xs.map r)) f n j acc S = some (acc ++ ((xs.drop j).filter c).map v, S) := by
    intro n
    induction n with
    | zero => intro j acc h1 h2 h3; omega
    | succ n ih =>
      intro j acc h1 h2 h3
      unfold compGo
      simp only [Src.at, Option.bind_eq_bind, Option.bind_some, List.getElem?_map]
      cases hd : xs[j]? with
      | none =>
        have : xs.length ≤ j := by simpa using hd
        simp [List.drop_eq_nil_of_le this]
      | some a =>
        obtain ⟨hjl, e⟩ := List.getElem?_eq_some_iff.mp hd
        have hdr : xs.drop j = a :: xs.drop (j + 1) := by rw [← e]; exact List.drop_eq_getElem_cons hjl
        simp only [Option.map_some, hf a (List.mem_of_getElem? hd), Option.bind_some, hdr]
        by_cases hc : c a = true
        · simp only [hc, if_true]
          rw [if_pos (by omega), ih (j + 1) (acc ++ [v a]) (by omega) (by omega) (by simp; omega), List.filter_cons_of_pos hc]
          simp
        · simp only [hc, Bool.false_eq_true, if_false]
          rw [ih (j + 1) acc (by omega) (by omega) (by omega), List.filter_cons_of_neg (by simpa using hc)]
  have := key k 0 [] (by omega) (by omega) (by simp)
  simpa using this
theorem compL_sel {α : Type} {f : D → Store → Option (Option D × Store)} {S : Store} {k n : Nat} {xs : List α} (r : α → D) (hS : S[n]? = some (.pl (xs.map r))) (c : α → Bool) (v : α → D) (hf : ∀ a ∈ xs, f (r a) S = some (if c a = true then some (v a) else none, S)) (hl : xs.length ≤ L) (hk : xs.length < k) :
    compGo (.live n) f k 0 [] S = some ((xs.filter c).map v, S) := by
  rw [compGo_live hS (fun d hd => by
    obtain ⟨a, ha, rfl⟩ := List.mem_map.mp hd
    exact ⟨_, hf a ha⟩)]
  exact comp_sel r c v hf hl hk
theorem comp_mapA {α : Type} {f : D → Store → Option (Option D × Store)} {S : Store} {k : Nat} {xs : List α} (r : α → D) (v : α → D) (hf : ∀ a ∈ xs, f (r a) S = some (some (v a), S)) (hl : xs.length ≤ L) (hk : xs.length < k) :
    compGo (.items (xs.map r)) f k 0 [] S = some (xs.map v, S) := by
  have := comp_sel (f := f) (S := S) (k := k) (xs := xs) r (fun _ => true) v (fun a ha => by rw [hf a ha]; rfl) hl hk
  rw [this, List.filter_eq_self.mpr (fun _ _ => rfl)]
abbrev tupI (xs : List Int) : D := .tuple (xs.map .int)
def rowD (q : Int × Int) : D := .tuple [.int q.1, .int q.2]
theorem nth_get {p : List Int} {i : Nat} (h : i < p.length) : p[i]? = some (nth p i) := by
  unfold nth; rw [List.getElem?_eq_getElem h]; rfl
theorem enu_int {w : List Int} {j : Nat} {d : D} (h : (enuL (w.map .int))[j]? = some d) : d = .tuple [.int (j : Nat), .int (nth w j)] ∧ j < w.length := by
  rw [enu_get] at h
  by_cases hj : j < w.length
  · rw [getI hj] at h
    cases h
    exact ⟨rfl, hj⟩
  · rw [List.getElem?_map, List.getElem?_eq_none (by omega)] at h
    cases h
theorem isB_int {a b : Int} {d : D} (h : isB a b d = true) : ∃ i, d = .int i ∧ a ≤ i ∧ i ≤ b := by
  cases d with
  | int i => simp [isB] at h; exact ⟨i, rfl, h.1, h.2⟩
  | _ => cases h
/-- the greatest of ints -/
theorem maxI_get : ∀ {xs : List Int}, xs ≠ [] → ∃ m, maxI xs = some m ∧ m ∈ xs ∧ ∀ x ∈ xs, x ≤ m
  | [], h => absurd rfl h
  | [a], _ => ⟨a, rfl, by simp, by simp⟩
  | a :: b :: r, _ => by
    obtain ⟨m, h1, h2, h3⟩ := maxI_get (xs := b :: r) (by simp)
    refine ⟨if m > a then m else a, by simp [maxI, h1], ?_, ?_⟩
    · split
      · exact List.mem_cons_of_mem _ h2
      · exact List.mem_cons_self
    · intro x hx
      rcases List.mem_cons.mp hx with rfl | hx
      · split <;> omega
      · have := h3 x hx; split <;> omega
theorem minI_get : ∀ {xs : List Int}, xs ≠ [] → ∃ m, minI xs = some m ∧ m ∈ xs ∧ ∀ x ∈ xs, m ≤ x
  | [], h => absurd rfl h
  | [a], _ => ⟨a, rfl, by simp, by simp⟩
  | a :: b :: r, _ => by
    obtain ⟨m, h1, h2, h3⟩ := minI_get (xs := b :: r) (by simp)
    refine ⟨if m < a then m else a, by simp [minI, h1], ?_, ?_⟩
    · split
      · exact List.mem_cons_of_mem _ h2
      · exact List.mem_cons_self
    · intro x hx
      rcases List.mem_cons.mp hx with rfl | hx
      · split <;> omega
      · have := h3 x hx; split <;> omega
end VI
set_option Elab.async false
set_option linter.all false
set_option maxRecDepth 100000
set_option maxHeartbeats 1000000
namespace VI
open PySem
theorem rngN (n : Nat) : rngL 0 (n : Int) = (List.range n).map fun (i : Nat) => .int (i : Int) := by
  unfold rngL
  rw [show ((n : Int) - 0).toNat = n by omega]
  refine List.map_congr_left fun i _ => ?_
  rw [Int.zero_add]
theorem comp_rng {f : D → Store → Option (Option D × Store)} {S : Store} {k m : Nat} (v : Nat → D) (hf : ∀ i, i < m → f (.int (i : Nat)) S = some (some (v i), S)) (hl : m ≤ L) (hk : m < k) : compGo (.items (rngL 0 (m : Int))) f k 0 [] S = some ((List.range m).map v, S) := by
  rw [rngN]
  exact comp_mapA _ v (fun i hi => hf i (List.mem_range.mp hi)) (by simpa using hl) (by simpa using hk)
theorem comp_rngS {f : D → Store → Option (Option D × Store)} {S : Store} {k m : Nat} (c : Nat → Bool) (v : Nat → D) (hf : ∀ i, i < m → f (.int (i : Nat)) S = some (if c i = true then some (v i) else none, S)) (hl : m ≤ L) (hk : m < k) : compGo (.items (rngL 0 (m : Int))) f k 0 [] S = some (((List.range m).filter c).map v, S) := by
  rw [rngN]
  exact comp_sel _ c v (fun i hi => hf i (List.mem_range.mp hi)) (by simpa using hl) (by simpa using hk)
theorem rngN_len (m : Nat) : (rngL 0 (m : Int)).length = m := by rw [rngN]; simp
theorem natl_shaped (l : List Nat) : SeqAt.shaped (.list (l.map fun (i : Nat) => .int (i : Int))) = true := by
  have := shaped_ints (l.map fun (i : Nat) => (i : Int))
  rwa [List.map_map] at this
theorem natl_eqv (l : List Nat) : PyData.eqvAll (l.map fun (i : Nat) => .int (i : Int)) [] = l.isEmpty := by
  rw [eqvAll_nil_iff]; cases l <;> rfl
theorem filter_empty {α : Type} {c : α → Bool} {l : List α} : (l.filter c).isEmpty = l.all fun a => !c a := by
  rw [Bool.eq_iff_iff, List.isEmpty_iff, List.filter_eq_nil_iff, List.all_eq_true]
  exact ⟨fun h a ha => by have := h a ha; simpa using this, fun h a ha => by have := h a ha; simpa using this⟩
/-- neighbours, by their places -/
theorem chB_rng {f : Int → Int → Bool} {xs : List Int} {m : Nat} (h : xs.length = m + 1) : ((List.range m).all fun k => f (nth xs k) (nth xs (k + 1))) = chB f xs := by
  rw [Bool.eq_iff_iff, List.all_eq_true, chB_get]
  exact ⟨fun q i hi => q i (List.mem_range.mpr (by omega)), fun q k hk => q k (by have := List.mem_range.mp hk; omega)⟩
theorem zip_pairs (cs : List Int) : zipL (cs.map .int) ((cs.map .int).drop 1) = (List.range (cs.length - 1)).map fun k => rowD (nth cs k, nth cs (k + 1)) := by
  apply List.ext_getElem?
  intro i
  by_cases h : i < cs.length - 1
  · have e1 : (cs.map PyData.int)[i]? = some (.int (nth cs i)) := getI (by omega)
    have e2 : ((cs.map PyData.int).drop 1)[i]? = some (.int (nth cs (i + 1))) := by rw [List.getElem?_drop, Nat.add_comm]; exact getI (by omega)
    rw [zip_get _ _ _ e1 e2, List.getElem?_map, List.getElem?_range h]
    rfl
  · rw [List.getElem?_eq_none (by rw [zip_len, List.length_drop, List.length_map]; omega), List.getElem?_eq_none (by simp; omega)]
/-- a part's sum -/
def segI (w : List Int) (a b : Int) : Int := ((w.drop a.toNat).take (b.toNat - a.toNat)).sum
theorem cut_int (w : List Int) {a b : Int} (h : 0 ≤ a) (h' : 0 ≤ b) : cut (w.map PyData.int) (some a) (some b) = ((w.drop a.toNat).take (b.toNat - a.toNat)).map PyData.int := by
  rw [cut_mid _ h h', List.map_take, List.map_drop]
theorem eqv_beq (a b : Int) : (a == b) = decide (a = b) := by
  cases h : decide (a = b) with
  | true => simpa using h
  | false => simpa using h
theorem cut_seg (w : List Int) {a b : Int} (h : 0 ≤ a) (h' : 0 ≤ b) : ∃ hs : List Int, cut (w.map PyData.int) (some a) (some b) = hs.map .int ∧ hs.sum = segI w a b := ⟨_, cut_int w h h', rfl⟩
theorem sub_range : ∀ {n : Nat} {s : List Nat}, s.Pairwise (fun a b => a < b) → (∀ x ∈ s, x < n) → s.Sublist (List.range n)
  | 0, s, _, h => by
    cases s with
    | nil => exact List.Sublist.slnil
    | cons x r => exact absurd (h x (by simp)) (Nat.not_lt_zero _)
  | n + 1, s, hp, h => by
    rw [List.range_succ]
    rcases List.eq_nil_or_concat s with e | ⟨t, x, e⟩
    · subst e; exact List.nil_sublist _
    · rw [List.concat_eq_append] at e
      subst e
      rw [List.pairwise_append] at hp
      by_cases hx : x = n
      · subst hx
        exact (sub_range hp.1 fun y hy => by have := hp.2.2 y hy x (by simp); omega).append (List.Sublist.refl _)
      · have hxn : x < n := by have := h x (by simp); omega
        refine (sub_range (List.pairwise_append.mpr hp) fun y hy => ?_).trans (List.sublist_append_left _ _)
        rcases List.mem_append.mp hy with q | q
        · have := hp.2.2 y q x (by simp); omega
        · rw [List.mem_singleton] at q; omega
theorem zip_trunc (as bs : List D) (x : D) (h : bs.length ≤ as.length) : zipL (as ++ [x]) bs = zipL as bs := by
  apply List.ext_getElem?
  intro i
  unfold zipL
  rw [List.getElem?_zipWith, List.getElem?_zipWith]
  by_cases hi : i < as.length
  · rw [List.getElem?_append_left hi]
  · rw [List.getElem?_eq_none (l := bs) (by omega)]
    cases (as ++ [x])[i]? <;> cases as[i]? <;> rfl
end VI
set_option Elab.async false
set_option linter.all false
set_option maxRecDepth 100000
set_option maxHeartbeats 1000000
namespace VI
open PySem
/-! ### ints in order -/
theorem srt_ins (a : Int) : ∀ l : List Int, (insI a l).Perm (a :: l) ∧ (l.Pairwise (· ≤ ·) → (insI a l).Pairwise (· ≤ ·))
  | [] => ⟨List.Perm.refl _, fun _ => List.pairwise_singleton _ _⟩
  | b :: r => by
    obtain ⟨p, q⟩ := srt_ins a r
    unfold insI
    split
    · rename_i hab
      refine ⟨List.Perm.refl _, fun h => List.pairwise_cons.mpr ⟨fun y hy => ?_, h⟩⟩
      rcases List.mem_cons.mp hy with e | hy
      · subst e; exact hab
      · have := (List.pairwise_cons.mp h).1 y hy; omega
    · rename_i hab
      refine ⟨(p.cons b).trans (List.Perm.swap a b r), fun h => List.pairwise_cons.mpr ⟨fun y hy => ?_, q (List.pairwise_cons.mp h).2⟩⟩
      rcases List.mem_cons.mp (p.mem_iff.mp hy) with e | hy
      · subst e; omega
      · exact (List.pairwise_cons.mp h).1 y hy
theorem srt_perm : ∀ l : List Int, (sortI l).Perm l
  | [] => List.Perm.refl _
  | a :: r => (srt_ins a _).1.trans ((srt_perm r).cons a)
theorem srt_ord : ∀ l : List Int, (sortI l).Pairwise (· ≤ ·)
  | [] => List.Pairwise.nil
  | a :: r => (srt_ins a _).2 (srt_ord r)
theorem srt_len (l : List Int) : (sortI l).length = l.length := (srt_perm l).length_eq
theorem srt_uniq {l m : List Int} (hl : l.Pairwise (· ≤ ·)) (hm : m.Pairwise (· ≤ ·)) (p : l.Perm m) : l = m :=
  List.Perm.eq_of_pairwise (fun a b _ _ h1 h2 => by omega) hl hm p
theorem chB_pw : ∀ {l : List Int}, chB (fun a b => decide (a ≤ b)) l = true ↔ l.Pairwise (· ≤ ·)
  | [] => ⟨fun _ => .nil, fun _ => rfl⟩
  | [a] => ⟨fun _ => List.pairwise_singleton _ _, fun _ => rfl⟩
  | a :: b :: r => by
    rw [chB, Bool.and_eq_true, chB_pw (l := b :: r), decide_eq_true_eq]
    constructor
    · rintro ⟨h1, h2⟩
      refine List.pairwise_cons.mpr ⟨fun y hy => ?_, h2⟩
      rcases List.mem_cons.mp hy with e | hy
      · subst e; exact h1
      · have := (List.pairwise_cons.mp h2).1 y hy; omega
    · intro h
      exact ⟨(List.pairwise_cons.mp h).1 b (by simp), (List.pairwise_cons.mp h).2⟩
def fstD : D → D
  | .tuple (x :: _) => x
  | _ => .none
def sndD : D → D
  | .tuple (_ :: y :: _) => y
  | _ => .none
theorem isT2_get {z : D} (h : isT2 z = true) : z = .tuple [fstD z, sndD z] := by
  unfold isT2 at h
  split at h
  · rfl
  · cases h
/-- a given text -/
def isStr (s : Str) : D → Bool
  | .str t => t == s
  | _ => false
theorem g_like_str {prog : Nat → Option Fn} {con : Nat → Option D} {f j m k : Nat} {d : D} {s : Str} {S : Store} (hp : prog f = some (F_law_like f)) (hj : 1 ≤ j) (h : nice m k d = true) (hm : m ≤ 16777216) (hs : s.length ≤ 16777216) : runF prog con j f [.p d, .p (.str s)] S = some (.p (.bool (isStr s d)), S) := by
  refine callP' (S0 := []) hp hj (wp_eq (fn_wp ?_)) rfl rfl rfl S
  simp only [F_law_like]
  cases d with
  | dict _ => simp [nice] at h
  | str t =>
    simp [nice] at h
    have h' : t.length ≤ 16777216 := Nat.le_trans h.2 hm
    simp -dsimp [allStr, Str.join, h', hs, isStr]
    have e : (Str.ofString "").length = 0 := by decide
    rw [e]; exact h'
  | _ => simp -dsimp [isStr]
end VI
set_option Elab.async false
set_option linter.all false
set_option maxRecDepth 100000
set_option maxHeartbeats 1000000
namespace VI
open PySem
def F_p_is_pair_of (c_is_pair c_is_between : Nat) : Fn := ⟨2, 2, (.cons (.ite (.not (.e (.call c_is_pair (.cons (.v 1) .nil)))) (.cons (.ret (.k (.bool false))) .nil) .nil) (.cons (.ret (.and (.call c_is_between (.cons (.ix (.v 1) (.k (.int 0))) (.cons (.k (.int 0)) (.cons (.bin .sub (.v 0) (.k (.int 1))) .nil)))) (.and (.call c_is_between (.cons (.ix (.v 1) (.k (.int 1))) (.cons (.k (.int 0)) (.cons (.bin .sub (.v 0) (.k (.int 1))) .nil)))) (.cmp .lt (.ix (.v 1) (.k (.int 0))) (.ix (.v 1) (.k (.int 1))))))) .nil))⟩
def F_is_sorter (c_is_between c_p_is_pair_of : Nat) : Fn := ⟨1, 2, (.cons (.ite (.or (.not (.e (.isi (.v 0) .tuple))) (.or (.e (.cmp .ne (.bi .len (.cons (.v 0) .nil)) (.k (.int 3)))) (.e (.cmp .ne (.ix (.v 0) (.k (.int 0))) (.k (.str "sorter")))))) (.cons (.ret (.k (.bool false))) .nil) .nil) (.cons (.ite (.or (.not (.e (.call c_is_between (.cons (.ix (.v 0) (.k (.int 1))) (.cons (.k (.int 1)) (.cons (.g 0) .nil)))))) (.or (.not (.e (.isi (.ix (.v 0) (.k (.int 2))) .tuple))) (.e (.cmp .gt (.bi .len (.cons (.ix (.v 0) (.k (.int 2))) .nil)) (.g 1))))) (.cons (.ret (.k (.bool false))) .nil) .nil) (.cons (.ret (.bi .all (.cons (.lc (.call c_p_is_pair_of (.cons (.ix (.v 0) (.k (.int 1))) (.cons (.v 1) .nil))) (.nm 1) (.sq (.ix (.v 0) (.k (.int 2)))) .no [1]) .nil))) .nil)))⟩
def B_p_sorted_by_1 : Ss := (.cons (.ite (.e (.cmp .gt (.ix (.v 2) (.v 3)) (.ix (.v 2) (.v 4)))) (.cons (.set2 (.v 2) (.v 3) (.v 2) (.v 4) (.tup (.cons (.ix (.v 2) (.v 4)) (.cons (.ix (.v 2) (.v 3)) .nil)))) .nil) .nil) (.cons (.kill [3, 4]) .nil))
def F_p_sorted_by : Fn := ⟨2, 5, (.cons (.asg (.nm 2) (.bi .list (.cons (.v 1) .nil))) (.cons (.for_ (.tp (.cons (.nm 3) (.cons (.nm 4) .nil))) (.sq (.ix (.v 0) (.k (.int 2)))) B_p_sorted_by_1) (.cons (.kill [3, 4]) (.cons (.ret (.v 2)) .nil))))⟩
def F_p_in_order : Fn := ⟨1, 2, (.cons (.ret (.bi .all (.cons (.lc (.cmp .le (.ix (.v 0) (.v 1)) (.ix (.v 0) (.bin .add (.v 1) (.k (.int 1))))) (.nm 1) (.rng (.bin .sub (.bi .len (.cons (.v 0) .nil)) (.k (.int 1)))) .no [1]) .nil))) .nil)⟩
def B_p_all_rows_1 : Ss := (.cons (.asg (.nm 1) (.lc2 (.bin .add (.v 3) (.tup (.cons (.v 4) .nil))) (.nm 3) (.sq (.v 1)) .no (.nm 4) (.sq (.tup (.cons (.k (.int 0)) (.cons (.k (.int 1)) .nil)))) .no [3, 4] [4])) (.cons (.kill [2]) .nil))
def F_p_all_rows : Fn := ⟨1, 5, (.cons (.asg (.nm 1) (.lst (.cons (.tup .nil) .nil))) (.cons (.for_ (.nm 2) (.rng (.v 0)) B_p_all_rows_1) (.cons (.kill [2]) (.cons (.ret (.v 1)) .nil))))⟩
def B_sorts_1 (c_p_in_order c_p_sorted_by : Nat) : Ss := (.cons (.ite (.not (.e (.call c_p_in_order (.cons (.call c_p_sorted_by (.cons (.v 0) (.cons (.v 1) .nil))) .nil)))) (.cons (.ret (.tup (.cons (.k (.str "fails")) (.cons (.v 1) .nil)))) .nil) .nil) (.cons (.kill [1]) .nil))
def F_sorts (c_p_all_rows c_p_in_order c_p_sorted_by : Nat) : Fn := ⟨1, 2, (.cons (.for_ (.nm 1) (.sq (.call c_p_all_rows (.cons (.ix (.v 0) (.k (.int 1))) .nil))) (B_sorts_1 c_p_in_order c_p_sorted_by)) (.cons (.kill [1]) (.cons (.ret (.tup (.cons (.k (.str "sorts")) .nil))) .nil)))⟩
def F_is_sorts (c_sorts c_is_between c_p_in_order c_p_sorted_by : Nat) : Fn := ⟨2, 3, (.cons (.ite (.not (.e (.isi (.v 1) .tuple))) (.cons (.ret (.k (.bool false))) .nil) .nil) (.cons (.ite (.e (.cmp .eq (.v 1) (.tup (.cons (.k (.str "sorts")) .nil)))) (.cons (.ret (.cmp .eq (.call c_sorts (.cons (.v 0) .nil)) (.v 1))) .nil) .nil) (.cons (.ite (.or (.e (.cmp .ne (.bi .len (.cons (.v 1) .nil)) (.k (.int 2)))) (.or (.e (.cmp .ne (.ix (.v 1) (.k (.int 0))) (.k (.str "fails")))) (.or (.not (.e (.isi (.ix (.v 1) (.k (.int 1))) .tuple))) (.e (.cmp .ne (.bi .len (.cons (.ix (.v 1) (.k (.int 1))) .nil)) (.ix (.v 0) (.k (.int 1)))))))) (.cons (.ret (.k (.bool false))) .nil) .nil) (.cons (.ret (.and (.bi .all (.cons (.lc (.call c_is_between (.cons (.v 2) (.cons (.k (.int 0)) (.cons (.k (.int 1)) .nil)))) (.nm 2) (.sq (.ix (.v 1) (.k (.int 1)))) .no [2]) .nil)) (.not (.call c_p_in_order (.cons (.call c_p_sorted_by (.cons (.v 0) (.cons (.ix (.v 1) (.k (.int 1))) .nil))) .nil))))) .nil))))⟩
def B_depth_of_1 : Ss := (.cons (.asg (.nm 4) (.bin .add (.k (.int 1)) (.bi .max2 (.cons (.ix (.v 1) (.v 2)) (.cons (.ix (.v 1) (.v 3)) .nil))))) (.cons (.set2 (.v 1) (.v 2) (.v 1) (.v 3) (.tup (.cons (.v 4) (.cons (.v 4) .nil)))) (.cons (.kill [2, 3, 4]) .nil)))
def F_depth_of : Fn := ⟨1, 5, (.cons (.asg (.nm 1) (.bin .mul (.lst (.cons (.k (.int 0)) .nil)) (.ix (.v 0) (.k (.int 1))))) (.cons (.for_ (.tp (.cons (.nm 2) (.cons (.nm 3) .nil))) (.sq (.ix (.v 0) (.k (.int 2)))) B_depth_of_1) (.cons (.kill [2, 3, 4]) (.cons (.ret (.bi .max (.cons (.v 1) .nil))) .nil))))⟩
def F_made_sorter : Fn := ⟨1, 4, (.cons (.asg (.nm 1) (.lc2 (.tup (.cons (.v 3) (.cons (.bin .add (.v 3) (.k (.int 1))) .nil))) (.nm 2) (.rng (.v 0)) .no (.nm 3) (.rng3 (.bin .mod (.v 2) (.k (.int 2))) (.bin .sub (.v 0) (.k (.int 1))) (.k (.int 2))) .no [2, 3] [3])) (.cons (.ret (.tup (.cons (.k (.str "sorter")) (.cons (.v 0) (.cons (.bi .tuple (.cons (.v 1) .nil)) .nil))))) .nil))⟩
def F_law_right (c_law_like c_law_whole : Nat) : Fn := ⟨1, 2, (.cons (.ite (.or (.not (.e (.isi (.v 0) .tuple))) (.or (.e (.cmp .ne (.bi .len (.cons (.v 0) .nil)) (.k (.int 3)))) (.or (.not (.e (.call c_law_like (.cons (.ix (.v 0) (.k (.int 0))) (.cons (.k (.str "sorter")) .nil))))) (.or (.not (.e (.call c_law_whole (.cons (.ix (.v 0) (.k (.int 1))) (.cons (.k (.int 1)) (.cons (.k (.int 8)) .nil)))))) (.or (.not (.e (.isi (.ix (.v 0) (.k (.int 2))) .tuple))) (.e (.cmp .gt (.bi .len (.cons (.ix (.v 0) (.k (.int 2))) .nil)) (.k (.int 40))))))))) (.cons (.ret (.k (.bool false))) .nil) .nil) (.cons (.ret (.cmp .eq (.lc (.k (.int 1)) (.nm 1) (.sq (.ix (.v 0) (.k (.int 2)))) (.so (.or (.not (.e (.isi (.v 1) .tuple))) (.or (.e (.cmp .ne (.bi .len (.cons (.v 1) .nil)) (.k (.int 2)))) (.or (.not (.e (.call c_law_whole (.cons (.ix (.v 1) (.k (.int 0))) (.cons (.k (.int 0)) (.cons (.bin .sub (.ix (.v 0) (.k (.int 1))) (.k (.int 1))) .nil)))))) (.or (.not (.e (.call c_law_whole (.cons (.ix (.v 1) (.k (.int 1))) (.cons (.k (.int 0)) (.cons (.bin .sub (.ix (.v 0) (.k (.int 1))) (.k (.int 1))) .nil)))))) (.e (.cmp .ge (.ix (.v 1) (.k (.int 0))) (.ix (.v 1) (.k (.int 1)))))))))) [1]) (.lst .nil))) .nil))⟩
def B_law_run_1 : Ss := (.cons (.set2 (.v 2) (.v 3) (.v 2) (.v 4) (.tup (.cons (.bi .min2 (.cons (.ix (.v 2) (.v 3)) (.cons (.ix (.v 2) (.v 4)) .nil))) (.cons (.bi .max2 (.cons (.ix (.v 2) (.v 3)) (.cons (.ix (.v 2) (.v 4)) .nil))) .nil)))) (.cons (.kill [3, 4]) .nil))
def F_law_run : Fn := ⟨2, 5, (.cons (.asg (.nm 2) (.bi .list (.cons (.v 1) .nil))) (.cons (.for_ (.tp (.cons (.nm 3) (.cons (.nm 4) .nil))) (.sq (.v 0)) B_law_run_1) (.cons (.kill [3, 4]) (.cons (.ret (.v 2)) .nil))))⟩
def B_law_bits_1 : Ss := (.cons (.asg (.nm 1) (.bin .add (.lc (.bin .add (.v 3) (.tup (.cons (.k (.int 0)) .nil))) (.nm 3) (.sq (.v 1)) .no [3]) (.lc (.bin .add (.v 3) (.tup (.cons (.k (.int 1)) .nil))) (.nm 3) (.sq (.v 1)) .no [3]))) (.cons (.kill [2]) .nil))
def F_law_bits : Fn := ⟨1, 4, (.cons (.asg (.nm 1) (.lst (.cons (.tup .nil) .nil))) (.cons (.for_ (.nm 2) (.rng (.v 0)) B_law_bits_1) (.cons (.kill [2]) (.cons (.ret (.v 1)) .nil))))⟩
def F_law_fails (c_law_whole c_law_run : Nat) : Fn := ⟨2, 3, (.cons (.ite (.or (.not (.e (.isi (.v 1) .tuple))) (.or (.e (.cmp .ne (.bi .len (.cons (.v 1) .nil)) (.ix (.v 0) (.k (.int 1))))) (.e (.cmp .ne (.lc (.k (.int 1)) (.nm 2) (.sq (.v 1)) (.so (.not (.e (.call c_law_whole (.cons (.v 2) (.cons (.k (.int 0)) (.cons (.k (.int 1)) .nil))))))) [2]) (.lst .nil))))) (.cons (.ret (.k (.bool false))) .nil) .nil) (.cons (.ret (.cmp .ne (.call c_law_run (.cons (.ix (.v 0) (.k (.int 2))) (.cons (.v 1) .nil))) (.bi .sorted (.cons (.v 1) .nil)))) .nil))⟩
def B_law_1 (c_law_draw : Nat) : Ss := (.cons (.asg (.nm 8) (.call c_law_draw (.cons (.v 1) (.cons (.bin .sub (.v 6) (.k (.int 1))) .nil)))) (.cons (.expr (.app (.v 7) (.tup (.cons (.v 8) (.cons (.bin .add (.bin .add (.v 8) (.k (.int 1))) (.call c_law_draw (.cons (.v 1) (.cons (.bin .sub (.bin .sub (.v 6) (.k (.int 1))) (.v 8)) .nil)))) .nil))))) (.cons (.kill [3, 8]) .nil)))
def B_law_2 (c_law_numbers_row c_law_run : Nat) : Ss := (.cons (.asg (.nm 13) (.call c_law_numbers_row (.cons (.v 1) (.cons (.v 6) (.cons (.k (.int 20)) .nil))))) (.cons (.ite (.e (.cmp .ne (.call c_law_run (.cons (.ix (.v 10) (.k (.int 2))) (.cons (.v 13) .nil))) (.bi .sorted (.cons (.v 13) .nil)))) (.cons (.ret (.k (.bool false))) .nil) .nil) (.cons (.kill [4, 13]) .nil)))
def B_law_3 : Ss := (.cons (.asg (.nm 15) (.bin .add (.k (.int 1)) (.bi .max2 (.cons (.ix (.v 5) (.v 8)) (.cons (.ix (.v 5) (.v 14)) .nil))))) (.cons (.set2 (.v 5) (.v 8) (.v 5) (.v 14) (.tup (.cons (.v 15) (.cons (.v 15) .nil)))) (.cons (.kill [8, 14, 15]) .nil)))
def B_law_4 (c_law_draw c_law_like c_is_sorts c_law_fails c_law_changed c_is_sorter c_law_right : Nat) : Ss := (.cons (.asg (.nm 13) (.bi .tuple (.cons (.lc (.call c_law_draw (.cons (.v 1) (.cons (.k (.int 2)) .nil))) (.nm 3) (.rng (.v 6)) .no [3]) .nil))) (.cons (.ite (.not (.e (.call c_law_like (.cons (.call c_is_sorts (.cons (.v 9) (.cons (.tup (.cons (.k (.str "fails")) (.cons (.v 13) .nil))) .nil))) (.cons (.call c_law_fails (.cons (.v 9) (.cons (.v 13) .nil))) .nil))))) (.cons (.ret (.k (.bool false))) .nil) .nil) (.cons (.asg (.nm 16) (.ite (.e (.cmp .gt (.v 4) (.k (.int 0)))) (.call c_law_changed (.cons (.v 1) (.cons (.v 9) .nil))) (.v 9))) (.cons (.ite (.not (.e (.call c_law_like (.cons (.call c_is_sorter (.cons (.v 16) .nil)) (.cons (.call c_law_right (.cons (.v 16) .nil)) .nil))))) (.cons (.ret (.k (.bool false))) .nil) .nil) (.cons (.kill [4, 13, 16]) .nil)))))
def B_law_5 (c_law_draw c_made_sorter c_sorts c_law_bits c_law_fails c_law_like c_law_right c_law_numbers_row c_law_run c_depth_of c_is_sorts c_law_changed c_is_sorter : Nat) : Ss := (.cons (.par [6, 7] (.cons (.bin .add (.k (.int 1)) (.call c_law_draw (.cons (.v 1) (.cons (.k (.int 5)) .nil)))) (.cons (.lst .nil) .nil))) (.cons (.kill [3, 8]) (.cons (.for_ (.nm 3) (.rng (.ite (.e (.cmp .gt (.v 6) (.k (.int 1)))) (.call c_law_draw (.cons (.v 1) (.cons (.k (.int 9)) .nil))) (.k (.int 0)))) (B_law_1 c_law_draw)) (.cons (.kill [3, 8]) (.cons (.asg (.tp (.cons (.nm 9) (.cons (.nm 10) .nil))) (.tup (.cons (.tup (.cons (.k (.str "sorter")) (.cons (.v 6) (.cons (.bi .tuple (.cons (.v 7) .nil)) .nil)))) (.cons (.call c_made_sorter (.cons (.v 6) .nil)) .nil)))) (.cons (.par [11, 12] (.cons (.call c_sorts (.cons (.v 9) .nil)) (.cons (.lc (.v 13) (.nm 13) (.sq (.call c_law_bits (.cons (.v 6) .nil))) (.so (.e (.call c_law_fails (.cons (.v 9) (.cons (.v 13) .nil))))) [13]) .nil))) (.cons (.ite (.or (.not (.e (.isi (.v 11) .tuple))) (.or (.e (.cmp .eq (.v 11) (.tup .nil))) (.and (.e (.cmp .eq (.v 12) (.lst .nil))) (.not (.e (.call c_law_like (.cons (.v 11) (.cons (.tup (.cons (.k (.str "sorts")) .nil)) .nil)))))))) (.cons (.ret (.k (.bool false))) .nil) .nil) (.cons (.ite (.and (.e (.cmp .ne (.v 12) (.lst .nil))) (.or (.e (.cmp .ne (.bi .len (.cons (.v 11) .nil)) (.k (.int 2)))) (.or (.not (.e (.call c_law_like (.cons (.ix (.v 11) (.k (.int 0))) (.cons (.k (.str "fails")) .nil))))) (.not (.e (.call c_law_fails (.cons (.v 9) (.cons (.ix (.v 11) (.k (.int 1))) .nil)))))))) (.cons (.ret (.k (.bool false))) .nil) .nil) (.cons (.ite (.or (.not (.e (.call c_law_right (.cons (.v 10) .nil)))) (.or (.e (.cmp .ne (.ix (.v 10) (.k (.int 1))) (.v 6))) (.or (.e (.cmp .ne (.lc (.v 13) (.nm 13) (.sq (.call c_law_bits (.cons (.v 6) .nil))) (.so (.e (.call c_law_fails (.cons (.v 10) (.cons (.v 13) .nil))))) [13]) (.lst .nil))) (.not (.e (.call c_law_like (.cons (.call c_sorts (.cons (.v 10) .nil)) (.cons (.tup (.cons (.k (.str "sorts")) .nil)) .nil)))))))) (.cons (.ret (.k (.bool false))) .nil) .nil) (.cons (.kill [4, 13]) (.cons (.for_ (.nm 4) (.rng (.k (.int 3))) (B_law_2 c_law_numbers_row c_law_run)) (.cons (.kill [4, 13]) (.cons (.asg (.nm 5) (.bin .mul (.lst (.cons (.k (.int 0)) .nil)) (.v 6))) (.cons (.kill [8, 14, 15]) (.cons (.for_ (.tp (.cons (.nm 8) (.cons (.nm 14) .nil))) (.sq (.v 7)) B_law_3) (.cons (.kill [8, 14, 15]) (.cons (.ite (.or (.not (.e (.call c_law_like (.cons (.call c_depth_of (.cons (.v 9) .nil)) (.cons (.bi .max (.cons (.v 5) .nil)) .nil))))) (.not (.e (.call c_law_like (.cons (.call c_is_sorts (.cons (.v 9) (.cons (.tup (.cons (.k (.str "sorts")) .nil)) .nil))) (.cons (.cmp .eq (.v 12) (.lst .nil)) .nil)))))) (.cons (.ret (.k (.bool false))) .nil) .nil) (.cons (.kill [4, 13, 16]) (.cons (.for_ (.nm 4) (.rng (.k (.int 5))) (B_law_4 c_law_draw c_law_like c_is_sorts c_law_fails c_law_changed c_is_sorter c_law_right)) (.cons (.kill [4, 13, 16]) (.cons (.kill [2, 3, 4, 5, 6, 7, 8, 9, 10, 11, 12, 13, 14, 15, 16]) .nil)))))))))))))))))))))
def F_law (c_law_digits c_law_draw c_made_sorter c_sorts c_law_bits c_law_fails c_law_like c_law_right c_law_numbers_row c_law_run c_depth_of c_is_sorts c_law_changed c_is_sorter : Nat) : Fn := ⟨1, 17, (.cons (.asg (.nm 1) (.lst (.cons (.call c_law_digits (.cons (.v 0) (.cons (.k (.int 0)) (.cons (.k (.int 63)) .nil)))) (.cons (.k (.int 0)) .nil)))) (.cons (.for_ (.nm 2) (.rng (.k (.int 2))) (B_law_5 c_law_draw c_made_sorter c_sorts c_law_bits c_law_fails c_law_like c_law_right c_law_numbers_row c_law_run c_depth_of c_is_sorts c_law_changed c_is_sorter)) (.cons (.kill [2, 3, 4, 5, 6, 7, 8, 9, 10, 11, 12, 13, 14, 15, 16]) (.cons (.ret (.k (.bool true))) .nil))))⟩
def cProg : Nat → Option Fn := fun i => [F_is_whole, (F_is_between 0), F_is_pair, (F_p_is_pair_of 2 1), (F_is_sorter 1 3), F_p_sorted_by, F_p_in_order, F_p_all_rows, (F_sorts 7 6 5), (F_is_sorts 8 1 6 5), F_depth_of, F_made_sorter, F_law_cell, (F_law_digits 12), F_law_draw, (F_law_like 15), F_law_whole, (F_law_numbers_row 14), (F_law_other 14), (F_law_changed 18 14 19), (F_law_right 15 16), F_law_run, F_law_bits, (F_law_fails 16 21), (F_law 13 14 11 8 22 23 15 20 17 21 10 9 19 4)][i]?
def cCon : Nat → Option D := fun i => [(.int 8 : D), (.int 40 : D)][i]?
theorem pr_is_whole : cProg 0 = some F_is_whole := rfl
theorem pr_is_between : cProg 1 = some (F_is_between 0) := rfl
theorem pr_is_pair : cProg 2 = some F_is_pair := rfl
theorem pr_p_is_pair_of : cProg 3 = some (F_p_is_pair_of 2 1) := rfl
theorem pr_is_sorter : cProg 4 = some (F_is_sorter 1 3) := rfl
theorem pr_p_sorted_by : cProg 5 = some F_p_sorted_by := rfl
theorem pr_p_in_order : cProg 6 = some F_p_in_order := rfl
theorem pr_p_all_rows : cProg 7 = some F_p_all_rows := rfl
theorem pr_sorts : cProg 8 = some (F_sorts 7 6 5) := rfl
theorem pr_is_sorts : cProg 9 = some (F_is_sorts 8 1 6 5) := rfl
theorem pr_depth_of : cProg 10 = some F_depth_of := rfl
theorem pr_made_sorter : cProg 11 = some F_made_sorter := rfl
theorem pr_law_cell : cProg 12 = some F_law_cell := rfl
theorem pr_law_digits : cProg 13 = some (F_law_digits 12) := rfl
theorem pr_law_draw : cProg 14 = some F_law_draw := rfl
theorem pr_law_like : cProg 15 = some (F_law_like 15) := rfl
theorem pr_law_whole : cProg 16 = some F_law_whole := rfl
theorem pr_law_numbers_row : cProg 17 = some (F_law_numbers_row 14) := rfl
theorem pr_law_other : cProg 18 = some (F_law_other 14) := rfl
theorem pr_law_changed : cProg 19 = some (F_law_changed 18 14 19) := rfl
theorem pr_law_right : cProg 20 = some (F_law_right 15 16) := rfl
theorem pr_law_run : cProg 21 = some F_law_run := rfl
theorem pr_law_bits : cProg 22 = some F_law_bits := rfl
theorem pr_law_fails : cProg 23 = some (F_law_fails 16 21) := rfl
theorem pr_law : cProg 24 = some (F_law 13 14 11 8 22 23 15 20 17 21 10 9 19 4) := rfl
end VI
set_option Elab.async false
set_option linter.all false
set_option maxRecDepth 100000
set_option maxHeartbeats 1000000
namespace VI
open PySem
/-! ### sorters: the plain law -/
def cx (p : Nat × Nat) (xs : List Int) : List Int := if nth xs p.1 > nth xs p.2 then (xs.set p.1 (nth xs p.2)).set p.2 (nth xs p.1) else xs
def run (ps : List (Nat × Nat)) (xs : List Int) : List Int := ps.foldl (fun xs p => cx p xs) xs
/-- pairs of places below n -/
def okP (n : Nat) (p : Nat × Nat) : Prop := p.1 < p.2 ∧ p.2 < n
theorem cx_len (p : Nat × Nat) (xs : List Int) : (cx p xs).length = xs.length := by
  unfold cx; split <;> simp
theorem run_len (ps : List (Nat × Nat)) : ∀ xs : List Int, (run ps xs).length = xs.length := by
  unfold run
  induction ps with
  | nil => intro xs; rfl
  | cons p r ih => intro xs; rw [List.foldl_cons, ih, cx_len]
theorem nth_eq {xs : List Int} {i : Nat} (h : i < xs.length) : nth xs i = xs[i] := by
  have := nth_get h
  rw [List.getElem?_eq_getElem h] at this
  exact (Option.some.inj this).symm
theorem cx_perm {n : Nat} {p : Nat × Nat} {xs : List Int} (h : okP n p) (hl : xs.length = n) : (cx p xs).Perm xs := by
  unfold cx
  split
  · rw [nth_eq (show p.1 < xs.length by have := h.1; have := h.2; omega), nth_eq (show p.2 < xs.length by have := h.2; omega)]
    exact List.set_set_perm _ _
  · exact List.Perm.refl _
theorem run_perm {n : Nat} : ∀ {ps : List (Nat × Nat)} {xs : List Int}, (∀ p ∈ ps, okP n p) → xs.length = n → (run ps xs).Perm xs
  | [], xs, _, _ => List.Perm.refl _
  | p :: r, xs, h, hl => by
    have h1 := cx_perm (h p List.mem_cons_self) hl
    have h2 := run_perm (ps := r) (xs := cx p xs) (fun q hq => h q (List.mem_cons_of_mem _ hq)) (by rw [cx_len]; exact hl)
    exact h2.trans h1
def ordB (xs : List Int) : Bool := chB (fun a b => decide (a ≤ b)) xs
/-- in order, just if it is the row in order -/
theorem ord_iff {n : Nat} {ps : List (Nat × Nat)} {xs : List Int} (h : ∀ p ∈ ps, okP n p) (hl : xs.length = n) : ordB (run ps xs) = true ↔ run ps xs = sortI xs := by
  constructor
  · intro q
    exact srt_uniq (chB_pw.mp q) (srt_ord xs) ((run_perm h hl).trans (srt_perm xs).symm)
  · intro q
    rw [q]; exact chB_pw.mpr (srt_ord xs)
/-! rows of 0 and 1 -/
def th (t : Int) (xs : List Int) : List Int := xs.map fun x => if t ≤ x then 1 else 0
theorem nth_th {t : Int} {xs : List Int} {i : Nat} (h : i < xs.length) : nth (th t xs) i = if t ≤ nth xs i then 1 else 0 := by
  unfold th nth
  rw [List.getElem?_map, List.getElem?_eq_getElem h]; rfl
theorem set_self {xs : List Int} {i : Nat} (h : i < xs.length) : xs.set i (nth xs i) = xs := by
  rw [nth_eq h]; exact List.set_getElem_self h
theorem cx_th {n : Nat} {p : Nat × Nat} {xs : List Int} (t : Int) (h : okP n p) (hl : xs.length = n) : cx p (th t xs) = th t (cx p xs) := by
  have h1 : p.1 < xs.length := by have := h.1; have := h.2; omega
  have h2 : p.2 < xs.length := by have := h.2; omega
  have hne : p.1 ≠ p.2 := by have := h.1; omega
  have ht : (th t xs).length = xs.length := by simp [th]
  have hm : th t ((xs.set p.1 (nth xs p.2)).set p.2 (nth xs p.1)) = ((th t xs).set p.1 (nth (th t xs) p.2)).set p.2 (nth (th t xs) p.1) := by
    unfold th
    rw [List.map_set, List.map_set]
    have e1 := nth_th (t := t) h1
    have e2 := nth_th (t := t) h2
    unfold th at e1 e2
    rw [e1, e2]
  unfold cx
  by_cases c : nth xs p.1 > nth xs p.2
  · rw [if_pos c, hm]
    by_cases d : nth (th t xs) p.1 > nth (th t xs) p.2
    · rw [if_pos d]
    · rw [if_neg d]
      have e : nth (th t xs) p.1 = nth (th t xs) p.2 := by
        rw [nth_th h1, nth_th h2] at d ⊢
        split <;> split <;> simp_all <;> omega
      rw [← e, set_self (by omega), e, set_self (by omega)]
  · rw [if_neg c, if_neg]
    rw [nth_th h1, nth_th h2]
    split <;> split <;> omega
theorem run_th {n : Nat} (t : Int) : ∀ {ps : List (Nat × Nat)} {xs : List Int}, (∀ p ∈ ps, okP n p) → xs.length = n → run ps (th t xs) = th t (run ps xs)
  | [], xs, _, _ => rfl
  | p :: r, xs, h, hl => by
    show run r (cx p (th t xs)) = th t (run r (cx p xs))
    rw [cx_th t (h p List.mem_cons_self) hl]
    exact run_th t (fun q hq => h q (List.mem_cons_of_mem _ hq)) (by rw [cx_len]; exact hl)
def isBits (n : Nat) (xs : List Int) : Prop := xs.length = n ∧ ∀ x ∈ xs, x = 0 ∨ x = 1
/-- what puts all rows of 0 and 1 in order does so with all rows -/
theorem zero_one {n : Nat} {ps : List (Nat × Nat)} (h : ∀ p ∈ ps, okP n p) (hb : ∀ xs, isBits n xs → ordB (run ps xs) = true) {xs : List Int} (hl : xs.length = n) : ordB (run ps xs) = true := by
  unfold ordB
  rw [chB_get]
  intro i hi
  rw [decide_eq_true_eq]
  rcases Int.lt_or_le (nth (run ps xs) (i + 1)) (nth (run ps xs) i) with q | q
  · exfalso
    have h1 := hb (th (nth (run ps xs) i) xs) ⟨by simp [th, hl], fun x hx => by
      obtain ⟨y, _, rfl⟩ := List.mem_map.mp hx
      split
      · exact .inr rfl
      · exact .inl rfl⟩
    rw [run_th _ h hl] at h1
    unfold ordB at h1
    rw [chB_get] at h1
    have h2 := h1 i (by simpa [th] using hi)
    rw [nth_th (by omega), nth_th hi, if_pos (Int.le_refl _), if_neg (by omega)] at h2
    simp at h2
  · exact q
/-- all rows of 0 and 1, in the two orders -/
def allR : Nat → List (List Int)
  | 0 => [[]]
  | n + 1 => (allR n).flatMap fun r => [r ++ [0], r ++ [1]]
def lawB : Nat → List (List Int)
  | 0 => [[]]
  | n + 1 => (lawB n).map (· ++ [0]) ++ (lawB n).map (· ++ [1])
theorem bits_snoc {n : Nat} {xs : List Int} : isBits (n + 1) xs ↔ ∃ r, isBits n r ∧ (xs = r ++ [0] ∨ xs = r ++ [1]) := by
  constructor
  · rintro ⟨h1, h2⟩
    rcases List.eq_nil_or_concat xs with e | ⟨r, x, e⟩
    · subst e; cases h1
    · rw [List.concat_eq_append] at e
      subst e
      refine ⟨r, ⟨by simpa using h1, fun y hy => h2 y (List.mem_append_left _ hy)⟩, ?_⟩
      rcases h2 x (by simp) with e | e
      · subst e; exact .inl rfl
      · subst e; exact .inr rfl
  · rintro ⟨r, ⟨h1, h2⟩, e⟩
    rcases e with e | e <;> subst e
    · exact ⟨by simp [h1], fun y hy => by
        rcases List.mem_append.mp hy with q | q
        · exact h2 y q
        · rw [List.mem_singleton] at q; exact .inl q⟩
    · exact ⟨by simp [h1], fun y hy => by
        rcases List.mem_append.mp hy with q | q
        · exact h2 y q
        · rw [List.mem_singleton] at q; exact .inr q⟩
theorem allR_mem : ∀ {n : Nat} {xs : List Int}, xs ∈ allR n ↔ isBits n xs
  | 0, xs => by
    simp only [allR, List.mem_singleton, isBits]
    exact ⟨fun h => by subst h; simp, fun h => List.length_eq_zero_iff.mp h.1⟩
  | n + 1, xs => by
    rw [bits_snoc]
    simp only [allR, List.mem_flatMap, List.mem_cons, List.not_mem_nil, or_false, allR_mem]
theorem lawB_mem : ∀ {n : Nat} {xs : List Int}, xs ∈ lawB n ↔ isBits n xs
  | 0, xs => by
    simp only [lawB, List.mem_singleton, isBits]
    exact ⟨fun h => by subst h; simp, fun h => List.length_eq_zero_iff.mp h.1⟩
  | n + 1, xs => by
    rw [bits_snoc]
    simp only [lawB, List.mem_append, List.mem_map, lawB_mem]
    constructor
    · rintro (⟨r, h, rfl⟩ | ⟨r, h, rfl⟩)
      · exact ⟨r, h, .inl rfl⟩
      · exact ⟨r, h, .inr rfl⟩
    · rintro ⟨r, h, rfl | rfl⟩
      · exact .inl ⟨r, h, rfl⟩
      · exact .inr ⟨r, h, rfl⟩
theorem allR_len : ∀ n, (allR n).length = 2 ^ n
  | 0 => rfl
  | n + 1 => by
    have : ∀ l : List (List Int), (l.flatMap fun r => [r ++ [0], r ++ [1]]).length = 2 * l.length := fun l => by
      induction l with
      | nil => rfl
      | cons x r ih => rw [List.flatMap_cons, List.length_append, ih, List.length_cons]; simp; omega
    rw [allR, this, allR_len n, Nat.pow_succ]; omega
theorem lawB_len : ∀ n, (lawB n).length = 2 ^ n
  | 0 => rfl
  | n + 1 => by rw [lawB, List.length_append, List.length_map, List.length_map, lawB_len n, Nat.pow_succ]; omega
/-- the made ones -/
def madeP (n : Nat) : List (Nat × Nat) := (List.range n).flatMap fun t => ((List.range ((n - 1 - t % 2 + 1) / 2)).map fun k => (t % 2 + 2 * k, t % 2 + 2 * k + 1))
theorem madeP_ok : ∀ n, n ≤ 5 → ∀ p ∈ madeP n, okP n p := by
  intro n hn
  have : n = 0 ∨ n = 1 ∨ n = 2 ∨ n = 3 ∨ n = 4 ∨ n = 5 := by omega
  rcases this with rfl | rfl | rfl | rfl | rfl | rfl <;> (unfold okP; decide)
theorem madeP_bits : ∀ n, n ≤ 5 → (allR n).all (fun xs => ordB (run (madeP n) xs)) = true := by
  intro n hn
  have : n = 0 ∨ n = 1 ∨ n = 2 ∨ n = 3 ∨ n = 4 ∨ n = 5 := by omega
  rcases this with rfl | rfl | rfl | rfl | rfl | rfl <;> decide +kernel
theorem madeP_sorts {n : Nat} (hn : n ≤ 5) {xs : List Int} (hl : xs.length = n) : run (madeP n) xs = sortI xs :=
  (ord_iff (madeP_ok n hn) hl).mp (zero_one (madeP_ok n hn) (fun ys hy => List.all_eq_true.mp (madeP_bits n hn) ys (allR_mem.mpr hy)) hl)
end VI
set_option Elab.async false
set_option linter.all false
set_option maxRecDepth 100000
set_option maxHeartbeats 1000000
namespace VI
open PySem
def rowN (p : Nat × Nat) : D := .tuple [.int (p.1 : Nat), .int (p.2 : Nat)]
def sorterD (n : Nat) (ps : List (Nat × Nat)) : D := .tuple [.str "sorter", .int (n : Nat), .tuple (ps.map rowN)]
theorem stI_at {k : Nat} {ds : List D} {d : D} {S : Store} (h : k < ds.length) : stI (.loc 0) (.p (.int (k : Int))) (.pl ds :: S) d = some (.pl (ds.set k d) :: S) := by
  unfold stI ixN
  simp only [List.getElem?_cons_zero]
  rw [if_pos (by omega), if_pos (by omega)]
  simp
theorem run_take {ps : List (Nat × Nat)} {xs : List Int} {j : Nat} {p : Nat × Nat} (h : ps[j]? = some p) : run (ps.take (j + 1)) xs = cx p (run (ps.take j) xs) := by
  unfold run
  rw [List.take_succ, h, List.foldl_append]; rfl
theorem row_get {ps : List (Nat × Nat)} {j : Nat} {d : D} (h : (ps.map rowN)[j]? = some d) : ∃ p, ps[j]? = some p ∧ d = .tuple [.int (p.1 : Nat), .int (p.2 : Nat)] := by
  rw [List.getElem?_map, Option.map_eq_some_iff] at h
  obtain ⟨p, h1, h2⟩ := h
  exact ⟨p, h1, h2.symm⟩
theorem s_sorted_by {G : Glob} {n m : Nat} {ps : List (Nat × Nat)} {xs : List Int} (h : ∀ p ∈ ps, okP n p) (hl : xs.length = n) (hn : n ≤ 1000) : fnRun G F_p_sorted_by [.p (sorterD m ps), .p (tupI xs)] [] = some (.nw (.pl ((run ps xs).map .int)), []) := by
  apply wp_eq
  apply fn_wp
  simp only [F_p_sorted_by, sorterD]
  simp -dsimp
  rw [show ps.length = (ps.map rowN).length by simp]
  refine for_wp (fun j env S => env = [some (.p (sorterD m ps)), some (.p (tupI xs)), some (.loc 0), none, none] ∧ S = [.pl ((run (ps.take j) xs).map .int)]) ⟨rfl, rfl⟩ ?_ ?_
  · rintro j d env S hd ⟨rfl, rfl⟩
    obtain ⟨p, hp, rfl⟩ := row_get hd
    obtain ⟨p1, p2⟩ := h p (List.mem_of_getElem? hp)
    rw [run_take hp]
    have hrl : (run (ps.take j) xs).length = n := by rw [run_len, hl]
    generalize run (ps.take j) xs = ys at hrl
    have g1 : (ys.map PyData.int)[p.1]? = some (.int (nth ys p.1)) := getI (by omega)
    have g2 : (ys.map PyData.int)[p.2]? = some (.int (nth ys p.2)) := getI (by omega)
    have st1 := fun d => stI_at (k := p.1) (ds := ys.map PyData.int) (d := d) (S := []) (by simp; omega)
    have st2 := fun d e => stI_at (k := p.2) (ds := (ys.map PyData.int).set p.1 e) (d := d) (S := []) (by simp; omega)
    simp only [B_p_sorted_by_1]
    simp -dsimp [-List.getElem?_map, -List.map_set, g1, g2, st1, st2]
    unfold cx
    split
    · simp [sorterD]
    · simp [sorterD]
  · rintro env S ⟨rfl, rfl⟩
    rw [List.length_map, List.take_length]
    simp -dsimp
theorem minmax (a b : Int) : (if b < a then b else a) = (if a > b then b else a) ∧ (if b > a then b else a) = (if a > b then a else b) := by
  constructor
  · rfl
  · split <;> split <;> omega
theorem cx_min {n : Nat} {p : Nat × Nat} {xs : List Int} (h : okP n p) (hl : xs.length = n) : cx p xs = (xs.set p.1 (if nth xs p.2 < nth xs p.1 then nth xs p.2 else nth xs p.1)).set p.2 (if nth xs p.1 < nth xs p.2 then nth xs p.2 else nth xs p.1) := by
  have h1 : p.1 < xs.length := by have := h.1; have := h.2; omega
  have h2 : p.2 < xs.length := by have := h.2; omega
  unfold cx
  by_cases c : nth xs p.1 > nth xs p.2
  · rw [if_pos c, if_pos (by omega), if_neg (by omega)]
  · rw [if_neg c, if_neg (by omega), set_self h1]
    by_cases d : nth xs p.1 < nth xs p.2
    · rw [if_pos d, set_self h2]
    · rw [if_neg d, show nth xs p.1 = nth xs p.2 by omega, set_self h2]
theorem s_law_run {G : Glob} {n : Nat} {ps : List (Nat × Nat)} {xs : List Int} (h : ∀ p ∈ ps, okP n p) (hl : xs.length = n) (hn : n ≤ 1000) : fnRun G F_law_run [.p (.tuple (ps.map rowN)), .p (tupI xs)] [] = some (.nw (.pl ((run ps xs).map .int)), []) := by
  apply wp_eq
  apply fn_wp
  simp only [F_law_run]
  simp -dsimp
  rw [show ps.length = (ps.map rowN).length by simp]
  refine for_wp (fun j env S => env = [some (.p (.tuple (ps.map rowN))), some (.p (tupI xs)), some (.loc 0), none, none] ∧ S = [.pl ((run (ps.take j) xs).map .int)]) ⟨rfl, rfl⟩ ?_ ?_
  · rintro j d env S hd ⟨rfl, rfl⟩
    obtain ⟨p, hp, rfl⟩ := row_get hd
    have hok := h p (List.mem_of_getElem? hp)
    obtain ⟨p1, p2⟩ := id hok
    rw [run_take hp]
    have hrl : (run (ps.take j) xs).length = n := by rw [run_len, hl]
    generalize run (ps.take j) xs = ys at hrl
    have g1 : (ys.map PyData.int)[p.1]? = some (.int (nth ys p.1)) := getI (by omega)
    have g2 : (ys.map PyData.int)[p.2]? = some (.int (nth ys p.2)) := getI (by omega)
    have st1 := fun d => stI_at (k := p.1) (ds := ys.map PyData.int) (d := d) (S := []) (by simp; omega)
    have st2 := fun d e => stI_at (k := p.2) (ds := (ys.map PyData.int).set p.1 e) (d := d) (S := []) (by simp; omega)
    rw [cx_min hok hrl]
    simp only [B_law_run_1]
    simp -dsimp [-List.getElem?_map, -List.map_set, g1, g2, st1, st2]
    simp
  · rintro env S ⟨rfl, rfl⟩
    rw [List.length_map, List.take_length]
    simp -dsimp
theorem s_in_order {G : Glob} {xs : List Int} (hl : xs.length ≤ 10000) : fnRun G F_p_in_order [.p (.list (xs.map .int))] [] = some (.p (.bool (ordB xs)), []) := by
  apply wp_eq
  apply fn_wp
  simp only [F_p_in_order]
  have hrl : (rngL 0 ((xs.length : Int) - 1)).length ≤ L := by rw [rng_len, L_eq]; omega
  have key : (rngL 0 ((xs.length : Int) - 1)).all (fun d => match d with
      | .int i => decide (nth xs i.toNat ≤ nth xs (i.toNat + 1))
      | _ => false) = ordB xs := by
    unfold ordB
    rw [Bool.eq_iff_iff, rng_all, chB_get]
    constructor
    · intro q i hi
      have := q i (by omega)
      simpa using this
    · intro q j hj
      have := q j (by omega)
      simpa using this
  simp -dsimp
  refine ⟨by omega, Wp.of (comp_map (fun d => .bool (match d with
    | .int i => decide (nth xs i.toNat ≤ nth xs (i.toNat + 1))
    | _ => false)) (fun z hz => ?_) hrl) ?_⟩
  · obtain ⟨j, hj, rfl⟩ := rng_mem hz
    have g1 : atI (xs.map PyData.int) (j : Int) = some (.int (nth xs j)) := by rw [atI_nat, getI (by omega)]
    have g2 : atI (xs.map PyData.int) ((j : Int) + 1) = some (.int (nth xs (j + 1))) := by rw [show (j : Int) + 1 = ((j + 1 : Nat) : Int) by omega, atI_nat, getI (by omega)]
    apply wp_eq
    simp -dsimp [-atI_nat, g1, g2]
  · simp -dsimp
    exact key
theorem s_all_rows {G : Glob} {n : Nat} (h1 : 1 ≤ n) (hn : n ≤ 5) : fnRun G F_p_all_rows [.p (.int (n : Nat))] [] = some (.nw (.pl ((allR n).map tupI)), []) := by
  have : n = 1 ∨ n = 2 ∨ n = 3 ∨ n = 4 ∨ n = 5 := by omega
  rcases this with rfl | rfl | rfl | rfl | rfl <;> rfl
theorem s_law_bits {G : Glob} {n : Nat} (h1 : 1 ≤ n) (hn : n ≤ 5) : fnRun G F_law_bits [.p (.int (n : Nat))] [] = some (.nw (.pl ((lawB n).map tupI)), []) := by
  have : n = 1 ∨ n = 2 ∨ n = 3 ∨ n = 4 ∨ n = 5 := by omega
  rcases this with rfl | rfl | rfl | rfl | rfl <;> rfl
theorem s_made_sorter {G : Glob} {n : Nat} (h1 : 1 ≤ n) (hn : n ≤ 5) : fnRun G F_made_sorter [.p (.int (n : Nat))] [] = some (.p (sorterD n (madeP n)), []) := by
  have : n = 1 ∨ n = 2 ∨ n = 3 ∨ n = 4 ∨ n = 5 := by omega
  rcases this with rfl | rfl | rfl | rfl | rfl <;> rfl
end VI
set_option Elab.async false
set_option linter.all false
set_option maxRecDepth 100000
set_option maxHeartbeats 1000000
namespace VI
open PySem
def firstBad (ps : List (Nat × Nat)) : List (List Int) → Option (List Int)
  | [] => none
  | x :: r => if ordB (run ps x) = true then firstBad ps r else some x
def toldS (n : Nat) (ps : List (Nat × Nat)) : D := match firstBad ps (allR n) with
  | some x => .tuple [.str "fails", tupI x]
  | none => .tuple [.str "sorts"]
theorem firstBad_some {ps : List (Nat × Nat)} : ∀ {rs : List (List Int)} {x : List Int}, firstBad ps rs = some x → x ∈ rs ∧ ordB (run ps x) = false
  | [], x, h => by cases h
  | y :: r, x, h => by
    unfold firstBad at h
    split at h
    · obtain ⟨a, b⟩ := firstBad_some h
      exact ⟨List.mem_cons_of_mem _ a, b⟩
    · rename_i c
      cases h
      exact ⟨List.mem_cons_self, by simpa using c⟩
theorem firstBad_none {ps : List (Nat × Nat)} : ∀ {rs : List (List Int)}, firstBad ps rs = none ↔ ∀ x ∈ rs, ordB (run ps x) = true
  | [] => by simp [firstBad]
  | y :: r => by
    unfold firstBad
    split
    · rename_i c
      rw [firstBad_none]
      exact ⟨fun h x hx => by
        rcases List.mem_cons.mp hx with e | hx
        · subst e; exact c
        · exact h x hx, fun h x hx => h x (List.mem_cons_of_mem _ hx)⟩
    · rename_i c
      exact ⟨fun h => (by cases h), fun h => absurd (h y List.mem_cons_self) c⟩
theorem s_sorts {G : Glob} {ca co cs n : Nat} {ps : List (Nat × Nat)} (hn : n ≤ 1000)
    (ha : ∀ S, G.call ca [.p (.int (n : Nat))] S = some (.nw (.pl ((allR n).map tupI)), S)) (ho : ∀ (xs : List Int) S, xs.length = n → G.call co [.p (.list (xs.map .int))] S = some (.p (.bool (ordB xs)), S))
    (hs : ∀ (xs : List Int) S, xs.length = n → G.call cs [.p (sorterD n ps), .p (tupI xs)] S = some (.nw (.pl ((run ps xs).map .int)), S)) :
    fnRun G (F_sorts ca co cs) [.p (sorterD n ps)] [] = some (.p (toldS n ps), []) := by
  apply wp_eq
  apply fn_wp
  simp only [F_sorts]
  have hix : ixD (sorterD n ps) (.int 1) = some (.int (n : Nat)) := rfl
  have hsd : sorterD n ps = .tuple [.str "sorter", .int (n : Nat), .tuple (ps.map rowN)] := rfl
  rw [hsd] at hs ⊢
  simp -dsimp [ha]
  rw [show (allR n).length = ((allR n).map tupI).length by simp]
  refine for_wp (fun j env S => env = [some (.p (.tuple [.str "sorter", .int (n : Nat), .tuple (ps.map rowN)])), none] ∧ S = [] ∧ firstBad ps (allR n) = firstBad ps ((allR n).drop j)) ⟨rfl, rfl, rfl⟩ ?_ ?_
  · rintro j d env S hd ⟨rfl, rfl, hf⟩
    rw [List.getElem?_map, Option.map_eq_some_iff] at hd
    obtain ⟨xs, hx, rfl⟩ := hd
    obtain ⟨hjl, e⟩ := List.getElem?_eq_some_iff.mp hx
    have hxl := (allR_mem.mp (List.mem_of_getElem? hx)).1
    have hdr : (allR n).drop j = xs :: (allR n).drop (j + 1) := by rw [← e]; exact List.drop_eq_getElem_cons hjl
    rw [hdr, show firstBad ps (xs :: (allR n).drop (j + 1)) = if ordB (run ps xs) = true then firstBad ps ((allR n).drop (j + 1)) else some xs from rfl] at hf
    simp only [B_sorts_1]
    by_cases c : ordB (run ps xs) = true
    · simp -dsimp [hs _ _ hxl, ho (run ps xs) _ (by rw [run_len]; exact hxl), c]
      rw [if_pos c] at hf
      exact hf
    · simp -dsimp [hs _ _ hxl, ho (run ps xs) _ (by rw [run_len]; exact hxl), c]
      rw [if_neg c] at hf
      unfold toldS
      rw [hf]
  · rintro env S ⟨rfl, rfl, hf⟩
    rw [List.length_map, List.drop_length] at hf
    simp -dsimp
    unfold toldS
    rw [hf]; rfl
/-! ### turns -/
def dp (p : Nat × Nat) (ts : List Int) : List Int := (ts.set p.1 (1 + if nth ts p.2 > nth ts p.1 then nth ts p.2 else nth ts p.1)).set p.2 (1 + if nth ts p.2 > nth ts p.1 then nth ts p.2 else nth ts p.1)
def deps (ps : List (Nat × Nat)) (ts : List Int) : List Int := ps.foldl (fun ts p => dp p ts) ts
theorem deps_len (ps : List (Nat × Nat)) : ∀ ts : List Int, (deps ps ts).length = ts.length := by
  unfold deps
  induction ps with
  | nil => intro xs; rfl
  | cons p r ih => intro xs; rw [List.foldl_cons, ih]; simp [dp]
theorem deps_take {ps : List (Nat × Nat)} {xs : List Int} {j : Nat} {p : Nat × Nat} (h : ps[j]? = some p) : deps (ps.take (j + 1)) xs = dp p (deps (ps.take j) xs) := by
  unfold deps
  rw [List.take_succ, h, List.foldl_append]; rfl
def depN (n : Nat) (ps : List (Nat × Nat)) : Int := (maxI (deps ps (List.replicate n 0))).getD 0
theorem depN_some {n : Nat} {ps : List (Nat × Nat)} (h : 1 ≤ n) : maxI (deps ps (List.replicate n 0)) = some (depN n ps) := by
  obtain ⟨m, h1, _⟩ := maxI_get (xs := deps ps (List.replicate n 0)) (fun e => by
    have := deps_len ps (List.replicate n 0)
    rw [e] at this; simp at this; omega)
  unfold depN; rw [h1]; rfl
theorem s_depth_of {G : Glob} {n : Nat} {ps : List (Nat × Nat)} (h : ∀ p ∈ ps, okP n p) (h1 : 1 ≤ n) (hn : n ≤ 1000) : fnRun G F_depth_of [.p (sorterD n ps)] [] = some (.p (.int (depN n ps)), []) := by
  apply wp_eq
  apply fn_wp
  have hsd : sorterD n ps = .tuple [.str "sorter", .int (n : Nat), .tuple (ps.map rowN)] := rfl
  rw [hsd]
  simp only [F_depth_of]
  simp -dsimp
  have hrep : List.replicate n (PyData.int 0) = (deps (ps.take 0) (List.replicate n 0)).map .int := by simp [deps]
  refine ⟨⟨by omega, by omega⟩, ?_⟩
  rw [show ps.length = (ps.map rowN).length by simp, hrep]
  refine for_wp (fun j env S => env = [some (.p (.tuple [.str "sorter", .int (n : Nat), .tuple (ps.map rowN)])), some (.loc 0), none, none, none] ∧ S = [.pl ((deps (ps.take j) (List.replicate n 0)).map .int)]) ⟨rfl, rfl⟩ ?_ ?_
  · rintro j d env S hd ⟨rfl, rfl⟩
    obtain ⟨p, hp, rfl⟩ := row_get hd
    obtain ⟨p1, p2⟩ := h p (List.mem_of_getElem? hp)
    rw [deps_take hp]
    have hrl : (deps (ps.take j) (List.replicate n 0)).length = n := by rw [deps_len]; simp
    generalize deps (ps.take j) (List.replicate n 0) = ys at hrl
    have g1 : (ys.map PyData.int)[p.1]? = some (.int (nth ys p.1)) := getI (by omega)
    have g2 : (ys.map PyData.int)[p.2]? = some (.int (nth ys p.2)) := getI (by omega)
    have st1 := fun d => stI_at (k := p.1) (ds := ys.map PyData.int) (d := d) (S := []) (by simp; omega)
    have st2 := fun d e => stI_at (k := p.2) (ds := (ys.map PyData.int).set p.1 e) (d := d) (S := []) (by simp; omega)
    simp only [B_depth_of_1]
    simp -dsimp [-List.getElem?_map, -List.map_set, g1, g2, st1, st2]
    simp [dp]
  · rintro env S ⟨rfl, rfl⟩
    rw [List.length_map, List.take_length]
    simp -dsimp [depN_some h1]
theorem s_law_fails {G : Glob} {cw cr n : Nat} {ps : List (Nat × Nat)} {xs : List Int} (h : ∀ p ∈ ps, okP n p) (hx : isBits n xs) (hn : n ≤ 1000)
    (hw : ∀ (i : Int) S, G.call cw [.p (.int i), .p (.int 0), .p (.int 1)] S = some (.p (.bool (isB 0 1 (.int i))), S)) (hr : ∀ S, G.call cr [.p (.tuple (ps.map rowN)), .p (tupI xs)] S = some (.nw (.pl ((run ps xs).map .int)), S)) :
    fnRun G (F_law_fails cw cr) [.p (sorterD n ps), .p (tupI xs)] [] = some (.p (.bool (!ordB (run ps xs))), []) := by
  apply wp_eq
  apply fn_wp
  have hsd : sorterD n ps = .tuple [.str "sorter", .int (n : Nat), .tuple (ps.map rowN)] := rfl
  rw [hsd]
  simp only [F_law_fails]
  obtain ⟨h1, h2⟩ := hx
  simp -dsimp [h1]
  refine Wp.of (comp_sel (xs := xs) .int (fun _ => false) (fun _ => .int 1) (fun x hx => ?_) (by rw [L_eq]; omega) (by omega)) ?_
  · apply wp_eq
    have : isB 0 1 (.int x) = true := by
      rcases h2 x hx with rfl | rfl <;> rfl
    simp -dsimp [hw, this]
  · have e0 : xs.filter (fun _ => false) = [] := by simp
    have ht : ((run ps xs == sortI xs) : Bool) = ordB (run ps xs) := by
      rw [Bool.eq_iff_iff, beq_iff_eq]
      exact (ord_iff h h1).symm
    have hev : PyData.eqvAll ((run ps xs).map .int) ((sortI xs).map .int) = ordB (run ps xs) := by
      rw [← ht]
      have : ∀ a b : List Int, PyData.eqvAll (a.map .int) (b.map .int) = (a == b) := by
        intro a
        induction a with
        | nil => intro b; cases b <;> simp
        | cons x r ih => intro b; cases b with
          | nil => simp
          | cons y s => simp [ih]
      exact this _ _
    simp -dsimp [e0, shaped_nil, hr, shaped_ints, hev]
end VI
set_option Elab.async false
set_option linter.all false
set_option maxRecDepth 100000
set_option maxHeartbeats 1000000
namespace VI
open PySem
def sortsT : D := .tuple [.str "sorts"]
theorem told_shaped {n : Nat} {ps : List (Nat × Nat)} (hn : n ≤ 1000) : nice 1000 3 (toldS n ps) = true := by
  unfold toldS
  split
  · rename_i x hx
    have hl := (allR_mem.mp (firstBad_some hx).1).1
    rw [nice_tuple]
    refine ⟨by simp, fun y hy => ?_⟩
    simp only [List.mem_cons, List.not_mem_nil, or_false] at hy
    rcases hy with rfl | rfl
    · have h1 : PyData.strOk (Str.ofString "fails") = true := by decide +kernel
      have h2 : (Str.ofString "fails").length ≤ 1000 := by decide +kernel
      simp [nice, h1, h2]
    · rw [nice_tuple]
      refine ⟨by simp; omega, fun z hz => ?_⟩
      obtain ⟨w, _, rfl⟩ := List.mem_map.mp hz
      rfl
  · decide +kernel
theorem s_is_sorts1 {G : Glob} {cs cb co cy n : Nat} {ps : List (Nat × Nat)} (hn : n ≤ 1000) (hs : ∀ S, G.call cs [.p (sorterD n ps)] S = some (.p (toldS n ps), S)) :
    fnRun G (F_is_sorts cs cb co cy) [.p (sorterD n ps), .p sortsT] [] = some (.p (.bool (firstBad ps (allR n)).isNone), []) := by
  apply wp_eq
  apply fn_wp
  have hst : sortsT = .tuple [.str "sorts"] := rfl
  have sh1 : SeqAt.shaped (.tuple [.str "sorts"]) = true := by decide +kernel
  have sh2 : SeqAt.shaped (toldS n ps) = true := nice_shaped (told_shaped hn) (by decide)
  have he : PyData.eqv (toldS n ps) (.tuple [.str "sorts"]) = (firstBad ps (allR n)).isNone := by
    unfold toldS
    cases firstBad ps (allR n) with
    | none => simp
    | some x => simp
  rw [hst]
  simp only [F_is_sorts]
  simp -dsimp [sh1, sh2, hs, he]
theorem s_is_sorts2 {G : Glob} {cs cb co cy n : Nat} {ps : List (Nat × Nat)} {xs : List Int} (hn : n ≤ 1000) (hx : isBits n xs) 
    (hb : ∀ (i : Int) S, G.call cb [.p (.int i), .p (.int 0), .p (.int 1)] S = some (.p (.bool (isB 0 1 (.int i))), S)) (ho : ∀ (xs : List Int) S, xs.length = n → G.call co [.p (.list (xs.map .int))] S = some (.p (.bool (ordB xs)), S))
    (hy : ∀ S, G.call cy [.p (sorterD n ps), .p (tupI xs)] S = some (.nw (.pl ((run ps xs).map .int)), S)) :
    fnRun G (F_is_sorts cs cb co cy) [.p (sorterD n ps), .p (.tuple [.str "fails", tupI xs])] [] = some (.p (.bool (!ordB (run ps xs))), []) := by
  apply wp_eq
  apply fn_wp
  obtain ⟨h1, h2⟩ := hx
  have sh1 : SeqAt.shaped (.tuple [.str "sorts"]) = true := by decide +kernel
  have sh2 : SeqAt.shaped (.tuple [.str "fails", tupI xs]) = true := by
    refine nice_shaped (m := 1000) (k := 3) ?_ (by decide)
    rw [nice_tuple]
    refine ⟨by simp, fun y hy => ?_⟩
    simp only [List.mem_cons, List.not_mem_nil, or_false] at hy
    rcases hy with rfl | rfl
    · have h1 : PyData.strOk (Str.ofString "fails") = true := by decide +kernel
      have h2 : (Str.ofString "fails").length ≤ 1000 := by decide +kernel
      simp [nice, h1, h2]
    · rw [nice_tuple]
      refine ⟨by simp; omega, fun z hz => ?_⟩
      obtain ⟨w, _, rfl⟩ := List.mem_map.mp hz
      rfl
  have hsd : sorterD n ps = .tuple [.str "sorter", .int (n : Nat), .tuple (ps.map rowN)] := rfl
  rw [hsd] at hy ⊢
  simp only [F_is_sorts]
  simp -dsimp [sh1, sh2, h1]
  refine Wp.of (comp_mapA (xs := xs) .int (fun _ => .bool true) (fun x hx => ?_) (by rw [L_eq]; omega) (by omega)) ?_
  · apply wp_eq
    have : isB 0 1 (.int x) = true := by
      rcases h2 x hx with rfl | rfl <;> rfl
    simp -dsimp [hb, this]
  · have ea : (xs.map fun _ => true).all id = true := by rw [List.all_map, List.all_eq_true]; intro _ _; rfl
    simp -dsimp [-List.all_map, -List.map_map, -List.map_const', ea, hy, ho _ _ (show (run ps xs).length = n by rw [run_len]; exact h1)]
/-! ### which things are sorters -/
def lessD (z : D) : Bool := match fstD z, sndD z with
  | .int a, .int b => decide (a < b)
  | _, _ => false
def pairB (m : Int) (z : D) : Bool := isT2 z && (isB 0 (m - 1) (fstD z) && (isB 0 (m - 1) (sndD z) && lessD z))
def sorterB : D → Bool
  | .tuple [x, .int m, .tuple ps] => isStr "sorter" x && (decide (1 ≤ m) && (decide (m ≤ 8) && (decide (ps.length ≤ 40) && ps.all (pairB m))))
  | _ => false
theorem s_is_pair_of {G : Glob} {cp cb mm k : Nat} {m : Int} {z : D} (h : nice mm (k + 1) z = true) (hp : ∀ S, G.call cp [.p z] S = some (.p (.bool (isT2 z)), S)) (hb : ∀ z a b S, nice mm k z = true → G.call cb [.p z, .p (.int a), .p (.int b)] S = some (.p (.bool (isB a b z)), S)) :
    fnRun G (F_p_is_pair_of cp cb) [.p (.int m), .p z] [] = some (.p (.bool (pairB m z)), []) := by
  apply wp_eq
  apply fn_wp
  simp only [F_p_is_pair_of]
  by_cases h2 : isT2 z = true
  · have ez := isT2_get h2
    have hn := h
    rw [ez, nice_tuple] at hn
    have hn1 := hn.2 (fstD z) (by simp)
    have hn2 := hn.2 (sndD z) (by simp)
    have e1 : pairB m z = (isB 0 (m - 1) (fstD z) && (isB 0 (m - 1) (sndD z) && lessD z)) := by unfold pairB; rw [h2]; rfl
    have e2 : lessD z = match fstD z, sndD z with
      | .int a, .int b => decide (a < b)
      | _, _ => false := rfl
    rw [e1, e2]
    generalize fstD z = a at ez hn1 hn2
    generalize sndD z = b at ez hn1 hn2
    subst ez
    by_cases c1 : isB 0 (m - 1) a = true
    · by_cases c2 : isB 0 (m - 1) b = true
      · obtain ⟨i, rfl, _⟩ := isB_int c1
        obtain ⟨j, rfl, _⟩ := isB_int c2
        simp -dsimp [hp, h2, hb _ _ _ _ hn1, hb _ _ _ _ hn2, c1, c2]
      · simp -dsimp [hp, h2, hb _ _ _ _ hn1, hb _ _ _ _ hn2, c1, c2]
    · simp -dsimp [hp, h2, hb _ _ _ _ hn1, c1]
  · simp -dsimp [hp, h2, pairB]
theorem sorterB_no1 {x y z : D} (h : isStr "sorter" x = false) : sorterB (.tuple [x, y, z]) = false := by
  cases y <;> cases z <;> simp [sorterB, h]
theorem sorterB_no2 {x y z : D} (h : isB 1 8 y = false) : sorterB (.tuple [x, y, z]) = false := by
  cases y with
  | int m =>
    cases z with
    | tuple ps =>
      simp [isB] at h
      simp [sorterB]
      intro _ h1 h2
      have := h h1; omega
    | _ => simp [sorterB]
  | _ => cases z <;> simp [sorterB]
theorem sorterB_no3 {ds : List D} (h : ¬ ds.length = 3) : sorterB (.tuple ds) = false := by
  match ds, h with
  | [], _ => rfl
  | [_], _ => rfl
  | [x, y], _ => cases y <;> rfl
  | [_, _, _], h => exact absurd rfl h
  | a :: b :: c :: e :: r, _ => cases b <;> cases c <;> rfl
theorem s_is_sorter {G : Glob} {cb cp mm k : Nat} {d : D} (hd : nice mm (k + 2) d = true) (hk : k ≤ 60) (hm : mm ≤ 1000) (hc0 : G.con 0 = some (.int 8)) (hc1 : G.con 1 = some (.int 40))
    (hb : ∀ z a b S, nice mm (k + 1) z = true → G.call cb [.p z, .p (.int a), .p (.int b)] S = some (.p (.bool (isB a b z)), S))
    (hp : ∀ (m : Int) z S, nice mm k z = true → G.call cp [.p (.int m), .p z] S = some (.p (.bool (pairB m z)), S)) : fnRun G (F_is_sorter cb cp) [.p d] [] = some (.p (.bool (sorterB d)), []) := by
  apply wp_eq
  apply fn_wp
  simp only [F_is_sorter]
  have hmp : ∀ (h : D → Bool) (l : List D), (l.map h).all id = l.all h := fun h l => by rw [List.all_map]; rfl
  have shs : SeqAt.shaped (.str "sorter") = true := by decide +kernel
  cases d with
  | dict _ => simp [nice] at hd
  | tuple ds =>
    by_cases hl : ds.length = 3
    · obtain ⟨x, y, z, rfl⟩ : ∃ x y z, ds = [x, y, z] := by
        match ds, hl with
        | [x, y, z], _ => exact ⟨x, y, z, rfl⟩
      rw [nice_tuple] at hd
      have hx := hd.2 x (by simp)
      have hy := hd.2 y (by simp)
      have hz := hd.2 z (by simp)
      have shx := nice_shaped hx (by omega)
      have ex : PyData.eqv x (.str "sorter") = isStr "sorter" x := by
        cases x <;> first | (simp [isStr]; done) | simp [PyData.eqv, isStr]
      by_cases cx : isStr "sorter" x = true
      · by_cases cy : isB 1 8 y = true
        · obtain ⟨m, rfl, m1, m2⟩ := isB_int cy
          cases z with
          | tuple ps =>
            rw [nice_tuple] at hz
            by_cases cl : ps.length ≤ 40
            · have cl' : ¬ ((40 : Int) < ps.length) := by omega
              simp -dsimp [shx, shs, ex, cx, hb _ _ _ _ hy, cy, hc0, hc1, cl']
              refine Wp.of (comp_map (fun z => .bool (pairB m z)) (fun z hz' => ?_) (Nat.le_trans hz.1 (by rw [L_eq]; omega))) ?_
              · apply wp_eq
                simp -dsimp [hp m z [] (hz.2 z hz')]
              · simp -dsimp [-List.all_map, -List.map_map, hmp, sorterB, cx, m1, m2, cl]
            · have cl' : ((40 : Int) < ps.length) := by omega
              simp -dsimp [shx, shs, ex, cx, hb _ _ _ _ hy, cy, hc0, hc1, cl', sorterB, cl]
          | dict _ => simp [nice] at hz
          | _ => simp -dsimp [shx, shs, ex, cx, hb _ _ _ _ hy, cy, hc0, sorterB]
        · simp -dsimp [shx, shs, ex, cx, hb _ _ _ _ hy, cy, hc0]
          exact sorterB_no2 (by simpa using cy)
      · simp -dsimp [shx, shs, ex, cx]
        exact sorterB_no1 (by simpa using cx)
    · have : ¬ ((ds.length : Int) = 3) := by omega
      simp -dsimp [this]
      exact sorterB_no3 hl
  | _ => simp -dsimp [sorterB]
theorem s_law_right58 {G : Glob} {cl cw mm k : Nat} {d : D} (hd : nice mm (k + 3) d = true) (hm : mm ≤ 1000)
    (hlk : ∀ z S, nice mm (k + 2) z = true → G.call cl [.p z, .p (.str "sorter")] S = some (.p (.bool (isStr "sorter" z)), S))
    (hb : ∀ z a b S, nice mm (k + 2) z = true → G.call cw [.p z, .p (.int a), .p (.int b)] S = some (.p (.bool (isB a b z)), S)) : fnRun G (F_law_right cl cw) [.p d] [] = some (.p (.bool (sorterB d)), []) := by
  apply wp_eq
  apply fn_wp
  simp only [F_law_right]
  have up : ∀ {z : D} {j : Nat}, nice mm j z = true → j ≤ k + 2 → nice mm (k + 2) z = true := fun h hj => nice_mono (Nat.le_refl _) hj h
  cases d with
  | dict _ => simp [nice] at hd
  | tuple ds =>
    by_cases hl : ds.length = 3
    · obtain ⟨x, y, z, rfl⟩ : ∃ x y z, ds = [x, y, z] := by
        match ds, hl with
        | [x, y, z], _ => exact ⟨x, y, z, rfl⟩
      rw [nice_tuple] at hd
      have hx := hd.2 x (by simp)
      have hy := hd.2 y (by simp)
      have hz := hd.2 z (by simp)
      by_cases cx : isStr "sorter" x = true
      · by_cases cy : isB 1 8 y = true
        · obtain ⟨m, rfl, m1, m2⟩ := isB_int cy
          cases z with
          | tuple ps =>
            rw [nice_tuple] at hz
            by_cases cl : ps.length ≤ 40
            · have cl' : ¬ ((40 : Int) < ps.length) := by omega
              simp -dsimp [hlk _ _ hx, cx, hb _ _ _ _ hy, cy, cl']
              refine Wp.of (comp_pure (bad1 (pairB m)) (fun z hz' => ?_) (Nat.le_trans hz.1 (by rw [L_eq]; omega))) ?_
              · have hn := hz.2 z hz'
                apply wp_eq
                cases z with
                | dict _ => simp [nice] at hn
                | tuple xs =>
                  by_cases h2 : xs.length = 2
                  · obtain ⟨a, b, rfl⟩ : ∃ a b, xs = [a, b] := by
                      match xs, h2 with
                      | [a, b], _ => exact ⟨a, b, rfl⟩
                    rw [nice_tuple] at hn
                    have hn1 := up (hn.2 a (by simp)) (by omega)
                    have hn2 := up (hn.2 b (by simp)) (by omega)
                    have e1 : pairB m (.tuple [a, b]) = (isB 0 (m - 1) a && (isB 0 (m - 1) b && lessD (.tuple [a, b]))) := rfl
                    by_cases c1 : isB 0 (m - 1) a = true
                    · by_cases c2 : isB 0 (m - 1) b = true
                      · obtain ⟨i, rfl, _⟩ := isB_int c1
                        obtain ⟨j, rfl, _⟩ := isB_int c2
                        have e2 : lessD (.tuple [.int i, .int j]) = decide (i < j) := rfl
                        by_cases c3 : i < j
                        · have c3' : ¬ j ≤ i := by omega
                          simp -dsimp [hb _ _ _ _ hn1, hb _ _ _ _ hn2, c1, c2, bad1, e1, e2, c3, c3']
                        · have c3' : j ≤ i := by omega
                          simp -dsimp [hb _ _ _ _ hn1, hb _ _ _ _ hn2, c1, c2, bad1, e1, e2, c3, c3']
                      · simp -dsimp [hb _ _ _ _ hn1, hb _ _ _ _ hn2, c1, c2, bad1, e1]
                    · simp -dsimp [hb _ _ _ _ hn1, c1, bad1, e1]
                  · have h2' : ¬ ((xs.length : Int) = 2) := by omega
                    have e1 : pairB m (.tuple xs) = false := by
                      have : isT2 (.tuple xs) = false := by rw [isT2_len]; simpa using h2
                      unfold pairB; rw [this]; rfl
                    simp -dsimp [h2', bad1, e1]
                | _ => simp -dsimp [bad1, pairB, isT2]
              · simp -dsimp [bad1_shaped, bad1_eqv, shaped_nil]
                simp [sorterB, cx, m1, m2, cl]
            · have cl' : ((40 : Int) < ps.length) := by omega
              simp -dsimp [hlk _ _ hx, cx, hb _ _ _ _ hy, cy, cl', sorterB, cl]
          | dict _ => simp [nice] at hz
          | _ => simp -dsimp [hlk _ _ hx, cx, hb _ _ _ _ hy, cy, sorterB]
        · simp -dsimp [hlk _ _ hx, cx, hb _ _ _ _ hy, cy]
          exact sorterB_no2 (by simpa using cy)
      · simp -dsimp [hlk _ _ hx, cx]
        exact sorterB_no1 (by simpa using cx)
    · have : ¬ ((ds.length : Int) = 3) := by omega
      simp -dsimp [this]
      exact sorterB_no3 hl
  | _ => simp -dsimp [sorterB]
end VI
set_option Elab.async false
set_option linter.all false
set_option maxRecDepth 100000
set_option maxHeartbeats 1000000
namespace VI
open PySem
section
variable {j n : Nat} {ps : List (Nat × Nat)} {xs : List Int} {S : Store}
theorem q_by (hj : 1 ≤ j) (h : ∀ p ∈ ps, okP n p) (hl : xs.length = n) (hn : n ≤ 1000) : runF cProg cCon j 5 [.p (sorterD n ps), .p (tupI xs)] S = some (.nw (.pl ((run ps xs).map .int)), S) := callP' (S0 := []) pr_p_sorted_by hj (s_sorted_by h hl hn) rfl rfl rfl S
theorem q_ord (hj : 1 ≤ j) (hl : xs.length ≤ 10000) : runF cProg cCon j 6 [.p (.list (xs.map .int))] S = some (.p (.bool (ordB xs)), S) := callP' (S0 := []) pr_p_in_order hj (s_in_order hl) rfl rfl rfl S
theorem q_all (hj : 1 ≤ j) (h1 : 1 ≤ n) (hn : n ≤ 5) : runF cProg cCon j 7 [.p (.int (n : Nat))] S = some (.nw (.pl ((allR n).map tupI)), S) := callP' (S0 := []) pr_p_all_rows hj (s_all_rows h1 hn) rfl rfl rfl S
theorem q_sorts (hj : 2 ≤ j) (h : ∀ p ∈ ps, okP n p) (h1 : 1 ≤ n) (hn : n ≤ 5) : runF cProg cCon j 8 [.p (sorterD n ps)] S = some (.p (toldS n ps), S) :=
  callP' (S0 := []) pr_sorts (by omega) (s_sorts (by omega) (fun S => q_all (by omega) h1 hn) (fun xs S hl => q_ord (by omega) (by omega)) (fun xs S hl => q_by (by omega) h hl (by omega))) rfl rfl rfl S
theorem q_betw (hj : 2 ≤ j) {d : D} {a b : Int} (h : noDict d = true) : runF cProg cCon j 1 [.p d, .p (.int a), .p (.int b)] S = some (.p (.bool (isB a b d)), S) := g_betw pr_is_between pr_is_whole hj h
theorem q_is1 (hj : 3 ≤ j) (h : ∀ p ∈ ps, okP n p) (h1 : 1 ≤ n) (hn : n ≤ 5) : runF cProg cCon j 9 [.p (sorterD n ps), .p (.tuple [.str "sorts"])] S = some (.p (.bool (firstBad ps (allR n)).isNone), S) :=
  callP' (S0 := []) pr_is_sorts (by omega) (s_is_sorts1 (by omega) (fun S => q_sorts (by omega) h h1 hn)) rfl rfl rfl S
theorem q_is2 (hj : 3 ≤ j) (h : ∀ p ∈ ps, okP n p) (hx : isBits n xs) (hn : n ≤ 5) : runF cProg cCon j 9 [.p (sorterD n ps), .p (.tuple [.str "fails", tupI xs])] S = some (.p (.bool (!ordB (run ps xs))), S) :=
  callP' (S0 := []) pr_is_sorts (by omega) (s_is_sorts2 (by omega) hx (fun i S => q_betw (by omega) rfl) (fun xs S hl => q_ord (by omega) (by omega)) (fun S => q_by (by omega) h hx.1 (by omega))) rfl rfl rfl S
theorem q_depth (hj : 1 ≤ j) (h : ∀ p ∈ ps, okP n p) (h1 : 1 ≤ n) (hn : n ≤ 5) : runF cProg cCon j 10 [.p (sorterD n ps)] S = some (.p (.int (depN n ps)), S) := callP' (S0 := []) pr_depth_of hj (s_depth_of h h1 (by omega)) rfl rfl rfl S
theorem q_made (hj : 1 ≤ j) (h1 : 1 ≤ n) (hn : n ≤ 5) : runF cProg cCon j 11 [.p (.int (n : Nat))] S = some (.p (sorterD n (madeP n)), S) := callP' (S0 := []) pr_made_sorter hj (s_made_sorter h1 hn) rfl rfl rfl S
theorem q_bits (hj : 1 ≤ j) (h1 : 1 ≤ n) (hn : n ≤ 5) : runF cProg cCon j 22 [.p (.int (n : Nat))] S = some (.nw (.pl ((lawB n).map tupI)), S) := callP' (S0 := []) pr_law_bits hj (s_law_bits h1 hn) rfl rfl rfl S
theorem q_run (hj : 1 ≤ j) (h : ∀ p ∈ ps, okP n p) (hl : xs.length = n) (hn : n ≤ 1000) : runF cProg cCon j 21 [.p (.tuple (ps.map rowN)), .p (tupI xs)] S = some (.nw (.pl ((run ps xs).map .int)), S) := callP' (S0 := []) pr_law_run hj (s_law_run h hl hn) rfl rfl rfl S
theorem q_fails (hj : 2 ≤ j) (h : ∀ p ∈ ps, okP n p) (hx : isBits n xs) (hn : n ≤ 5) : runF cProg cCon j 23 [.p (sorterD n ps), .p (tupI xs)] S = some (.p (.bool (!ordB (run ps xs))), S) :=
  callP' (S0 := []) pr_law_fails (by omega) (s_law_fails h hx (by omega) (fun i S => g_lw pr_law_whole (by omega) rfl) (fun S => q_run (by omega) h hx.1 (by omega))) rfl rfl rfl S
theorem q_pair (hj : 3 ≤ j) {m : Int} {z : D} (h : nice 13 3 z = true) : runF cProg cCon j 3 [.p (.int m), .p z] S = some (.p (.bool (pairB m z)), S) :=
  callP' (S0 := []) pr_p_is_pair_of (by omega) (s_is_pair_of (mm := 13) (k := 2) h (fun S => g_pair pr_is_pair (by omega) (nice_noDict h)) (fun z a b S hz => q_betw (by omega) (nice_noDict hz))) rfl rfl rfl S
theorem q_is (hj : 4 ≤ j) {d : D} (h : nice 13 5 d = true) : runF cProg cCon j 4 [.p d] S = some (.p (.bool (sorterB d)), S) :=
  callP' (S0 := []) pr_is_sorter (by omega) (s_is_sorter (mm := 13) (k := 3) h (by decide) (by decide) rfl rfl (fun z a b S hz => q_betw (by omega) (nice_noDict hz)) (fun m z S hz => q_pair (by omega) hz)) rfl rfl rfl S
theorem q_right (hj : 3 ≤ j) {d : D} (h : nice 13 5 d = true) : runF cProg cCon j 20 [.p d] S = some (.p (.bool (sorterB d)), S) :=
  callP' (S0 := []) pr_law_right (by omega) (s_law_right58 (mm := 13) (k := 2) h (by decide) (fun z S hz => g_like_str pr_law_like (by omega) hz (by decide) (by decide +kernel)) (fun z a b S hz => g_lw pr_law_whole (by omega) (nice_noDict hz))) rfl rfl rfl S
end
/-- a sorter, as a thing -/
theorem sorter_pure {n : Nat} {ps : List (Nat × Nat)} (hl : ps.length ≤ 12) : pure' 12 3 (sorterD n ps) = true := by
  unfold sorterD
  rw [pure_tuple]
  refine ⟨by simp, fun x hx => ?_⟩
  simp only [List.mem_cons, List.not_mem_nil, or_false] at hx
  rcases hx with rfl | rfl | rfl
  · decide +kernel
  · rfl
  · rw [pure_tuple]
    refine ⟨by simpa using hl, fun x hx => ?_⟩
    obtain ⟨p, _, rfl⟩ := List.mem_map.mp hx
    rw [rowN, pure_tuple]
    refine ⟨by simp, fun x hx => ?_⟩
    simp only [List.mem_cons, List.not_mem_nil, or_false] at hx
    rcases hx with rfl | rfl <;> rfl
theorem sorter_ok {n : Nat} {ps : List (Nat × Nat)} (h : ∀ p ∈ ps, okP n p) (h1 : 1 ≤ n) (hn : n ≤ 8) (hl : ps.length ≤ 40) : sorterB (sorterD n ps) = true := by
  have e : isStr "sorter" (.str "sorter") = true := by decide +kernel
  unfold sorterD
  simp only [sorterB, e, Bool.true_and, Bool.and_eq_true, decide_eq_true_eq, List.length_map, List.all_map, List.all_eq_true]
  refine ⟨by omega, by omega, hl, fun p hp => ?_⟩
  obtain ⟨a, b⟩ := h p hp
  simp [rowN, pairB, isT2, fstD, sndD, isB, lessD]
  omega
theorem wrong_nil {n : Nat} {ps : List (Nat × Nat)} : ((lawB n).filter fun xs => !ordB (run ps xs)) = [] ↔ firstBad ps (allR n) = none := by
  rw [firstBad_none, List.filter_eq_nil_iff]
  constructor
  · intro h x hx
    have := h x (lawB_mem.mpr (allR_mem.mp hx))
    simpa using this
  · intro h x hx
    have := h x (allR_mem.mpr (lawB_mem.mp hx))
    simpa using this
end VI
set_option Elab.async false
set_option linter.all false
set_option maxRecDepth 100000
set_option maxHeartbeats 1000000
namespace VI
open PySem
def R58 : Ss := (.cons (.ite (.or (.not (.e (.call 20 (.cons (.v 10) .nil)))) (.or (.e (.cmp .ne (.ix (.v 10) (.k (.int 1))) (.v 6))) (.or (.e (.cmp .ne (.lc (.v 13) (.nm 13) (.sq (.call 22 (.cons (.v 6) .nil))) (.so (.e (.call 23 (.cons (.v 10) (.cons (.v 13) .nil))))) [13]) (.lst .nil))) (.not (.e (.call 15 (.cons (.call 8 (.cons (.v 10) .nil)) (.cons (.tup (.cons (.k (.str "sorts")) .nil)) .nil)))))))) (.cons (.ret (.k (.bool false))) .nil) .nil) (.cons (.kill [4, 13]) (.cons (.for_ (.nm 4) (.rng (.k (.int 3))) (B_law_2 17 21)) (.cons (.kill [4, 13]) (.cons (.asg (.nm 5) (.bin .mul (.lst (.cons (.k (.int 0)) .nil)) (.v 6))) (.cons (.kill [8, 14, 15]) (.cons (.for_ (.tp (.cons (.nm 8) (.cons (.nm 14) .nil))) (.sq (.v 7)) B_law_3) (.cons (.kill [8, 14, 15]) (.cons (.ite (.or (.not (.e (.call 15 (.cons (.call 10 (.cons (.v 9) .nil)) (.cons (.bi .max (.cons (.v 5) .nil)) .nil))))) (.not (.e (.call 15 (.cons (.call 9 (.cons (.v 9) (.cons (.tup (.cons (.k (.str "sorts")) .nil)) .nil))) (.cons (.cmp .eq (.v 12) (.lst .nil)) .nil)))))) (.cons (.ret (.k (.bool false))) .nil) .nil) (.cons (.kill [4, 13, 16]) (.cons (.for_ (.nm 4) (.rng (.k (.int 5))) (B_law_4 14 15 9 23 19 4 20)) (.cons (.kill [4, 13, 16]) (.cons (.kill [2, 3, 4, 5, 6, 7, 8, 9, 10, 11, 12, 13, 14, 15, 16]) .nil)))))))))))))
theorem R58_eq : B_law_5 14 11 8 22 23 15 20 17 21 10 9 19 4 = (.cons (.par [6, 7] (.cons (.bin .add (.k (.int 1)) (.call 14 (.cons (.v 1) (.cons (.k (.int 5)) .nil)))) (.cons (.lst .nil) .nil))) (.cons (.kill [3, 8]) (.cons (.for_ (.nm 3) (.rng (.ite (.e (.cmp .gt (.v 6) (.k (.int 1)))) (.call 14 (.cons (.v 1) (.cons (.k (.int 9)) .nil))) (.k (.int 0)))) (B_law_1 14)) (.cons (.kill [3, 8]) (.cons (.asg (.tp (.cons (.nm 9) (.cons (.nm 10) .nil))) (.tup (.cons (.tup (.cons (.k (.str "sorter")) (.cons (.v 6) (.cons (.bi .tuple (.cons (.v 7) .nil)) .nil)))) (.cons (.call 11 (.cons (.v 6) .nil)) .nil)))) (.cons (.par [11, 12] (.cons (.call 8 (.cons (.v 9) .nil)) (.cons (.lc (.v 13) (.nm 13) (.sq (.call 22 (.cons (.v 6) .nil))) (.so (.e (.call 23 (.cons (.v 9) (.cons (.v 13) .nil))))) [13]) .nil))) (.cons (.ite (.or (.not (.e (.isi (.v 11) .tuple))) (.or (.e (.cmp .eq (.v 11) (.tup .nil))) (.and (.e (.cmp .eq (.v 12) (.lst .nil))) (.not (.e (.call 15 (.cons (.v 11) (.cons (.tup (.cons (.k (.str "sorts")) .nil)) .nil)))))))) (.cons (.ret (.k (.bool false))) .nil) .nil) (.cons (.ite (.and (.e (.cmp .ne (.v 12) (.lst .nil))) (.or (.e (.cmp .ne (.bi .len (.cons (.v 11) .nil)) (.k (.int 2)))) (.or (.not (.e (.call 15 (.cons (.ix (.v 11) (.k (.int 0))) (.cons (.k (.str "fails")) .nil))))) (.not (.e (.call 23 (.cons (.v 9) (.cons (.ix (.v 11) (.k (.int 1))) .nil)))))))) (.cons (.ret (.k (.bool false))) .nil) .nil) R58)))))))) := rfl
abbrev cG : Glob := ⟨runF cProg cCon 99, cCon⟩
theorem c_draw {ds : List Int} {a m : Int} {S : Store} (hS : S[0]? = some (boxO ds a)) (hm : 0 < m) (ha : 0 ≤ a) : runF cProg cCon 99 14 [.loc 0, .p (.int m)] S = some (.p (.int (drw ds a m)), S.set 0 (boxO ds (a + 1))) := call_draw pr_law_draw (by decide) hS ha hm
theorem draw_pairs {ds : List Int} {a : Int} {n r : Nat} {sc x2 : D} {Q : Out → Prop} (ha : 0 ≤ a) (hr : r ≤ 8) (hn : n ≤ 5) (h2 : r = 0 ∨ 2 ≤ n)
    (q : ∀ (ps : List (Nat × Nat)) (a' : Int), (∀ p ∈ ps, okP n p) → ps.length ≤ 8 → 0 ≤ a' → Q (.nx [some (.p sc), some (.loc 0), some (.p x2), none, none, none, some (.p (.int (n : Nat))), some (.loc 1), none, none, none, none, none, none, none, none, none] [boxO ds a', .pl (ps.map rowN)])) :
    Wp (forGo (.items (rngL 0 (r : Int))) (.nm 3) (exs cG (B_law_1 14) []) ((rngL 0 (r : Int)).length + 1) 0 [some (.p sc), some (.loc 0), some (.p x2), none, none, none, some (.p (.int (n : Nat))), some (.loc 1), none, none, none, none, none, none, none, none, none] [boxO ds a, .pl []]) Q := by
  refine forR_wp (n := r) (fun j env S => ∃ (ps : List (Nat × Nat)) (a' : Int), (∀ p ∈ ps, okP n p) ∧ ps.length = j ∧ (0 : Int) ≤ a' ∧ env = [some (.p sc), some (.loc 0), some (.p x2), none, none, none, some (.p (.int (n : Nat))), some (.loc 1), none, none, none, none, none, none, none, none, none] ∧ S = [boxO ds a', .pl (ps.map rowN)]) (by omega) ⟨[], a, by simp, rfl, ha, rfl, rfl⟩ ?_ ?_
  · rintro j env S hj ⟨ps, a', h1, h3, h4, rfl, rfl⟩
    have hn2 : 2 ≤ n := by omega
    have d1 := drw_lo (ds := ds) (a := a') (m := (n : Int) - 1) (by omega)
    have d2 := drw_hi (ds := ds) (a := a') (m := (n : Int) - 1) (by omega)
    obtain ⟨o, ho⟩ : ∃ o : Nat, drw ds a' ((n : Int) - 1) = (o : Int) := ⟨(drw ds a' ((n : Int) - 1)).toNat, by omega⟩
    have e1 := drw_lo (ds := ds) (a := a' + 1) (m := (n : Int) - 1 - o) (by omega)
    have e2 := drw_hi (ds := ds) (a := a' + 1) (m := (n : Int) - 1 - o) (by omega)
    obtain ⟨o2, ho2⟩ : ∃ o2 : Nat, drw ds (a' + 1) ((n : Int) - 1 - o) = (o2 : Int) := ⟨(drw ds (a' + 1) ((n : Int) - 1 - o)).toNat, by omega⟩
    have hd1 : runF cProg cCon 99 14 [.loc 0, .p (.int ((n : Int) - 1))] [boxO ds a', .pl (ps.map rowN)] = some (.p (.int (o : Int)), [boxO ds (a' + 1), .pl (ps.map rowN)]) := by
      rw [c_draw (ds := ds) (a := a') rfl (by omega) h4, ho]; rfl
    have hd2 : runF cProg cCon 99 14 [.loc 0, .p (.int ((n : Int) - 1 - o))] [boxO ds (a' + 1), .pl (ps.map rowN)] = some (.p (.int (o2 : Int)), [boxO ds (a' + 1 + 1), .pl (ps.map rowN)]) := by
      rw [c_draw (ds := ds) (a := a' + 1) rfl (by omega) (by omega), ho2]; rfl
    simp only [B_law_1]
    simp -dsimp (maxSteps := 1000000) [-Prod.forall, -Prod.exists, hd1, hd2]
    refine ⟨by omega, ps ++ [(o, o + 1 + o2)], fun p hp => ?_, by simp [h3], a' + 1 + 1, by omega, rfl, by simp [rowN]⟩
    rcases List.mem_append.mp hp with q | q
    · exact h1 p q
    · rw [List.mem_singleton] at q; subst q
      exact ⟨by show o < o + 1 + o2; omega, by show o + 1 + o2 < n; omega⟩
  · rintro env S ⟨ps, a', h1, h3, h4, rfl, rfl⟩
    exact q ps a' h1 (by omega) h4
theorem made_len {n : Nat} (hn : n ≤ 5) : (madeP n).length ≤ 12 := by
  have : n = 0 ∨ n = 1 ∨ n = 2 ∨ n = 3 ∨ n = 4 ∨ n = 5 := by omega
  rcases this with rfl | rfl | rfl | rfl | rfl | rfl <;> decide
theorem made_none {n : Nat} (hn : n ≤ 5) : firstBad (madeP n) (allR n) = none := firstBad_none.mpr fun x hx => List.all_eq_true.mp (madeP_bits n hn) x hx
theorem rows_shaped {n : Nat} {wr : List (List Int)} (h : ∀ x ∈ wr, x.length ≤ 1000) : SeqAt.shaped (.list (wr.map tupI)) = true := by
  refine nice_shaped (m := wr.length + 1000) (k := 2) ?_ (by decide)
  rw [nice_list]
  refine ⟨by simp, fun x hx => ?_⟩
  obtain ⟨y, hy, rfl⟩ := List.mem_map.mp hx
  rw [nice_tuple]
  refine ⟨by have := h y hy; simp; omega, fun z hz => ?_⟩
  obtain ⟨w, _, rfl⟩ := List.mem_map.mp hz
  rfl
theorem eqvAll_ints : ∀ a b : List Int, PyData.eqvAll (a.map .int) (b.map .int) = (a == b)
  | [], [] => by simp
  | [], y :: s => by simp
  | x :: r, [] => by simp
  | x :: r, y :: s => by simp [eqvAll_ints r s]
theorem stI_n {n k : Nat} {ds : List D} {d : D} {S : Store} (hS : S[n]? = some (.pl ds)) (h : k < ds.length) : stI (.loc n) (.p (.int (k : Int))) S d = some (S.set n (.pl (ds.set k d))) := by
  unfold stI ixN
  simp only [hS]
  rw [if_pos (by omega), if_pos (by omega)]
  simp
/-- the tail of a round -/
theorem law_rest {ds : List Int} {a : Int} {n : Nat} {ps : List (Nat × Nat)} {wr : List (List Int)} {sc x2 tt : D} {Q : Out → Prop} (ha : 0 ≤ a) (h1 : 1 ≤ n) (hn : n ≤ 5) (hok : ∀ p ∈ ps, okP n p) (hpl : ps.length ≤ 8)
    (hW : wr = (lawB n).filter fun xs => !ordB (run ps xs))
    (q : ∀ a' : Int, 0 ≤ a' → Q (.nx [some (.p sc), some (.loc 0), none, none, none, none, none, none, none, none, none, none, none, none, none, none, none] [boxO ds a'])) :
    Wp (exs cG R58 [] [some (.p sc), some (.loc 0), some (.p x2), none, none, none, some (.p (.int (n : Nat))), some (.loc 1), none, some (.p (.tuple [.str "sorter", .int (n : Nat), .tuple (ps.map rowN)])), some (.p (.tuple [.str "sorter", .int (n : Nat), .tuple ((madeP n).map rowN)])), some (.p tt), some (.loc 2), none, none, none, none] [boxO ds a, .pl (ps.map rowN), .pl (wr.map tupI)]) Q := by
  have hmo := madeP_ok n hn
  have hml := made_len hn
  have hmp := sorter_pure (n := n) hml
  have hmn : nice 13 5 (sorterD n (madeP n)) = true := nice_mono (by decide) (by decide) (pure_nice hmp)
  have hR : ∀ S, runF cProg cCon 99 20 [.p (.tuple [.str "sorter", .int (n : Nat), .tuple ((madeP n).map rowN)])] S = some (.p (.bool true), S) := fun S => by
    have := q_right (j := 99) (S := S) (by decide) hmn
    rw [sorter_ok hmo h1 (by omega) (by omega)] at this
    exact this
  have hB : ∀ S, runF cProg cCon 99 22 [.p (.int (n : Nat))] S = some (.nw (.pl ((lawB n).map tupI)), S) := fun S => q_bits (by decide) h1 hn
  simp only [R58]
  simp -dsimp (maxSteps := 1000000) [hR, hB]
  refine Wp.of (comp_sel (xs := lawB n) tupI (fun xs => !ordB (run (madeP n) xs)) tupI (fun xs hx => ?_) (by rw [lawB_len, L_eq]; exact Nat.le_trans (Nat.pow_le_pow_right (by decide) hn) (by decide)) (by omega)) ?_
  · have hb := lawB_mem.mp hx
    have hF : ∀ S, runF cProg cCon 99 23 [.p (.tuple [.str "sorter", .int (n : Nat), .tuple ((madeP n).map rowN)]), .p (tupI xs)] S = some (.p (.bool (!ordB (run (madeP n) xs))), S) := fun S => q_fails (by decide) hmo hb hn
    apply wp_eq
    simp -dsimp (maxSteps := 1000000) [hF]
  · have hw0 : (lawB n).filter (fun xs => !ordB (run (madeP n) xs)) = [] := wrong_nil.mpr (made_none hn)
    have hS : ∀ S, runF cProg cCon 99 8 [.p (.tuple [.str "sorter", .int (n : Nat), .tuple ((madeP n).map rowN)])] S = some (.p (.tuple [.str "sorts"]), S) := fun S => by
      have := q_sorts (j := 99) (S := S) (by decide) hmo h1 hn
      unfold toldS at this
      rw [made_none hn] at this
      exact this
    have hL : ∀ S, runF cProg cCon 99 15 [.p (.tuple [.str "sorts"]), .p (.tuple [.str "sorts"])] S = some (.p (.bool true), S) := fun S => s_law_like (m := 16) pr_law_like (by decide) 2 (.tuple [.str "sorts"]) (by decide +kernel) 99 S (by decide)
    rw [hw0]
    simp -dsimp (maxSteps := 1000000) [shaped_nil, hS, hL]
    refine forR_wp (a := 0) (b := 3) (n := 3) (fun i env S => ∃ a' : Int, 0 ≤ a' ∧ env = [some (.p sc), some (.loc 0), some (.p x2), none, none, none, some (.p (.int (n : Nat))), some (.loc 1), none, some (.p (.tuple [.str "sorter", .int (n : Nat), .tuple (ps.map rowN)])), some (.p (.tuple [.str "sorter", .int (n : Nat), .tuple ((madeP n).map rowN)])), some (.p tt), some (.loc 2), none, none, none, none] ∧ S = [boxO ds a', .pl (ps.map rowN), .pl (wr.map tupI)]) (by decide) ⟨a, ha, rfl, rfl⟩ ?_ ?_
    · rintro i env S hi ⟨a', ha', rfl, rfl⟩
      simp only [B_law_2]
      simp -dsimp (maxSteps := 1000000)
      refine (s_numbers_row (con := cCon) pr_law_numbers_row pr_law_draw (j := 99) (n := 0) (many := (n : Int)) (high := 20) (by decide) rfl ha' (by omega) (by omega) (by decide)).mono fun r ⟨xs, a1, ha1, e, hxl, hxr⟩ => ?_
      subst e
      have hxl' : xs.length = n := by omega
      have hRun : ∀ S, runF cProg cCon 99 21 [.p (.tuple ((madeP n).map rowN)), .p (tupI xs)] S = some (.nw (.pl ((sortI xs).map .int)), S) := fun S => by
        rw [q_run (by decide) hmo hxl' (by omega), madeP_sorts hn hxl']
      have hev : PyData.eqvAll ((sortI xs).map .int) ((sortI xs).map .int) = true := by rw [eqvAll_ints]; simp
      simp -dsimp (maxSteps := 1000000) [hRun, shaped_ints, hev]
      exact ha1
    · rintro env S ⟨a1, ha1, rfl, rfl⟩
      have hrep : List.replicate n (PyData.int 0) = (deps (ps.take 0) (List.replicate n 0)).map .int := by simp [deps]
      simp -dsimp (maxSteps := 1000000)
      refine ⟨⟨by omega, by omega⟩, ?_⟩
      rw [hrep]
      refine forL_wp (ds := ps.map rowN) (m := 1) (fun j env S => env = [some (.p sc), some (.loc 0), some (.p x2), none, none, some (.loc 3), some (.p (.int (n : Nat))), some (.loc 1), none, some (.p (.tuple [.str "sorter", .int (n : Nat), .tuple (ps.map rowN)])), some (.p (.tuple [.str "sorter", .int (n : Nat), .tuple ((madeP n).map rowN)])), some (.p tt), some (.loc 2), none, none, none, none] ∧ S = [boxO ds a1, .pl (ps.map rowN), .pl (wr.map tupI), .pl ((deps (ps.take j) (List.replicate n 0)).map .int)]) ?_ ?_ ?_ _ 0 _ _ ?_ (Nat.zero_le _) ⟨rfl, rfl⟩
      · rintro j env S ⟨rfl, rfl⟩; rfl
      · rintro j d env S hd ⟨rfl, rfl⟩
        obtain ⟨p, hp, rfl⟩ := row_get hd
        obtain ⟨p1, p2⟩ := hok p (List.mem_of_getElem? hp)
        rw [deps_take hp]
        have hrl : (deps (ps.take j) (List.replicate n 0)).length = n := by rw [deps_len]; simp
        generalize deps (ps.take j) (List.replicate n 0) = ys at hrl
        have g1 : (ys.map PyData.int)[p.1]? = some (.int (nth ys p.1)) := getI (by omega)
        have g2 : (ys.map PyData.int)[p.2]? = some (.int (nth ys p.2)) := getI (by omega)
        have st1 := fun d => stI_n (n := 3) (k := p.1) (ds := ys.map PyData.int) (d := d) (S := [boxO ds a1, .pl (ps.map rowN), .pl (wr.map tupI), .pl (ys.map PyData.int)]) rfl (by simp; omega)
        have st2 := fun d e => stI_n (n := 3) (k := p.2) (ds := (ys.map PyData.int).set p.1 e) (d := d) (S := [boxO ds a1, .pl (ps.map rowN), .pl (wr.map tupI), .pl ((ys.map PyData.int).set p.1 e)]) rfl (by simp; omega)
        simp only [B_law_3]
        simp -dsimp (maxSteps := 1000000) [-List.getElem?_map, -List.map_set, g1, g2, st1, st2]
        simp [dp]
      · rintro env S ⟨rfl, rfl⟩
        rw [List.length_map, List.take_length]
        have hDp : ∀ S, runF cProg cCon 99 10 [.p (.tuple [.str "sorter", .int (n : Nat), .tuple (ps.map rowN)])] S = some (.p (.int (depN n ps)), S) := fun S => q_depth (by decide) hok h1 hn
        have hI1 : ∀ S, runF cProg cCon 99 9 [.p (.tuple [.str "sorter", .int (n : Nat), .tuple (ps.map rowN)]), .p (.tuple [.str "sorts"])] S = some (.p (.bool (firstBad ps (allR n)).isNone), S) := fun S => q_is1 (by decide) hok h1 hn
        have hLi : ∀ (x : Int) S, runF cProg cCon 99 15 [.p (.int x), .p (.int x)] S = some (.p (.bool true), S) := fun x S => s_law_like (m := 1) pr_law_like (by decide) 0 (.int x) rfl 99 S (by decide)
        have hwe : (wr.map tupI).isEmpty = (firstBad ps (allR n)).isNone := by
          rw [Bool.eq_iff_iff, List.isEmpty_iff, List.map_eq_nil_iff, Option.isNone_iff_eq_none, hW]
          exact wrong_nil
        have hws : SeqAt.shaped (.list (wr.map tupI)) = true := rows_shaped (n := n) fun x hx => by
          rw [hW] at hx
          have := (lawB_mem.mp (List.mem_filter.mp hx).1).1
          omega
        simp -dsimp (maxSteps := 1000000) [-List.isEmpty_map, hDp, depN_some h1, hLi, hI1, hws, shaped_nil, eqvAll_nil_iff, hwe, g_like (con := cCon) pr_law_like (show 1 ≤ 99 by decide)]
        have hsp := sorter_pure (n := n) (ps := ps) (by omega)
        have hsn : nice 13 5 (.tuple [.str "sorter", .int (n : Nat), .tuple (ps.map rowN)]) = true := nice_mono (by decide) (by decide) (pure_nice hsp)
        refine forR_wp (a := 0) (b := 5) (n := 5) (fun i env S => ∃ a' : Int, 0 ≤ a' ∧ env = [some (.p sc), some (.loc 0), some (.p x2), none, none, some (.loc 3), some (.p (.int (n : Nat))), some (.loc 1), none, some (.p (.tuple [.str "sorter", .int (n : Nat), .tuple (ps.map rowN)])), some (.p (.tuple [.str "sorter", .int (n : Nat), .tuple ((madeP n).map rowN)])), some (.p tt), some (.loc 2), none, none, none, none] ∧ S = [boxO ds a', .pl (ps.map rowN), .pl (wr.map tupI), .pl ((deps ps (List.replicate n 0)).map .int)]) (by decide) ⟨a1, ha1, rfl, rfl⟩ ?_ ?_
        · rintro i env S hi ⟨a2, ha2, rfl, rfl⟩
          have hrl : (rngL 0 (n : Int)).length = n := rngN_len n
          simp only [B_law_4]
          simp -dsimp (maxSteps := 1000000)
          refine ⟨by omega, comp_wp (fun i acc S => ∃ (xs : List Int) (a' : Int), 0 ≤ a' ∧ acc = xs.map .int ∧ S = [boxO ds a', .pl (ps.map rowN), .pl (wr.map tupI), .pl ((deps ps (List.replicate n 0)).map .int)] ∧ xs.length = i ∧ ∀ x ∈ xs, x = 0 ∨ x = 1) (by rw [hrl, L_eq]; omega) ⟨[], a2, ha2, rfl, rfl, rfl, by simp⟩ ?_ ?_⟩
          · rintro i d acc S hd' ⟨xs, a', ha', rfl, rfl, h1', h2'⟩
            obtain ⟨rfl, hi'⟩ := rng_get hd'
            have c1 := drw_lo (ds := ds) (a := a') (m := 2) (by decide)
            have c2 := drw_hi (ds := ds) (a := a') (m := 2) (by decide)
            have hd2 : runF cProg cCon 99 14 [.loc 0, .p (.int 2)] [boxO ds a', .pl (ps.map rowN), .pl (wr.map tupI), .pl ((deps ps (List.replicate n 0)).map .int)] = some (.p (.int (drw ds a' 2)), [boxO ds (a' + 1), .pl (ps.map rowN), .pl (wr.map tupI), .pl ((deps ps (List.replicate n 0)).map .int)]) := by
              rw [c_draw rfl (by decide) ha']; rfl
            simp -dsimp (maxSteps := 1000000) [hd2]
            refine ⟨xs ++ [drw ds a' 2], a' + 1, by omega, by simp, rfl, by simp [h1'], fun x hx => ?_⟩
            rcases List.mem_append.mp hx with q | q
            · exact h2' x q
            · rw [List.mem_singleton] at q; omega
          · rintro acc S ⟨xs, a3, ha3, rfl, rfl, h1', h2'⟩
            rw [hrl] at h1'
            have hbt : isBits n xs := ⟨h1', h2'⟩
            have hI2 : ∀ S, runF cProg cCon 99 9 [.p (.tuple [.str "sorter", .int (n : Nat), .tuple (ps.map rowN)]), .p (.tuple [.str "fails", tupI xs])] S = some (.p (.bool (!ordB (run ps xs))), S) := fun S => q_is2 (by decide) hok hbt hn
            have hF2 : ∀ S, runF cProg cCon 99 23 [.p (.tuple [.str "sorter", .int (n : Nat), .tuple (ps.map rowN)]), .p (tupI xs)] S = some (.p (.bool (!ordB (run ps xs))), S) := fun S => q_fails (by decide) hok hbt hn
            have hIs : ∀ {d : D} {S : Store}, nice 13 5 d = true → runF cProg cCon 99 4 [.p d] S = some (.p (.bool (sorterB d)), S) := fun h => q_is (by decide) h
            have hRt : ∀ {d : D} {S : Store}, nice 13 5 d = true → runF cProg cCon 99 20 [.p d] S = some (.p (.bool (sorterB d)), S) := fun h => q_right (by decide) h
            have hlb : ∀ (b : Bool) S, runF cProg cCon 99 15 [.p (.bool b), .p (.bool b)] S = some (.p (.bool true), S) := fun b S => g_like (con := cCon) pr_law_like (by decide)
            by_cases hi0 : i = 0
            · subst hi0
              simp -dsimp (maxSteps := 1000000) [hI2, hF2, hlb, hIs hsn, hRt hsn]
              exact ha3
            · have hi1 : 0 < i := by omega
              simp -dsimp (maxSteps := 1000000) [hI2, hF2, hlb, hi1]
              refine (s_law_changed (con := cCon) pr_law_changed pr_law_other pr_law_draw (m := 12) (by decide) (by decide) 3 _ (by decide) hsp 99 (by decide) 0 _ ds a3 rfl ha3).mono fun r ⟨d', a4, ha4, er, hnn⟩ => ?_
              subst er
              have hn5 : nice 13 5 d' = true := nice_mono (by decide) (by decide) hnn
              simp -dsimp (maxSteps := 1000000) [hIs hn5, hRt hn5, hlb]
              exact ha4
        · rintro env S ⟨a2, ha2, rfl, rfl⟩
          simp -dsimp (maxSteps := 1000000)
          exact q a2 ha2
      · simp
def M58 : Ss := (.cons (.kill [3, 8]) (.cons (.asg (.tp (.cons (.nm 9) (.cons (.nm 10) .nil))) (.tup (.cons (.tup (.cons (.k (.str "sorter")) (.cons (.v 6) (.cons (.bi .tuple (.cons (.v 7) .nil)) .nil)))) (.cons (.call 11 (.cons (.v 6) .nil)) .nil)))) (.cons (.par [11, 12] (.cons (.call 8 (.cons (.v 9) .nil)) (.cons (.lc (.v 13) (.nm 13) (.sq (.call 22 (.cons (.v 6) .nil))) (.so (.e (.call 23 (.cons (.v 9) (.cons (.v 13) .nil))))) [13]) .nil))) (.cons (.ite (.or (.not (.e (.isi (.v 11) .tuple))) (.or (.e (.cmp .eq (.v 11) (.tup .nil))) (.and (.e (.cmp .eq (.v 12) (.lst .nil))) (.not (.e (.call 15 (.cons (.v 11) (.cons (.tup (.cons (.k (.str "sorts")) .nil)) .nil)))))))) (.cons (.ret (.k (.bool false))) .nil) .nil) (.cons (.ite (.and (.e (.cmp .ne (.v 12) (.lst .nil))) (.or (.e (.cmp .ne (.bi .len (.cons (.v 11) .nil)) (.k (.int 2)))) (.or (.not (.e (.call 15 (.cons (.ix (.v 11) (.k (.int 0))) (.cons (.k (.str "fails")) .nil))))) (.not (.e (.call 23 (.cons (.v 9) (.cons (.ix (.v 11) (.k (.int 1))) .nil)))))))) (.cons (.ret (.k (.bool false))) .nil) .nil) (.cons (.ite (.or (.not (.e (.call 20 (.cons (.v 10) .nil)))) (.or (.e (.cmp .ne (.ix (.v 10) (.k (.int 1))) (.v 6))) (.or (.e (.cmp .ne (.lc (.v 13) (.nm 13) (.sq (.call 22 (.cons (.v 6) .nil))) (.so (.e (.call 23 (.cons (.v 10) (.cons (.v 13) .nil))))) [13]) (.lst .nil))) (.not (.e (.call 15 (.cons (.call 8 (.cons (.v 10) .nil)) (.cons (.tup (.cons (.k (.str "sorts")) .nil)) .nil)))))))) (.cons (.ret (.k (.bool false))) .nil) .nil) (.cons (.kill [4, 13]) (.cons (.for_ (.nm 4) (.rng (.k (.int 3))) (B_law_2 17 21)) (.cons (.kill [4, 13]) (.cons (.asg (.nm 5) (.bin .mul (.lst (.cons (.k (.int 0)) .nil)) (.v 6))) (.cons (.kill [8, 14, 15]) (.cons (.for_ (.tp (.cons (.nm 8) (.cons (.nm 14) .nil))) (.sq (.v 7)) B_law_3) (.cons (.kill [8, 14, 15]) (.cons (.ite (.or (.not (.e (.call 15 (.cons (.call 10 (.cons (.v 9) .nil)) (.cons (.bi .max (.cons (.v 5) .nil)) .nil))))) (.not (.e (.call 15 (.cons (.call 9 (.cons (.v 9) (.cons (.tup (.cons (.k (.str "sorts")) .nil)) .nil))) (.cons (.cmp .eq (.v 12) (.lst .nil)) .nil)))))) (.cons (.ret (.k (.bool false))) .nil) .nil) (.cons (.kill [4, 13, 16]) (.cons (.for_ (.nm 4) (.rng (.k (.int 5))) (B_law_4 14 15 9 23 19 4 20)) (.cons (.kill [4, 13, 16]) (.cons (.kill [2, 3, 4, 5, 6, 7, 8, 9, 10, 11, 12, 13, 14, 15, 16]) .nil))))))))))))))))))
theorem M58_eq : B_law_5 14 11 8 22 23 15 20 17 21 10 9 19 4 = (.cons (.par [6, 7] (.cons (.bin .add (.k (.int 1)) (.call 14 (.cons (.v 1) (.cons (.k (.int 5)) .nil)))) (.cons (.lst .nil) .nil))) (.cons (.kill [3, 8]) (.cons (.for_ (.nm 3) (.rng (.ite (.e (.cmp .gt (.v 6) (.k (.int 1)))) (.call 14 (.cons (.v 1) (.cons (.k (.int 9)) .nil))) (.k (.int 0)))) (B_law_1 14)) M58))) := rfl
theorem M58_R : M58 = (.cons (.kill [3, 8]) (.cons (.asg (.tp (.cons (.nm 9) (.cons (.nm 10) .nil))) (.tup (.cons (.tup (.cons (.k (.str "sorter")) (.cons (.v 6) (.cons (.bi .tuple (.cons (.v 7) .nil)) .nil)))) (.cons (.call 11 (.cons (.v 6) .nil)) .nil)))) (.cons (.par [11, 12] (.cons (.call 8 (.cons (.v 9) .nil)) (.cons (.lc (.v 13) (.nm 13) (.sq (.call 22 (.cons (.v 6) .nil))) (.so (.e (.call 23 (.cons (.v 9) (.cons (.v 13) .nil))))) [13]) .nil))) (.cons (.ite (.or (.not (.e (.isi (.v 11) .tuple))) (.or (.e (.cmp .eq (.v 11) (.tup .nil))) (.and (.e (.cmp .eq (.v 12) (.lst .nil))) (.not (.e (.call 15 (.cons (.v 11) (.cons (.tup (.cons (.k (.str "sorts")) .nil)) .nil)))))))) (.cons (.ret (.k (.bool false))) .nil) .nil) (.cons (.ite (.and (.e (.cmp .ne (.v 12) (.lst .nil))) (.or (.e (.cmp .ne (.bi .len (.cons (.v 11) .nil)) (.k (.int 2)))) (.or (.not (.e (.call 15 (.cons (.ix (.v 11) (.k (.int 0))) (.cons (.k (.str "fails")) .nil))))) (.not (.e (.call 23 (.cons (.v 9) (.cons (.ix (.v 11) (.k (.int 1))) .nil)))))))) (.cons (.ret (.k (.bool false))) .nil) .nil) R58))))) := rfl
/-- behind the drawn pairs -/
theorem law_mid {ds : List Int} {a : Int} {n : Nat} {ps : List (Nat × Nat)} {sc x2 : D} {Q : Out → Prop} (ha : 0 ≤ a) (h1 : 1 ≤ n) (hn : n ≤ 5) (hok : ∀ p ∈ ps, okP n p) (hpl : ps.length ≤ 8)
    (q : ∀ a' : Int, 0 ≤ a' → Q (.nx [some (.p sc), some (.loc 0), none, none, none, none, none, none, none, none, none, none, none, none, none, none, none] [boxO ds a'])) :
    Wp (exs cG M58 [] [some (.p sc), some (.loc 0), some (.p x2), none, none, none, some (.p (.int (n : Nat))), some (.loc 1), none, none, none, none, none, none, none, none, none] [boxO ds a, .pl (ps.map rowN)]) Q := by
  have hM : ∀ S, runF cProg cCon 99 11 [.p (.int (n : Nat))] S = some (.p (.tuple [.str "sorter", .int (n : Nat), .tuple ((madeP n).map rowN)]), S) := fun S => q_made (by decide) h1 hn
  have hB : ∀ S, runF cProg cCon 99 22 [.p (.int (n : Nat))] S = some (.nw (.pl ((lawB n).map tupI)), S) := fun S => q_bits (by decide) h1 hn
  have hS : ∀ S, runF cProg cCon 99 8 [.p (.tuple [.str "sorter", .int (n : Nat), .tuple (ps.map rowN)])] S = some (.p (toldS n ps), S) := fun S => q_sorts (by decide) hok h1 hn
  rw [M58_R]
  simp -dsimp (maxSteps := 1000000) [hM, hB, hS]
  refine Wp.of (comp_sel (xs := lawB n) tupI (fun xs => !ordB (run ps xs)) tupI (fun xs hx => ?_) (by rw [lawB_len, L_eq]; exact Nat.le_trans (Nat.pow_le_pow_right (by decide) hn) (by decide)) (by omega)) ?_
  · have hb := lawB_mem.mp hx
    have hF : ∀ S, runF cProg cCon 99 23 [.p (.tuple [.str "sorter", .int (n : Nat), .tuple (ps.map rowN)]), .p (tupI xs)] S = some (.p (.bool (!ordB (run ps xs))), S) := fun S => q_fails (by decide) hok hb hn
    apply wp_eq
    simp -dsimp (maxSteps := 1000000) [hF]
  · generalize hW : (lawB n).filter (fun xs => !ordB (run ps xs)) = wr
    have hwe : PyData.eqvAll (wr.map tupI) [] = (firstBad ps (allR n)).isNone := by
      rw [eqvAll_nil_iff, Bool.eq_iff_iff, List.isEmpty_iff, List.map_eq_nil_iff, Option.isNone_iff_eq_none, ← hW]
      exact wrong_nil
    have hws : SeqAt.shaped (.list (wr.map tupI)) = true := rows_shaped (n := n) fun x hx => by
      rw [← hW] at hx
      have := (lawB_mem.mp (List.mem_filter.mp hx).1).1
      omega
    have hts := nice_shaped (told_shaped (n := n) (ps := ps) (by omega)) (by decide)
    cases hfb : firstBad ps (allR n) with
    | none =>
      have ht : toldS n ps = .tuple [.str "sorts"] := by unfold toldS; rw [hfb]
      have hL : ∀ S, runF cProg cCon 99 15 [.p (.tuple [.str "sorts"]), .p (.tuple [.str "sorts"])] S = some (.p (.bool true), S) := fun S => s_law_like (m := 16) pr_law_like (by decide) 2 (.tuple [.str "sorts"]) (by decide +kernel) 99 S (by decide)
      rw [hfb] at hwe
      rw [ht] at hts ⊢
      simp -dsimp (maxSteps := 1000000) [-List.map_eq_nil_iff, hws, hwe, hts, shaped_nil, shaped_nilT, hL]
      exact law_rest ha h1 hn hok hpl hW.symm q
    | some x =>
      have ht : toldS n ps = .tuple [.str "fails", tupI x] := by unfold toldS; rw [hfb]
      obtain ⟨x1, x2⟩ := firstBad_some hfb
      have hL : ∀ S, runF cProg cCon 99 15 [.p (.str "fails"), .p (.str "fails")] S = some (.p (.bool true), S) := fun S => s_law_like (m := 16) pr_law_like (by decide) 2 (.str "fails") (by decide +kernel) 99 S (by decide)
      have hF : ∀ S, runF cProg cCon 99 23 [.p (.tuple [.str "sorter", .int (n : Nat), .tuple (ps.map rowN)]), .p (tupI x)] S = some (.p (.bool true), S) := fun S => by
        have := q_fails (j := 99) (S := S) (by decide) hok (allR_mem.mp x1) hn
        rw [x2] at this
        exact this
      rw [hfb] at hwe
      rw [ht] at hts ⊢
      simp -dsimp (maxSteps := 1000000) [-List.map_eq_nil_iff, hws, hwe, hts, shaped_nil, shaped_nilT, hL, hF]
      exact law_rest ha h1 hn hok hpl hW.symm q
theorem law_holds : ∀ ns : List Int, ns.length ≤ 63 → ∃ S', runF cProg cCon (99 + 1) 24 [.p (scr (ns.map .int))] [] = some (.p (.bool true), S') := by
  intro ns hns
  have main : Wp (fnRun cG (F_law 13 14 11 8 22 23 15 20 17 21 10 9 19 4) [.p (scr (ns.map .int))] []) fun r => r = (.p (.bool true), []) := by
    apply fn_wp
    obtain ⟨ds, hds⟩ := g_digits (con := cCon) (j := 99) (ns := ns) pr_law_digits pr_law_cell (by decide)
    simp only [F_law]
    simp -dsimp [hds]
    refine forR_wp (n := 2) (fun j env S => ∃ a : Int, 0 ≤ a ∧ env = [some (.p (scr (ns.map .int))), some (.loc 0), none, none, none, none, none, none, none, none, none, none, none, none, none, none, none] ∧ S = [boxO ds a]) (by decide) ⟨0, by decide, rfl, rfl⟩ ?_ ?_
    · rintro j env S hj ⟨a, ha, rfl, rfl⟩
      have b1 := drw_lo (ds := ds) (a := a) (m := 5) (by decide)
      have b2 := drw_hi (ds := ds) (a := a) (m := 5) (by decide)
      obtain ⟨n, hn0⟩ : ∃ n : Nat, 1 + drw ds a 5 = (n : Int) := ⟨(1 + drw ds a 5).toNat, by omega⟩
      have h1 : 1 ≤ n := by omega
      have hn : n ≤ 5 := by omega
      have hd5 : runF cProg cCon 99 14 [.loc 0, .p (.int 5)] [boxO ds a] = some (.p (.int (drw ds a 5)), [boxO ds (a + 1)]) := by
        rw [c_draw rfl (by decide) ha]; rfl
      have d1 := drw_lo (ds := ds) (a := a + 1) (m := 9) (by decide)
      have d2 := drw_hi (ds := ds) (a := a + 1) (m := 9) (by decide)
      have hd9 : runF cProg cCon 99 14 [.loc 0, .p (.int 9)] [boxO ds (a + 1), .pl []] = some (.p (.int (drw ds (a + 1) 9)), [boxO ds (a + 1 + 1), .pl []]) := by
        rw [c_draw rfl (by decide) (by omega)]; rfl
      rw [M58_eq]
      by_cases hn1 : 1 < n
      · have hn1' : (1 : Int) < (n : Int) := by omega
        obtain ⟨r, hr⟩ : ∃ r : Nat, drw ds (a + 1) 9 = (r : Int) := ⟨(drw ds (a + 1) 9).toNat, by omega⟩
        rw [hr] at hd9
        simp -dsimp (maxSteps := 1000000) [hd5, hn0, hn1', hn1, hd9]
        refine ⟨by omega, draw_pairs (by omega) (by omega) hn (by omega) fun ps a' h1' h2' h3' => ?_⟩
        simp -dsimp (maxSteps := 1000000)
        refine law_mid h3' h1 hn h1' h2' fun a' ha' => ?_
        simp -dsimp (maxSteps := 1000000)
        exact ha'
      · have hn1' : ¬ (1 : Int) < (n : Int) := by omega
        simp -dsimp (maxSteps := 1000000) [hd5, hn0, hn1', hn1]
        refine draw_pairs (r := 0) (by omega) (by omega) hn (.inl rfl) fun ps a' h1' h2' h3' => ?_
        simp -dsimp (maxSteps := 1000000)
        refine law_mid h3' h1 hn h1' h2' fun a' ha' => ?_
        simp -dsimp (maxSteps := 1000000)
        exact ha'
    · rintro env S ⟨a, ha, rfl, rfl⟩
      simp -dsimp
  obtain ⟨r, e, rfl⟩ := main
  exact ⟨[], callP (S0 := []) pr_law e rfl rfl rfl []⟩
end VI
set_option Elab.async false
set_option linter.all false
set_option maxRecDepth 100000
namespace VI
open PySem PySem.Spec PyProof.Rows L2
abbrev Sl := L2.St
abbrev Ob := VI.Obj

variable (K : PySem.W.Frag)
mutual
inductive Dq (R : Addr → Prop) (H : Hp) : V → D → Prop
  | non : Dq R H .non .none
  | bl (b : Bool) : Dq R H (.bl b) (.bool b)
  | int (i : Int) : Dq R H (.int i) (.int i)
  | str (x : Str) : Dq R H (.str x) (.str x)
  | lst {a : Addr} {vs : List V} {ds : List D} : ¬ R a → H a = some (.lst vs) → DqA R H vs ds → Dq R H (.ref a) (.list ds)
  | tup {a : Addr} {vs : List V} {ds : List D} : SqT K H a vs → DqA R H vs ds → Dq R H (.ref a) (.tuple ds)
  | scr {a : Addr} {o : PySem.Obj} {ns : List Int} : ¬ R a → H a = some (.frz o (.lst (ns.map V.int))) → Dq R H (.ref a) (scr (ns.map .int))
  | scrK {a : Addr} {ns : List Int} : (∀ H : Hp, SqL K H a (ns.map V.int)) → Dq R H (.ref a) (scr (ns.map .int))
inductive DqA (R : Addr → Prop) (H : Hp) : List V → List D → Prop
  | nil : DqA R H [] []
  | cons {v : V} {vs : List V} {d : D} {ds : List D} : Dq R H v d → DqA R H vs ds → DqA R H (v :: vs) (d :: ds)
end
/-- what stands at a tracked object of ours -/
def ObjR (R : Addr → Prop) (H : Hp) (a : Addr) : VI.Obj → Prop
  | .no => ∃ vs, H a = some (.lst vs)
  | .pl ds => ∃ vs, H a = some (.lst vs) ∧ DqA K R H vs ds
structure Rep (R : Addr → Prop) (H : Hp) (S : Store) (φ : List Addr) : Prop where
  len : φ.length = S.length
  nd : φ.Nodup
  own : ∀ a ∈ φ, R a
  trk : ∀ b, R b → ∃ o, H b = some o
  obj : ∀ (n : Nat) (o : VI.Obj) (a : Addr), S[n]? = some o → φ[n]? = some a → ObjR K R H a o
def WR (R : Addr → Prop) (H : Hp) (φ : List Addr) : W → V → Prop
  | .p d, v => Dq K R H v d
  | .loc n, v => ∃ a, φ[n]? = some a ∧ v = .ref a
  | .nw o, v => ∃ a, v = .ref a ∧ R a ∧ a ∉ φ ∧ ObjR K R H a o
structure Ext (φ : List Addr) (R : Addr → Prop) (H : Hp) (R' : Addr → Prop) (H' : Hp) : Prop where
  fr : ∀ b o, H b = some o → b ∉ φ → H' b = some o
  up : ∀ b, R b → R' b
  dn : ∀ b, R' b → R b ∨ H b = none
structure EnvR (R : Addr → Prop) (H : Hp) (φ : List Addr) (σ : Sl) (env : Env) : Prop where
  len : env.length = σ.length
  val : ∀ (i : Nat) (w : W), env[i]? = some (some w) → (∀ o, w ≠ .nw o) ∧ ∃ v, σ[i]? = some (some v) ∧ WR K R H φ w v
structure Post (φ : List Addr) (R : Addr → Prop) (H : Hp) (S' : Store) (w : W) (v : V) (R' : Addr → Prop) (H' : Hp) : Prop where
  ext : Ext φ R H R' H'
  rep : Rep K R' H' S' φ
  val : WR K R' H' φ w v
  fresh : ∀ o, w = .nw o → ∀ a, v = .ref a → H a = none
variable {K}
theorem ObjR.lst {R : Addr → Prop} {H : Hp} {a : Addr} {o : VI.Obj} (h : ObjR K R H a o) : ∃ vs, H a = some (.lst vs) := by
  cases o with
  | no => exact h
  | pl ds => obtain ⟨vs, h, _⟩ := h; exact ⟨vs, h⟩
theorem Rep.at {R : Addr → Prop} {H : Hp} {S : Store} {φ : List Addr} (r : Rep K R H S φ) {a : Addr} (h : a ∈ φ) : ∃ (n : Nat) (o : VI.Obj), S[n]? = some o ∧ φ[n]? = some a ∧ ObjR K R H a o := by
  obtain ⟨n, hn⟩ := List.getElem?_of_mem h
  have hl : n < S.length := by rw [← r.len]; exact (List.getElem?_eq_some_iff.mp hn).1
  exact ⟨n, S[n], List.getElem?_eq_getElem hl, hn, r.obj n _ a (List.getElem?_eq_getElem hl) hn⟩
theorem Rep.lst {R : Addr → Prop} {H : Hp} {S : Store} {φ : List Addr} (r : Rep K R H S φ) {a : Addr} (h : a ∈ φ) : ∃ vs, H a = some (.lst vs) := by
  obtain ⟨_, _, _, _, h⟩ := r.at h
  exact h.lst
theorem Rep.get {R : Addr → Prop} {H : Hp} {S : Store} {φ : List Addr} (r : Rep K R H S φ) {n : Nat} {o : VI.Obj} (h : S[n]? = some o) : ∃ a, φ[n]? = some a ∧ ObjR K R H a o := by
  have hl : n < φ.length := by rw [r.len]; exact (List.getElem?_eq_some_iff.mp h).1
  exact ⟨φ[n], List.getElem?_eq_getElem hl, r.obj n o _ h (List.getElem?_eq_getElem hl)⟩
/-- what a step leaves as it is: lists that nobody owns, tuples -/
structure Stay (R : Addr → Prop) (H : Hp) (R' : Addr → Prop) (H' : Hp) : Prop where
  own : ∀ b vs, H b = some (.lst vs) → ¬ R b → H' b = some (.lst vs) ∧ ¬ R' b
  tup : ∀ b vs, H b = some (.tup vs) → H' b = some (.tup vs)
  frz : ∀ b o u, H b = some (.frz o u) → H' b = some (.frz o u) ∧ (¬ R b → ¬ R' b)
section
variable {R R' R'' : Addr → Prop} {H H' H'' : Hp} {S S' : Store} {φ : List Addr}
mutual
theorem Dq.stay (st : Stay R H R' H') : ∀ {v : V} {d : D}, Dq K R H v d → Dq K R' H' v d
  | _, _, .non => .non
  | _, _, .bl b => .bl b
  | _, _, .int i => .int i
  | _, _, .str x => .str x
  | _, _, .lst h1 h2 h3 => let ⟨q1, q2⟩ := st.own _ _ h2 h1; .lst q2 q1 (DqA.stay st h3)
  | _, _, .tup h1 h3 => .tup (by
      rcases h1 with (h1 | ⟨o, h1⟩) | h1
      · exact .inl (.inl (st.tup _ _ h1))
      · exact .inl (.inr ⟨o, (st.frz _ _ _ h1).1⟩)
      · exact .inr h1) (DqA.stay st h3)
  | _, _, .scr h1 h2 => let ⟨q1, q2⟩ := st.frz _ _ _ h2; .scr (q2 h1) q1
  | _, _, .scrK h => .scrK h
theorem DqA.stay (st : Stay R H R' H') : ∀ {vs : List V} {ds : List D}, DqA K R H vs ds → DqA K R' H' vs ds
  | _, _, .nil => .nil
  | _, _, .cons h t => .cons (Dq.stay st h) (DqA.stay st t)
end
end
end VI
namespace VI
open PySem PySem.Spec PyProof.Rows L2
variable {K : PySem.W.Frag}
section
variable {R R' R'' : Addr → Prop} {H H' H'' : Hp} {S S' : Store} {φ : List Addr} {v : V} {w : W} {d : D} {ds : List D} {vs : List V}
theorem Ext.refl : Ext φ R H R H := ⟨fun _ _ h _ => h, fun _ h => h, fun _ h => .inl h⟩
theorem Ext.trans (a : Ext φ R H R' H') (b : Ext φ R' H' R'' H'') (l : ∀ b ∈ φ, R b) : Ext φ R H R'' H'' :=
  ⟨fun c o h hn => b.fr c o (a.fr c o h hn) hn, fun c h => b.up c (a.up c h), fun c h => by
    rcases b.dn c h with q | q
    · exact a.dn c q
    · cases z : H c with
      | none => exact .inr rfl
      | some o =>
        by_cases hc : c ∈ φ
        · exact .inl (l c hc)
        · rw [a.fr c o z hc] at q; cases q⟩
theorem Ext.stay (e : Ext φ R H R' H') (r : Rep K R H S φ) : Stay R H R' H' where
  own := fun b vs h hn => ⟨e.fr b _ h (fun z => hn (r.own b z)), fun z => (e.dn b z).elim hn fun q => by rw [h] at q; cases q⟩
  tup := fun b vs h => e.fr b _ h fun z => by obtain ⟨ws, q⟩ := r.lst z; rw [h] at q; cases q
  frz := fun b o u h => ⟨e.fr b _ h (fun z => by obtain ⟨ws, q⟩ := r.lst z; rw [h] at q; cases q), fun hn z => (e.dn b z).elim hn fun q => by rw [h] at q; cases q⟩
theorem Dq.ext (h : Dq K R H v d) (e : Ext φ R H R' H') (r : Rep K R H S φ) : Dq K R' H' v d := h.stay (e.stay r)
theorem DqA.ext (h : DqA K R H vs ds) (e : Ext φ R H R' H') (r : Rep K R H S φ) : DqA K R' H' vs ds := h.stay (e.stay r)
theorem WR.ext (h : WR K R H φ w v) (e : Ext φ R H R' H') (r : Rep K R H S φ) : WR K R' H' φ w v := by
  cases w with
  | p d => exact Dq.ext h e r
  | loc n => exact h
  | nw o =>
    obtain ⟨a, rfl, h1, h2, h3⟩ := h
    refine ⟨a, rfl, e.up a h1, h2, ?_⟩
    cases o with
    | no => obtain ⟨vs, q⟩ := h3; exact ⟨vs, e.fr _ _ q h2⟩
    | pl ds => obtain ⟨vs, q, q2⟩ := h3; exact ⟨vs, e.fr _ _ q h2, q2.ext e r⟩
theorem EnvR.ext {σ : Sl} {env : Env} (h : EnvR K R H φ σ env) (e : Ext φ R H R' H') (r : Rep K R H S φ) : EnvR K R' H' φ σ env :=
  ⟨h.len, fun i w hw => let ⟨q0, v, q1, q2⟩ := h.val i w hw; ⟨q0, v, q1, q2.ext e r⟩⟩
/-- an object stands as it stood -/
theorem ObjR.ext {a : Addr} {o : VI.Obj} (h : ObjR K R H a o) (e : Ext φ R H R' H') (r : Rep K R H S φ) (ha : H' a = H a) : ObjR K R' H' a o := by
  cases o with
  | no => obtain ⟨vs, q⟩ := h; exact ⟨vs, by rw [ha]; exact q⟩
  | pl ds => obtain ⟨vs, q, q2⟩ := h; exact ⟨vs, by rw [ha]; exact q, q2.ext e r⟩
/-- nothing of ours was changed -/
theorem Rep.ext (r : Rep K R H S φ) (e : Ext φ R H R' H') (k : ∀ a ∈ φ, H' a = H a) (t : ∀ b, R' b → ∃ o, H' b = some o) : Rep K R' H' S φ :=
  ⟨r.len, r.nd, fun a h => e.up a (r.own a h), t, fun n o a h1 h2 => (r.obj n o a h1 h2).ext e r (k a (List.mem_of_getElem? h2))⟩
theorem DqA.len : ∀ {vs : List V} {ds : List D}, DqA K R H vs ds → vs.length = ds.length
  | _, _, .nil => rfl
  | _, _, .cons _ t => congrArg (· + 1) (DqA.len t)
theorem DqA.get : ∀ {vs : List V} {ds : List D} {i : Nat} {d : D}, DqA K R H vs ds → ds[i]? = some d → ∃ v, vs[i]? = some v ∧ Dq K R H v d
  | _, _, _, _, .nil, e => by simp at e
  | _, _, 0, _, .cons h _, e => by simp at e; subst e; exact ⟨_, rfl, h⟩
  | _, _, i + 1, _, .cons _ t, e => DqA.get (i := i) t (by simpa using e)
theorem DqA.append : ∀ {vs us : List V} {ds es : List D}, DqA K R H vs ds → DqA K R H us es → DqA K R H (vs ++ us) (ds ++ es)
  | _, _, _, _, .nil, b => b
  | _, _, _, _, .cons h t, b => .cons h (DqA.append t b)
theorem DqA.take : ∀ {vs : List V} {ds : List D} (n : Nat), DqA K R H vs ds → DqA K R H (vs.take n) (ds.take n)
  | _, _, 0, _ => by simpa using .nil
  | _, _, _ + 1, .nil => .nil
  | _, _, n + 1, .cons h t => .cons h (DqA.take n t)
theorem DqA.drop : ∀ {vs : List V} {ds : List D} (n : Nat), DqA K R H vs ds → DqA K R H (vs.drop n) (ds.drop n)
  | _, _, 0, h => h
  | _, _, _ + 1, .nil => .nil
  | _, _, n + 1, .cons _ t => DqA.drop n t
theorem DqA.set {v : V} {d : D} (h : Dq K R H v d) : ∀ {vs : List V} {ds : List D} (n : Nat), DqA K R H vs ds → DqA K R H (vs.set n v) (ds.set n d)
  | _, _, _, .nil => .nil
  | _, _, 0, .cons _ t => .cons h t
  | _, _, n + 1, .cons q t => .cons q (DqA.set h n t)
theorem DqA.eraseIdx : ∀ {vs : List V} {ds : List D} (n : Nat), DqA K R H vs ds → DqA K R H (vs.eraseIdx n) (ds.eraseIdx n)
  | _, _, _, .nil => .nil
  | _, _, 0, .cons _ t => t
  | _, _, n + 1, .cons q t => .cons q (DqA.eraseIdx n t)
theorem DqA.dropLast {vs : List V} {ds : List D} (h : DqA K R H vs ds) : DqA K R H vs.dropLast ds.dropLast := by
  rw [List.dropLast_eq_take, List.dropLast_eq_take, h.len]
  exact h.take _
theorem DqA.rep {vs : List V} {ds : List D} (h : DqA K R H vs ds) : ∀ k : Nat, DqA K R H (List.replicate k vs).flatten (List.replicate k ds).flatten
  | 0 => .nil
  | k + 1 => by
    rw [List.replicate_succ, List.replicate_succ, List.flatten_cons, List.flatten_cons]
    exact h.append (DqA.rep h k)
theorem DqA.ints : ∀ (ns : List Int), DqA K R H (ns.map V.int) (ns.map .int)
  | [] => .nil
  | n :: r => .cons (.int n) (DqA.ints r)
theorem DqA.ints_of : ∀ {vs : List V} {ds : List D} {ns : List Int}, DqA K R H vs ds → allInt ds = some ns → vs = ns.map V.int ∧ ds = ns.map .int
  | _, _, ns, .nil, e => by simp [allInt] at e; subst e; exact ⟨rfl, rfl⟩
  | _, _, ns, .cons h t, e => by
    cases h with
    | int i =>
      simp only [allInt, Option.map_eq_some_iff] at e
      obtain ⟨ms, e1, rfl⟩ := e
      obtain ⟨q1, q2⟩ := DqA.ints_of t e1
      exact ⟨by rw [q1]; rfl, by rw [q2]; rfl⟩
    | _ => simp [allInt] at e
theorem DqA.bools_of : ∀ {vs : List V} {ds : List D} {bs : List Bool}, DqA K R H vs ds → allBool ds = some bs → vs = bs.map V.bl ∧ ds = bs.map .bool
  | _, _, ns, .nil, e => by simp [allBool] at e; subst e; exact ⟨rfl, rfl⟩
  | _, _, ns, .cons h t, e => by
    cases h with
    | bl i =>
      simp only [allBool, Option.map_eq_some_iff] at e
      obtain ⟨ms, e1, rfl⟩ := e
      obtain ⟨q1, q2⟩ := DqA.bools_of t e1
      exact ⟨by rw [q1]; rfl, by rw [q2]; rfl⟩
    | _ => simp [allBool] at e
theorem DqA.strs_of : ∀ {vs : List V} {ds : List D} {xs : List Str}, DqA K R H vs ds → allStr ds = some xs → vs = xs.map V.str ∧ ds = xs.map .str
  | _, _, ns, .nil, e => by simp [allStr] at e; subst e; exact ⟨rfl, rfl⟩
  | _, _, ns, .cons h t, e => by
    cases h with
    | str i =>
      simp only [allStr, Option.map_eq_some_iff] at e
      obtain ⟨ms, e1, rfl⟩ := e
      obtain ⟨q1, q2⟩ := DqA.strs_of t e1
      exact ⟨by rw [q1]; rfl, by rw [q2]; rfl⟩
    | _ => simp [allStr] at e

/-! ### what comes out of an operation that changes nothing of ours -/
theorem Post.same (r : Rep K R H S φ) (h : Dq K R H v d) : Post K φ R H S (.p d) v R H := ⟨.refl, r, h, fun o e => nomatch e⟩
theorem Post.loc (r : Rep K R H S φ) {n : Nat} {a : Addr} (h : φ[n]? = some a) : Post K φ R H S (.loc n) (.ref a) R H := ⟨.refl, r, ⟨a, h, rfl⟩, fun o e => nomatch e⟩
theorem Rep.out (r : Rep K R H S φ) {p : Addr} (hp : H p = none) : p ∉ φ := fun z => by obtain ⟨vs, q⟩ := r.lst z; rw [hp] at q; cases q
theorem Rep.outR (r : Rep K R H S φ) {p : Addr} (hp : H p = none) : ¬ R p := fun z => by obtain ⟨o, q⟩ := r.trk p z; rw [hp] at q; cases q
theorem ext_upd (r : Rep K R H S φ) {p : Addr} {o : HO} (hp : H p = none) : Ext φ R H R (upd H p o) :=
  ⟨fun b u h _ => by rw [upd_ne (ne_of_none h hp)]; exact h, fun _ h => h, fun _ h => .inl h⟩
theorem ext_own (r : Rep K R H S φ) {p : Addr} {o : HO} (hp : H p = none) : Ext φ R H (fun b => R b ∨ b = p) (upd H p o) :=
  ⟨fun b u h _ => by rw [upd_ne (ne_of_none h hp)]; exact h, fun _ h => .inl h, fun b h => h.elim .inl fun e => .inr (by rw [e]; exact hp)⟩
theorem trk_upd {p : Addr} {o : HO} (t : ∀ b, R b → ∃ o, H b = some o) : ∀ b, R b → ∃ u, upd H p o b = some u := fun b h => by
  by_cases e : b = p
  · exact ⟨o, by rw [e]; exact upd_same⟩
  · rw [upd_ne e]; exact t b h
theorem trk_own {p : Addr} {o : HO} (t : ∀ b, R b → ∃ o, H b = some o) : ∀ b, (R b ∨ b = p) → ∃ u, upd H p o b = some u := fun b h => by
  by_cases e : b = p
  · exact ⟨o, by rw [e]; exact upd_same⟩
  · rw [upd_ne e]; exact t b (h.elim id fun z => absurd z e)
theorem Rep.upd (r : Rep K R H S φ) {p : Addr} {o : HO} (hp : H p = none) : Rep K R (upd H p o) S φ :=
  r.ext (ext_upd r hp) (fun a h => upd_ne fun z => r.out hp (z ▸ h)) (trk_upd r.trk)
theorem Rep.updOwn (r : Rep K R H S φ) {p : Addr} {o : HO} (hp : H p = none) : Rep K (fun b => R b ∨ b = p) (L2.upd H p o) S φ :=
  r.ext (ext_own r hp) (fun a h => upd_ne fun z => r.out hp (z ▸ h)) (trk_own r.trk)
theorem Post.newTup (r : Rep K R H S φ) {p : Addr} (hp : H p = none) (h : DqA K R H vs ds) : Post K φ R H S (.p (.tuple ds)) (.ref p) R (upd H p (.tup vs)) :=
  ⟨ext_upd r hp, r.upd hp, .tup (.inl (.inl upd_same)) (h.ext (ext_upd r hp) r), fun o e => nomatch e⟩
theorem Post.newLst (r : Rep K R H S φ) {p : Addr} (hp : H p = none) (h : DqA K R H vs ds) : Post K φ R H S (.nw (.pl ds)) (.ref p) (fun b => R b ∨ b = p) (upd H p (.lst vs)) :=
  ⟨ext_own r hp, r.updOwn hp, ⟨p, rfl, .inr rfl, r.out hp, vs, upd_same, h.ext (ext_own r hp) r⟩, fun o e a e2 => by cases e2; exact hp⟩
/-- a value that is read -/
inductive Dr (K : PySem.W.Frag) (R : Addr → Prop) (H : Hp) : V → D → Prop
  | d {v : V} {d : D} : Dq K R H v d → Dr K R H v d
  | l {a : Addr} {vs : List V} {ds : List D} : H a = some (.lst vs) → DqA K R H vs ds → Dr K R H (.ref a) (.list ds)
theorem rd_ok (r : Rep K R H S φ) (h : WR K R H φ w v) (e : rd w S = some d) : Dr K R H v d := by
  cases w with
  | p d' => simp only [rd, Option.some.injEq] at e; subst e; exact .d h
  | loc n =>
    obtain ⟨a, h1, rfl⟩ := h
    cases q : S[n]? with
    | none => simp [rd, q] at e
    | some o =>
      cases o with
      | no => simp [rd, q] at e
      | pl ds =>
        simp only [rd, q, Option.some.injEq] at e
        subst e
        obtain ⟨vs, h2, h3⟩ := r.obj n _ a q h1
        exact .l h2 h3
  | nw o =>
    obtain ⟨a, rfl, _, _, h3⟩ := h
    cases o with
    | no => cases e
    | pl ds =>
      simp only [rd, Option.some.injEq] at e
      subst e
      obtain ⟨vs, h2, h3⟩ := h3
      exact .l h2 h3
theorem Dr.lst {v : V} {ds : List D} (h : Dr K R H v (.list ds)) : ∃ a vs, v = .ref a ∧ H a = some (.lst vs) ∧ DqA K R H vs ds := by
  cases h with
  | d h => cases h with | lst h1 h2 h3 => exact ⟨_, _, rfl, h2, h3⟩
  | l h1 h2 => exact ⟨_, _, rfl, h1, h2⟩
theorem Dr.tup {v : V} {ds : List D} (h : Dr K R H v (.tuple ds)) : ∃ a vs, v = .ref a ∧ SqT K H a vs ∧ DqA K R H vs ds := by
  cases h with
  | d h => cases h with | tup h2 h3 => exact ⟨_, _, rfl, h2, h3⟩
theorem Dr.int {v : V} {i : Int} (h : Dr K R H v (.int i)) : v = .int i := by
  cases h with | d h => cases h; rfl
theorem Dr.str {v : V} {i : Str} (h : Dr K R H v (.str i)) : v = .str i := by
  cases h with | d h => cases h; rfl
theorem Dr.bl {v : V} {i : Bool} (h : Dr K R H v (.bool i)) : v = .bl i := by
  cases h with | d h => cases h; rfl
theorem Dr.non {v : V} (h : Dr K R H v .none) : v = .non := by
  cases h with | d h => cases h; rfl
mutual
theorem Dq.dp : ∀ {v : V} {d : D}, Dq K R H v d → d.canLay0 = true → Dp K H v d
  | _, _, .non, _ => .non
  | _, _, .bl b, _ => .bl b
  | _, _, .int i, _ => .int i
  | _, _, .str x, _ => .str x
  | _, _, .lst h1 h2 h3, c => .lst (SqL.of h2) (DqA.dp h3 (by simpa [PyData.canLay0] using c))
  | _, _, .tup h1 h3, c => .tup h1 (DqA.dp h3 (by simpa [PyData.canLay0] using c))
  | _, _, .scr _ _, c => by simp [PyData.canLay0] at c
  | _, _, .scrK _, c => by simp [PyData.canLay0] at c
theorem DqA.dp : ∀ {vs : List V} {ds : List D}, DqA K R H vs ds → PyData.canLayAll0 ds = true → DpAll K H vs ds
  | _, _, .nil, _ => .nil
  | _, _, .cons h t, c => by
    simp only [PyData.canLayAll0, Bool.and_eq_true] at c
    exact .cons (Dq.dp h c.1) (DqA.dp t c.2)
end
theorem Dr.dp {v : V} {d : D} (h : Dr K R H v d) (c : d.canLay0 = true) : Dp K H v d := by
  cases h with
  | d h => exact h.dp c
  | l h1 h2 => exact .lst (SqL.of h1) (h2.dp (by simpa [PyData.canLay0] using c))
end
end VI
set_option Elab.async false
set_option linter.all false
set_option maxRecDepth 100000
namespace VI
open PySem PySem.Spec PyProof.Rows L2
variable {X : Cx}
/-- an operation on data, by values -/
def rB (K : PySem.W.Frag) (f : D → D → Option W) : R2 := fun x y H Q => ∃ R S φ d e w, Rep K R H S φ ∧ Dr K R H x d ∧ Dr K R H y e ∧ f d e = some w ∧ ∀ v R' H', Post K φ R H S w v R' H' → Q v H'
/-- a comparison -/
def rC (K : PySem.W.Frag) (f : D → D → Option Bool) : R2 := fun x y H Q => ∃ R S φ d e c, Rep K R H S φ ∧ Dr K R H x d ∧ Dr K R H y e ∧ f d e = some c ∧ Q (.bl c) H
/-- a call of a builtin -/
def rF (K : PySem.W.Frag) (f : List D → Option W) : List V → Hp → VK → Prop := fun vs H Q => ∃ R S φ ds w, Rep K R H S φ ∧ Paired (Dr K R H) vs ds ∧ f ds = some w ∧ ∀ v R' H', Post K φ R H S w v R' H' → Q v H'
theorem le_line {n : Nat} (h : n ≤ L) : n ≤ sizeLine := by rw [sizeLine_eq]; exact h
theorem small_of {a : Int} (h : smallI a = true) : -(2 ^ 64) < a ∧ a < 2 ^ 64 := by
  unfold smallI at h
  simpa using h
def opO : Bop → Operator
  | .add => .Add | .sub => .Sub | .mul => .Mult | .fdiv => .FloorDiv | .mod => .Mod | .pow => .Pow
def opC : Cop → CmpOp
  | .eq => .Eq | .ne => .NotEq | .lt => .Lt | .le => .LtE | .gt => .Gt | .ge => .GtE | .is => .Is | .isn => .IsNot | .inn => .In | .nin => .NotIn

theorem ob_bin (o : Bop) : OpR X (binaryOp (opO o)) (rB X.K (bop o)) := by
  intro pins s σ H x y v u Q I rx ry h
  obtain ⟨R, S, φ, d, e, w, rep, dx, dy, he, q⟩ := h
  unfold bop at he
  split at he
  · cases he
    obtain rfl := dx.int
    obtain rfl := dy.int
    exact op_add pins s σ H _ _ v u Q I rx ry ⟨_, _, rfl, rfl, q _ _ _ (.same rep (.int _))⟩
  · split at he
    · rename_i hl
      cases he
      obtain rfl := dx.str
      obtain rfl := dy.str
      exact op_add_str pins s σ H _ _ v u Q I rx ry ⟨_, _, rfl, rfl, le_line hl, q _ _ _ (.same rep (.str _))⟩
    · cases he
  · split at he
    · rename_i hl
      cases he
      obtain ⟨a, xs, rfl, hx, ax⟩ := dx.tup
      obtain ⟨b, ys, rfl, hy, ay⟩ := dy.tup
      have l1 := ax.len
      have l2 := ay.len
      refine op_catA pins s σ H _ _ v u Q I rx ry ⟨a, b, xs, ys, rfl, rfl, hx, hy, le_line (by rw [l1, l2]; exact hl), fun e => ?_, fun _ e => ?_, fun _ _ p hp => ?_⟩
      · subst e
        cases ax
        exact q _ _ _ (.same rep (.tup hy ay))
      · subst e
        cases ay
        refine q _ _ _ (.same rep ?_)
        rw [List.append_nil]
        exact .tup hx ax
      · exact q _ _ _ (.newTup rep hp (ax.append ay))
    · cases he
  · split at he
    · rename_i hl
      cases he
      obtain ⟨a, xs, rfl, hx, ax⟩ := dx.lst
      obtain ⟨b, ys, rfl, hy, ay⟩ := dy.lst
      have l1 := ax.len
      have l2 := ay.len
      exact op_cat pins s σ H _ _ v u Q I rx ry ⟨a, b, xs, ys, rfl, rfl, hx, hy, le_line (by rw [l1, l2]; exact hl), fun p hp => q _ _ _ (.newLst rep hp (ax.append ay))⟩
    · cases he
  · cases he
    obtain rfl := dx.int
    obtain rfl := dy.int
    exact op_sub pins s σ H _ _ v u Q I rx ry ⟨_, _, rfl, rfl, q _ _ _ (.same rep (.int _))⟩
  · split at he
    · rename_i hl
      cases he
      obtain rfl := dx.int
      obtain rfl := dy.int
      refine op_mul pins s σ H _ _ v u Q I rx ry ⟨_, _, rfl, rfl, ?_, q _ _ _ (.same rep (.int _))⟩
      rw [Bool.or_eq_true] at hl
      exact hl.imp small_of small_of
    · cases he
  · split at he
    · rename_i hl
      cases he
      obtain ⟨a, xs, rfl, hx, ax⟩ := dx.lst
      obtain rfl := dy.int
      have l1 := ax.len
      simp only [Bool.and_eq_true, decide_eq_true_eq] at hl
      exact op_rep pins s σ H _ _ v u Q I rx ry ⟨a, _, xs, rfl, rfl, hx, hl.1.1, hl.1.2, le_line (by rw [l1]; exact hl.2), fun p hp => q _ _ _ (.newLst rep hp (ax.rep _))⟩
    · cases he
  · split at he
    · rename_i hl
      cases he
      obtain rfl := dx.int
      obtain rfl := dy.int
      simp only [Bool.and_eq_true, decide_eq_true_eq] at hl
      exact op_fdiv pins s σ H _ _ v u Q I rx ry ⟨_, _, rfl, rfl, hl, q _ _ _ (.same rep (.int _))⟩
    · cases he
  · split at he
    · rename_i hl
      cases he
      obtain rfl := dx.int
      obtain rfl := dy.int
      simp only [decide_eq_true_eq] at hl
      exact op_mod pins s σ H _ _ v u Q I rx ry ⟨_, _, rfl, rfl, hl, q _ _ _ (.same rep (.int _))⟩
    · cases he
  · split at he
    · rename_i hl
      cases he
      obtain rfl := dx.int
      obtain rfl := dy.int
      simp only [Bool.and_eq_true, decide_eq_true_eq] at hl
      exact op_pow pins s σ H _ _ v u Q I rx ry ⟨_, _, rfl, rfl, ⟨hl.1.1, hl.1.2, hl.2⟩, q _ _ _ (.same rep (.int _))⟩
    · cases he
  · cases he
end VI
set_option Elab.async false
set_option linter.all false
set_option maxRecDepth 100000
set_option maxHeartbeats 400000
namespace VI
open PySem PySem.Spec PyProof.Rows L2
variable {X : Cx}
theorem is_bool_gen {M : Model} {A : Around} {E : Value → Shared → Prop} {s : Shared} {Q : Value → Shared → Prop} {x : V} {v : Value} {b : Bool} (r : RelV x v) (h : Q (.bool (v == .bool b)) s) : wpAny M A (compareOp .Is v (.bool b)) Q E s := by
  cases v <;> first | exact wpAny_pure h | (cases x <;> first | (cases r; done) | (obtain ⟨t, z⟩ := r; cases z))
theorem isnot_bool_gen {M : Model} {A : Around} {E : Value → Shared → Prop} {s : Shared} {Q : Value → Shared → Prop} {x : V} {v : Value} {b : Bool} (r : RelV x v) (h : Q (.bool (!(v == .bool b))) s) : wpAny M A (compareOp .IsNot v (.bool b)) Q E s := by
  cases v <;> first | exact wpAny_pure h | (cases x <;> first | (cases r; done) | (obtain ⟨t, z⟩ := r; cases z))
theorem Dr.cases_non {K : PySem.W.Frag} {R : Addr → Prop} {H : Hp} {x : V} {v : Value} {d : D} (h : Dr K R H x d) (rx : RelV x v) : (v == Value.none) = noneD d := by
  rw [rx.none_iff]
  cases h with
  | d h => cases h <;> simp [noneD]
  | l h1 h2 => simp [noneD]
theorem Dr.cases_bool {K : PySem.W.Frag} {R : Addr → Prop} {H : Hp} {x : V} {v : Value} {d : D} {b : Bool} (h : Dr K R H x d) (rx : RelV x v) : (v == Value.bool b) = boolD b d := by
  cases h with
  | d h =>
    cases h with
    | non => cases rx; rfl
    | bl c => cases rx; cases b <;> cases c <;> rfl
    | int i => obtain ⟨t, rfl⟩ := rx; rfl
    | str i => obtain ⟨t, rfl⟩ := rx; rfl
    | _ => cases rx; rfl
  | l h1 h2 => cases rx; rfl
theorem ob_is : OpR X (compareOp .Is) (rC X.K isD) := by
  intro pins s σ H x y v u Q I rx ry h
  obtain ⟨R, S, φ, d, e, c, rep, dx, dy, he, q⟩ := h
  unfold isD at he
  split at he
  · cases he
    obtain rfl := dy.non
    cases ry
    exact is_none_gen (fin_bl I q (dx.cases_non rx).symm)
  · cases he
    obtain rfl := dy.bl
    cases ry
    exact is_bool_gen rx (fin_bl I q (dx.cases_bool rx).symm)
  · cases he
theorem ob_isn : OpR X (compareOp .IsNot) (rC X.K fun d e => (isD d e).map (!·)) := by
  intro pins s σ H x y v u Q I rx ry h
  obtain ⟨R, S, φ, d, e, c, rep, dx, dy, he, q⟩ := h
  rw [Option.map_eq_some_iff] at he
  obtain ⟨c', he, rfl⟩ := he
  unfold isD at he
  split at he
  · cases he
    obtain rfl := dy.non
    cases ry
    exact isnot_none_gen (fin_bl I q (by rw [dx.cases_non rx]))
  · cases he
    obtain rfl := dy.bl
    cases ry
    exact isnot_bool_gen rx (fin_bl I q (by rw [dx.cases_bool rx]))
  · cases he
theorem shaped_lay {d : D} (h : SeqAt.shaped d = true) : d.canLay0 = true := SeqAt.canLay_of_shaped h
theorem eq_cases {d e : D} (h : eqok d e = true) : (SeqAt.shaped d = true ∧ SeqAt.shaped e = true) ∨ (∃ a, d = .str a ∧ isScal e = true) ∨ (∃ b, e = .str b ∧ isScal d = true) := by
  unfold eqok at h
  rw [Bool.or_eq_true, Bool.and_eq_true, Bool.and_eq_true] at h
  rcases h with ⟨h1, h2⟩ | h
  · cases d with
    | str a => exact .inr (.inl ⟨a, rfl, h2⟩)
    | list _ => cases h1
    | tuple _ => cases h1
    | dict _ => cases h1
    | none =>
      cases e with
      | str b => exact .inr (.inr ⟨b, rfl, h1⟩)
      | list _ => cases h2
      | tuple _ => cases h2
      | dict _ => cases h2
      | _ => exact .inl ⟨by simp [SeqAt.shaped, PyData.canLay0, PyData.depth], by simp [SeqAt.shaped, PyData.canLay0, PyData.depth]⟩
    | bool x =>
      cases e with
      | str b => exact .inr (.inr ⟨b, rfl, h1⟩)
      | list _ => cases h2
      | tuple _ => cases h2
      | dict _ => cases h2
      | _ => exact .inl ⟨by simp [SeqAt.shaped, PyData.canLay0, PyData.depth], by simp [SeqAt.shaped, PyData.canLay0, PyData.depth]⟩
    | int x =>
      cases e with
      | str b => exact .inr (.inr ⟨b, rfl, h1⟩)
      | list _ => cases h2
      | tuple _ => cases h2
      | dict _ => cases h2
      | _ => exact .inl ⟨by simp [SeqAt.shaped, PyData.canLay0, PyData.depth], by simp [SeqAt.shaped, PyData.canLay0, PyData.depth]⟩
  · exact .inl h
theorem eqv_str (a b : Str) : PyData.eqv (.str a) (.str b) = decide (V.str a = V.str b) := by
  rw [dec_str]; simp [PyData.eqv]
theorem ob_eq (hu : X.A.units + 64 < cLine) : OpR X (compareOp .Eq) (rC X.K fun d e => if eqok d e then some (PyData.eqv d e) else none) := by
  intro pins s σ H x y v u Q I rx ry h
  obtain ⟨R, S, φ, d, e, c, rep, dx, dy, he, q⟩ := h
  simp only at he
  split at he
  · rename_i hk
    cases he
    rcases eq_cases hk with ⟨h1, h2⟩ | ⟨a, rfl, h2⟩ | ⟨b, rfl, h2⟩
    · exact op_eqD hu pins s σ H x y v u Q I rx ry ⟨d, e, dx.dp (shaped_lay h1), dy.dp (shaped_lay h2), h1, h2, q⟩
    · obtain rfl := dx.str
      refine op_eq pins s σ H _ y v u Q I rx ry ?_
      cases e with
      | none => obtain rfl := dy.non; exact ⟨rfl, by simpa [PyData.eqv] using q⟩
      | bool z => obtain rfl := dy.bl; exact ⟨rfl, by simpa [PyData.eqv] using q⟩
      | int z => obtain rfl := dy.int; exact ⟨rfl, by simpa [PyData.eqv] using q⟩
      | str z => obtain rfl := dy.str; exact ⟨rfl, by rw [eqv_str] at q; exact q⟩
      | _ => cases h2
    · obtain rfl := dy.str
      refine op_eq pins s σ H x _ v u Q I rx ry ?_
      cases d with
      | none => obtain rfl := dx.non; exact ⟨rfl, by simpa [PyData.eqv] using q⟩
      | bool z => obtain rfl := dx.bl; exact ⟨rfl, by simpa [PyData.eqv] using q⟩
      | int z => obtain rfl := dx.int; exact ⟨rfl, by simpa [PyData.eqv] using q⟩
      | str z => obtain rfl := dx.str; exact ⟨rfl, by rw [eqv_str] at q; exact q⟩
      | _ => cases h2
  · cases he
theorem ob_ne (hu : X.A.units + 64 < cLine) : OpR X (compareOp .NotEq) (rC X.K fun d e => if eqok d e then some (!PyData.eqv d e) else none) := by
  intro pins s σ H x y v u Q I rx ry h
  obtain ⟨R, S, φ, d, e, c, rep, dx, dy, he, q⟩ := h
  simp only at he
  split at he
  · rename_i hk
    cases he
    rcases eq_cases hk with ⟨h1, h2⟩ | ⟨a, rfl, h2⟩ | ⟨b, rfl, h2⟩
    · exact op_neD hu pins s σ H x y v u Q I rx ry ⟨d, e, dx.dp (shaped_lay h1), dy.dp (shaped_lay h2), h1, h2, q⟩
    · obtain rfl := dx.str
      refine op_ne pins s σ H _ y v u Q I rx ry ?_
      cases e with
      | none => obtain rfl := dy.non; exact ⟨rfl, by simpa [PyData.eqv] using q⟩
      | bool z => obtain rfl := dy.bl; exact ⟨rfl, by simpa [PyData.eqv] using q⟩
      | int z => obtain rfl := dy.int; exact ⟨rfl, by simpa [PyData.eqv] using q⟩
      | str z => obtain rfl := dy.str; exact ⟨rfl, by rw [eqv_str] at q; exact q⟩
      | _ => cases h2
    · obtain rfl := dy.str
      refine op_ne pins s σ H x _ v u Q I rx ry ?_
      cases d with
      | none => obtain rfl := dx.non; exact ⟨rfl, by simpa [PyData.eqv] using q⟩
      | bool z => obtain rfl := dx.bl; exact ⟨rfl, by simpa [PyData.eqv] using q⟩
      | int z => obtain rfl := dx.int; exact ⟨rfl, by simpa [PyData.eqv] using q⟩
      | str z => obtain rfl := dx.str; exact ⟨rfl, by rw [eqv_str] at q; exact q⟩
      | _ => cases h2
  · cases he
theorem in_room {A : Around} {ds : List D} {d : D} (h : SeqAt.shaped d = true) (hu : A.units + 65 < cLine) : A.units + 1 + min (PyData.depthAll ds) d.depth < cLine := by
  have h1 := SeqAt.depth_of_shaped h
  have h2 : min (PyData.depthAll ds) d.depth ≤ d.depth := Nat.min_le_right _ _
  omega
theorem lay_all {ds : List D} (h : SeqAt.shaped (.list ds) = true) : PyData.canLayAll0 ds = true := by
  have q := shaped_lay h
  simpa [PyData.canLay0] using q
theorem lay_tup {ds : List D} (h : SeqAt.shaped (.list ds) = true) : PyData.canLay0 (.tuple ds) = true := by
  simpa [PyData.canLay0] using lay_all h
theorem ob_in (hu : X.A.units + 65 < cLine) : OpR X (compareOp .In) (rC X.K inD) := by
  intro pins s σ H x y v u Q I rx ry h
  obtain ⟨R, S, φ, d, e, c, rep, dx, dy, he, q⟩ := h
  unfold inD at he
  split at he
  · split at he
    · rename_i hk
      cases he
      rw [Bool.and_eq_true] at hk
      obtain ⟨as, r1⟩ := Dp.reads I _ x v (dx.dp (shaped_lay hk.1)) rx
      obtain ⟨bs, r2⟩ := Dp.reads I _ y u (dy.dp (shaped_lay hk.2)) ry
      exact SeqAt.in_list_reads r2 r1 (lay_all hk.2) (shaped_lay hk.1) (in_room hk.1 hu) ⟨.bl _, H, I, rfl, q⟩
    · cases he
  · split at he
    · rename_i hk
      cases he
      rw [Bool.and_eq_true] at hk
      obtain ⟨as, r1⟩ := Dp.reads I _ x v (dx.dp (shaped_lay hk.1)) rx
      obtain ⟨bs, r2⟩ := Dp.reads I _ y u (dy.dp (lay_tup hk.2)) ry
      exact SeqAt.in_tuple_reads r2 r1 (lay_all hk.2) (shaped_lay hk.1) (in_room hk.1 hu) ⟨.bl _, H, I, rfl, q⟩
    · cases he
  · cases he
theorem ob_nin (hu : X.A.units + 65 < cLine) : OpR X (compareOp .NotIn) (rC X.K fun d e => (inD d e).map (!·)) := by
  intro pins s σ H x y v u Q I rx ry h
  obtain ⟨R, S, φ, d, e, c, rep, dx, dy, he, q⟩ := h
  rw [Option.map_eq_some_iff] at he
  obtain ⟨c', he, rfl⟩ := he
  unfold inD at he
  split at he
  · split at he
    · rename_i hk
      cases he
      rw [Bool.and_eq_true] at hk
      obtain ⟨as, r1⟩ := Dp.reads I _ x v (dx.dp (shaped_lay hk.1)) rx
      obtain ⟨bs, r2⟩ := Dp.reads I _ y u (dy.dp (shaped_lay hk.2)) ry
      exact SeqAt.notIn_list_reads r2 r1 (lay_all hk.2) (shaped_lay hk.1) (in_room hk.1 hu) ⟨.bl _, H, I, rfl, q⟩
    · cases he
  · split at he
    · rename_i hk
      cases he
      rw [Bool.and_eq_true] at hk
      obtain ⟨as, r1⟩ := Dp.reads I _ x v (dx.dp (shaped_lay hk.1)) rx
      obtain ⟨bs, r2⟩ := Dp.reads I _ y u (dy.dp (lay_tup hk.2)) ry
      exact SeqAt.notIn_tuple_reads r2 r1 (lay_all hk.2) (shaped_lay hk.1) (in_room hk.1 hu) ⟨.bl _, H, I, rfl, q⟩
    · cases he
  · cases he
/-! ### the order -/
def isOrd : Cop → Bool
  | .lt | .le | .gt | .ge => true
  | _ => false
def szC (o : Cop) (a b : Nat) : Bool := match o with
  | .lt => decide (a < b)
  | .le => decide (a ≤ b)
  | .gt => decide (a > b)
  | .ge => decide (a ≥ b)
  | _ => false
theorem rc_tup {o : Cop} (ho : isOrd o = true) {A : Around} {s : Shared} {l b : Addr} {items items2 : Array Value} {e r : Nat → Bool} (hl : s.heap.IsTuple l items) (hb : s.heap.IsTuple b items2) (hu : A.units < cLine)
    (he : ∀ j (h1 : j < items.size) (h2 : j < items2.size), SeqAt.EqAt A.in1 s items[j] items2[j] (e j))
    (hr : ∀ j (h1 : j < items.size) (h2 : j < items2.size), e j = false → Ob.RcOp (opC o) A.in1 s items[j] items2[j] (r j)) :
    Ob.RcOp (opC o) A s (.ref l) (.ref b) (Ob.lexAt e r (szC o items.size items2.size) 0 (min items.size items2.size)) := by
  cases o with
  | lt => exact Ob.RcOp.tuples_lt hl hb hu he hr
  | le => exact Ob.RcOp.tuples_le hl hb hu he hr
  | gt => exact Ob.RcOp.tuples_gt hl hb hu he hr
  | ge => exact Ob.RcOp.tuples_ge hl hb hu he hr
  | _ => cases ho
theorem lexAt_shift (e r : Nat → Bool) (z : Bool) : ∀ (k i : Nat), Ob.lexAt e r z (i + 1) k = Ob.lexAt (fun j => e (j + 1)) (fun j => r (j + 1)) z i k
  | 0, i => rfl
  | k + 1, i => by rw [Ob.lexAt_succ, Ob.lexAt_succ, lexAt_shift e r z k (i + 1)]
theorem szC_succ (o : Cop) (a b : Nat) : szC o (a + 1) (b + 1) = szC o a b := by
  cases o <;> simp [szC]
theorem rel_sound (o : Cop) (ho : isOrd o = true) : ∀ (xs ys : List D) (b : Bool), relAll o xs ys = some b →
    Ob.lexAt (fun j => PyData.eqv (xs.getD j .none) (ys.getD j .none)) (fun j => (relD o (xs.getD j .none) (ys.getD j .none)).getD false) (szC o xs.length ys.length) 0 (min xs.length ys.length) = b ∧
    ∀ j, j < xs.length → j < ys.length → PyData.eqv (xs.getD j .none) (ys.getD j .none) = false → ∃ c, relD o (xs.getD j .none) (ys.getD j .none) = some c
  | [], [], b, h => by cases o <;> simp_all [relAll, szC, isOrd, Ob.lexAt_zero]
  | [], _ :: _, b, h => by cases o <;> simp_all [relAll, szC, isOrd, Ob.lexAt_zero]
  | _ :: _, [], b, h => by cases o <;> simp_all [relAll, szC, isOrd, Ob.lexAt_zero]
  | x :: xs, y :: ys, b, h => by
    rw [relAll] at h
    cases q : relAll o xs ys with
    | none => rw [q] at h; cases h
    | some r =>
      rw [q] at h
      obtain ⟨i1, i2⟩ := rel_sound o ho xs ys r q
      have hm : min (x :: xs).length (y :: ys).length = min xs.length ys.length + 1 := by simp only [List.length_cons]; omega
      simp only at h
      refine ⟨?_, fun j h1 h2 h3 => ?_⟩
      · rw [hm, Ob.lexAt_succ, lexAt_shift, List.length_cons, List.length_cons, szC_succ]
        by_cases hv : PyData.eqv x y = true
        · rw [if_pos hv] at h
          have hv' : PyData.eqv ((x :: xs).getD 0 .none) ((y :: ys).getD 0 .none) = true := hv
          rw [if_pos hv']
          cases h
          exact i1
        · rw [if_neg hv] at h
          have hv' : ¬ PyData.eqv ((x :: xs).getD 0 .none) ((y :: ys).getD 0 .none) = true := hv
          rw [if_neg hv']
          show (relD o x y).getD false = b
          rw [h]; rfl
      · cases j with
        | zero =>
          have h3 : PyData.eqv x y = false := h3
          rw [h3] at h
          exact ⟨b, h⟩
        | succ j => exact i2 j (by simpa using h1) (by simpa using h2) h3
theorem cps_gt_le (a b : List Nat) : (decide (b < a)) = !decide (a ≤ b) := by
  by_cases h : b < a
  · rw [decide_eq_true h, decide_eq_false (by exact List.not_le.mpr h)]; rfl
  · rw [decide_eq_false h, decide_eq_true (List.not_lt.mp h)]; rfl
section
variable {pins : List (Addr × PySem.Obj)} {s : Shared} {σ : Sl} {H : Hp}
theorem rd_at : ∀ (xs ys : List D) (vs ws : List V) (its its2 : List Value), DpAll X.K H vs xs → DpAll X.K H ws ys → Vals vs its → Vals ws its2 → PyData.canLayAll0 xs = true → PyData.canLayAll0 ys = true →
    ∀ (j : Nat) (h1 : j < its.length) (h2 : j < its2.length), ∃ z1 z2, Dp X.K H z1 (xs.getD j .none) ∧ Dp X.K H z2 (ys.getD j .none) ∧ RelV z1 its[j] ∧ RelV z2 its2[j] ∧ (xs.getD j .none).canLay0 = true ∧ (ys.getD j .none).canLay0 = true ∧ (xs.getD j .none).depth ≤ PyData.depthAll xs
  | [], _, _, _, _, _, .nil, _, .nil, _, _, _, j, h1, _ => absurd h1 (by simp)
  | _ :: _, [], _, _, _, _, _, .nil, _, .nil, _, _, j, _, h2 => absurd h2 (by simp)
  | x :: xs, y :: ys, _, _, _, _, .cons d1 a1, .cons d2 a2, .cons r1 t1, .cons r2 t2, c1, c2, j, h1, h2 => by
    simp only [PyData.canLayAll0, Bool.and_eq_true] at c1 c2
    cases j with
    | zero => exact ⟨_, _, d1, d2, r1, r2, c1.1, c2.1, by simp only [PyData.depthAll]; exact Nat.le_max_left _ _⟩
    | succ j =>
      obtain ⟨z1, z2, q1, q2, q3, q4, q5, q6, q7⟩ := rd_at xs ys _ _ _ _ a1 a2 t1 t2 c1.2 c2.2 j (by simpa using h1) (by simpa using h2)
      exact ⟨z1, z2, q1, q2, q3, q4, q5, q6, Nat.le_trans q7 (by simp only [PyData.depthAll]; exact Nat.le_max_right _ _)⟩
theorem rc_data (o : Cop) (ho : isOrd o = true) (I : Inv X pins σ H s) : ∀ (n : Nat) (d e : D) (b : Bool), d.depth ≤ n → relD o d e = some b → ∀ (A : Around) (x y : V) (v u : Value), Dp X.K H x d → Dp X.K H y e → RelV x v → RelV y u →
    d.canLay0 = true → e.canLay0 = true → A.units + d.depth < cLine → Ob.RcOp (opC o) A s v u b := by
  intro n
  induction n with
  | zero =>
    intro d e b hn h A x y v u dx dy rx ry c1 c2 hu
    cases d with
    | int a =>
      cases e with
      | int c =>
        cases dx; cases dy
        obtain ⟨t, rfl⟩ := rx
        obtain ⟨t', rfl⟩ := ry
        cases o with
        | lt => simp only [relD, Option.some.injEq] at h; subst h; exact Ob.RcOp.lt_int _ _ _ _
        | le => simp only [relD, Option.some.injEq] at h; subst h; exact Ob.RcOp.le_int _ _ _ _
        | gt => simp only [relD, Option.some.injEq] at h; subst h; exact Ob.RcOp.gt_int _ _ _ _
        | ge => simp only [relD, Option.some.injEq] at h; subst h; exact Ob.RcOp.ge_int _ _ _ _
        | _ => cases ho
      | _ => simp [relD] at h
    | str a =>
      cases e with
      | str c =>
        cases dx; cases dy
        obtain ⟨t, rfl⟩ := rx
        obtain ⟨t', rfl⟩ := ry
        cases o with
        | lt => simp only [relD, Option.some.injEq] at h; subst h; exact fun prog w E Q q => PyProof.Rows.lt_str q
        | le => simp only [relD, Option.some.injEq] at h; subst h; exact fun prog w E Q q => PySem.P.le_str q
        | gt => simp only [relD, Option.some.injEq] at h; subst h; exact fun prog w E Q q => PySem.P.gt_str q
        | ge => simp only [relD, Option.some.injEq] at h; subst h; exact fun prog w E Q q => PySem.P.ge_str q
        | _ => cases ho
      | _ => simp [relD] at h
    | tuple xs => simp [PyData.depth] at hn
    | _ => simp [relD] at h
  | succ n ih =>
    intro d e b hn h A x y v u dx dy rx ry c1 c2 hu
    cases d with
    | tuple xs =>
      cases e with
      | tuple ys =>
        cases dx with
        | tup hs ha =>
        cases dy with
        | tup hs' ha' =>
        cases rx; cases ry
        obtain ⟨its, r1, p1, _⟩ := I.tuple hs
        obtain ⟨its2, r2, p2, _⟩ := I.tuple hs'
        rw [relD] at h
        obtain ⟨l1, l2⟩ := rel_sound o ho xs ys b h
        simp only [PyData.canLay0] at c1 c2
        have e1 : its.toArray.size = xs.length := by
          obtain ⟨as, q⟩ := Dp.readsAll I xs _ _ ha r1
          rw [List.size_toArray]; exact SeqAt.ReadsAll.length _ _ _ q
        have e2 : its2.toArray.size = ys.length := by
          obtain ⟨as, q⟩ := Dp.readsAll I ys _ _ ha' r2
          rw [List.size_toArray]; exact SeqAt.ReadsAll.length _ _ _ q
        have hd : (PyData.tuple xs).depth = PyData.depthAll xs + 1 := by simp [PyData.depth]
        rw [hd] at hu hn
        have R := rc_tup (o := o) ho (A := A) (s := s) (e := fun j => PyData.eqv (xs.getD j .none) (ys.getD j .none)) (r := fun j => (relD o (xs.getD j .none) (ys.getD j .none)).getD false) p1 p2 (by omega) (fun j h1 h2 => by
            obtain ⟨z1, z2, q1, q2, q3, q4, q5, q6, q7⟩ := rd_at xs ys _ _ _ _ ha ha' r1 r2 c1 c2 j (by simpa using h1) (by simpa using h2)
            obtain ⟨as, w1⟩ := Dp.reads I _ _ _ q1 q3
            obtain ⟨bs, w2⟩ := Dp.reads I _ _ _ q2 q4
            refine SeqAt.eqAt_reads _ _ A.in1 s _ _ _ _ w1 w2 q5 q6 ?_
            have := Nat.min_le_left (xs.getD j .none).depth (ys.getD j .none).depth
            show A.units + 1 + _ < _
            omega) (fun j h1 h2 hne => by
            obtain ⟨c, hc⟩ := l2 j (by omega) (by omega) hne
            obtain ⟨z1, z2, q1, q2, q3, q4, q5, q6, q7⟩ := rd_at xs ys _ _ _ _ ha ha' r1 r2 c1 c2 j (by simpa using h1) (by simpa using h2)
            show Ob.RcOp (opC o) A.in1 s _ _ ((relD o (xs.getD j .none) (ys.getD j .none)).getD false)
            rw [hc]
            exact ih _ _ c (by omega) hc A.in1 z1 z2 _ _ q1 q2 q3 q4 q5 q6 (by show A.units + 1 + _ < _; omega))
        rw [e1, e2, l1] at R
        exact R
      | _ => simp [relD] at h
    | int a =>
      cases e with
      | int c =>
        cases dx; cases dy
        obtain ⟨t, rfl⟩ := rx
        obtain ⟨t', rfl⟩ := ry
        cases o with
        | lt => simp only [relD, Option.some.injEq] at h; subst h; exact Ob.RcOp.lt_int _ _ _ _
        | le => simp only [relD, Option.some.injEq] at h; subst h; exact Ob.RcOp.le_int _ _ _ _
        | gt => simp only [relD, Option.some.injEq] at h; subst h; exact Ob.RcOp.gt_int _ _ _ _
        | ge => simp only [relD, Option.some.injEq] at h; subst h; exact Ob.RcOp.ge_int _ _ _ _
        | _ => cases ho
      | _ => simp [relD] at h
    | str a =>
      cases e with
      | str c =>
        cases dx; cases dy
        obtain ⟨t, rfl⟩ := rx
        obtain ⟨t', rfl⟩ := ry
        cases o with
        | lt => simp only [relD, Option.some.injEq] at h; subst h; exact fun prog w E Q q => PyProof.Rows.lt_str q
        | le => simp only [relD, Option.some.injEq] at h; subst h; exact fun prog w E Q q => PySem.P.le_str q
        | gt => simp only [relD, Option.some.injEq] at h; subst h; exact fun prog w E Q q => PySem.P.gt_str q
        | ge => simp only [relD, Option.some.injEq] at h; subst h; exact fun prog w E Q q => PySem.P.ge_str q
        | _ => cases ho
      | _ => simp [relD] at h
    | _ => simp [relD] at h
theorem ob_ord (o : Cop) (ho : isOrd o = true) (hu : X.A.units + 64 < cLine) : OpR X (compareOp (opC o)) (rC X.K (cop o)) := by
  intro pins s σ H x y v u Q I rx ry h
  obtain ⟨R, S, φ, d, e, c, rep, dx, dy, he, q⟩ := h
  have key : relD o d e = some c ∧ d.canLay0 = true ∧ e.canLay0 = true ∧ d.depth ≤ 64 ∨ (∃ a b, d = .str a ∧ e = .str b ∧ relD o d e = some c) := by
    have hc : relT o d e = some c := by
      cases o <;> first | exact he | cases ho
    unfold relT at hc
    split at hc
    · split at hc
      · rename_i hk
        rw [Bool.and_eq_true] at hk
        exact .inl ⟨hc, shaped_lay hk.1, shaped_lay hk.2, SeqAt.depth_of_shaped hk.1⟩
      · cases hc
    · cases d with
      | int a => cases e with
        | int b => exact .inl ⟨hc, by simp [PyData.canLay0], by simp [PyData.canLay0], by simp [PyData.depth]⟩
        | _ => simp [relD] at hc
      | str a => cases e with
        | str b => exact .inr ⟨_, _, rfl, rfl, hc⟩
        | _ => simp [relD] at hc
      | tuple a => cases e <;> simp_all [relD]
      | _ => simp [relD] at hc
  rcases key with ⟨h1, h2, h3, h4⟩ | ⟨a, b, rfl, rfl, h1⟩
  · have R := rc_data o ho I _ d e c (Nat.le_refl _) h1 X.A x y v u (dx.dp h2) (dy.dp h3) rx ry h2 h3 (by omega)
    have z := R X.prog X.w X.xe (EP X pins σ Q) ⟨.bl _, H, I, rfl, q⟩
    cases o <;> first | exact z | cases ho
  · obtain rfl := dx.str
    obtain rfl := dy.str
    obtain ⟨t, rfl⟩ := rx
    obtain ⟨t', rfl⟩ := ry
    cases o with
    | lt => simp only [relD, Option.some.injEq] at h1; subst h1; exact PyProof.Rows.lt_str ⟨.bl _, H, I, rfl, q⟩
    | le => simp only [relD, Option.some.injEq] at h1; subst h1; exact PySem.P.le_str ⟨.bl _, H, I, rfl, q⟩
    | gt => simp only [relD, Option.some.injEq] at h1; subst h1; exact PySem.P.gt_str ⟨.bl _, H, I, rfl, q⟩
    | ge => simp only [relD, Option.some.injEq] at h1; subst h1; exact PySem.P.ge_str ⟨.bl _, H, I, rfl, q⟩
    | _ => cases ho
theorem ob_cmp (o : Cop) (hu : X.A.units + 65 < cLine) : OpR X (compareOp (opC o)) (rC X.K (cop o)) := by
  cases o with
  | eq => exact ob_eq (by omega)
  | ne => exact ob_ne (by omega)
  | is => exact ob_is
  | isn => exact ob_isn
  | inn => exact ob_in hu
  | nin => exact ob_nin hu
  | lt => exact ob_ord .lt rfl (by omega)
  | le => exact ob_ord .le rfl (by omega)
  | gt => exact ob_ord .gt rfl (by omega)
  | ge => exact ob_ord .ge rfl (by omega)
end
end VI
set_option Elab.async false
set_option linter.all false
set_option maxRecDepth 100000
set_option maxHeartbeats 1000000
/-! sorted over a tuple of ints, over any list of ints -/
namespace VI
open PySem PySem.Spec PyProof.Rows L2 SrtO
section
variable {prog : Program} {w : World} {A : Around} {E : Value → Shared → Prop} {s : Shared}
theorem collect_tup {l : Addr} {vs : List Value} {Q : List Value → Shared → Prop} (hl : s.heap.IsTuple l vs.toArray) (hsz : vs.length ≤ sizeLine)
    (h : Q vs { s with heap := (s.heap.push (seqObj "list" #[] 0)).update s.heap.objs.size (PySem.Obj.mapSeq (· ++ vs.toArray)) }) :
    wpAny (model prog w) A (collect (.ref l)) Q E s := by
  obtain ⟨o, ho, hc, n, hd⟩ := id hl
  unfold collect
  refine wpAny_bind (wpAny_runValue (codeAny_builtin entry_proto_collect' ?_))
  show wpAny _ _ (do again (.builtin "list.__iadd__" ⟨[← newList [], .ref l], []⟩)) _ _ s
  refine wpAny_bind (wpAny_newList (wpAny_pure ⟨Code.quiet_builtin _ (by decide +kernel), codeAny_builtin entry_list_iadd' ?_⟩))
  show wpAny _ _ (Builtin.List.listExtendWith (.ref s.heap.objs.size) (.ref l) (.ref s.heap.objs.size)) _ _ { s with heap := s.heap.push (seqObj "list" #[] 0) }
  unfold Builtin.List.listExtendWith
  have hl2 : (s.heap.push (seqObj "list" #[] 0)).get? l = some o := Heap.get?_push_of_some _ ho
  have hnew : (s.heap.push (seqObj "list" #[] 0)).get? s.heap.objs.size = some (seqObj "list" #[] 0) := Heap.get?_push_size _ rfl
  refine wpAny_bind (wpAny_typeOf (T := "tuple") ⟨o, hl2, hc⟩ ?_)
  have hty : (Value.type "tuple" == Value.type "tuple") = true := by rfl
  rw [hty, Bool.or_true, if_pos rfl]
  refine wpAny_bind (listItems_at hl2 hd ?_)
  refine wpAny_bind (listItems_at (xs := #[]) (n := 0) hnew rfl ?_)
  rw [if_neg (by simp)]
  refine wpAny_bind (listUpdate_at (xs := #[]) (n := 0) hnew rfl ?_ (Nat.zero_le _) (by simp only [Array.size_append, List.size_toArray, List.length_nil]; omega))
  refine wpAny_pure ?_
  show wpAny (model prog w) A (do
      let o ← load s.heap.objs.size
      match o.data with
      | .seq xs _ => pure xs.toList
      | _ => unsupported "internal:collect") Q E { s with heap := (s.heap.push (seqObj "list" #[] 0)).update s.heap.objs.size (PySem.Obj.mapSeq (· ++ vs.toArray)) }
  refine wpAny_bind (wpAny_load (get?_update_seq hnew _) ?_)
  show wpAny _ _ (pure ((#[] : Array Value) ++ vs.toArray).toList) Q E _
  have e : ((#[] : Array Value) ++ vs.toArray).toList = vs := by simp
  rw [e]
  exact wpAny_pure h
theorem sorted_ordT {l : Addr} {vs : List Value} {ltv : Value → Value → Bool} {Q : Value → Shared → Prop} (O : Swo ltv) (hl : s.heap.IsTuple l vs.toArray) (hz : vs.length ≤ sizeLine)
    (hS : 2 ≤ vs.length → ∀ (h₁ : Heap) (a : Addr), h₁.get? a = some (seqObj "list" vs.toArray 0) → (∀ b o, s.heap.get? b = some o → b ≠ a ∧ h₁.get? b = some o) → SortableO prog w A.in1.in1 { s with heap := h₁ } a vs ltv)
    (h : ∀ out : List Value, Srtd ltv out → Stb ltv out vs → Q (.ref (s.heap.objs.size + 1)) { s with heap := sortedAll s.heap vs out.toArray }) :
    wpAny (model prog w) A (call (.builtin "sorted") [.ref l]) Q E s := by
  refine Calls.call_function_entry kind_sorted plain_sorted entry_sorted (args_sorted1 _) ?_
  unfold Builtin.«sorted»
  refine wpAny_bind (m := checkCount "sorted" 1 1 _) (wpAny_pure ?_)
  refine wpAny_bind (collect_tup hl hz ?_)
  refine wpAny_bind (wpAny_newList ?_ hz)
  generalize hh2 : (s.heap.push (seqObj "list" #[] 0)).update s.heap.objs.size (PySem.Obj.mapSeq (· ++ vs.toArray)) = h2
  have hsz : h2.objs.size = s.heap.objs.size + 1 := by
    rw [← hh2, Heap.size_update, size_push']
  have hoL : (h2.push (seqObj "list" vs.toArray 0)).get? (s.heap.objs.size + 1) = some (seqObj "list" vs.toArray 0) := by
    rw [← hsz]; exact Heap.get?_push_size _ rfl
  have keep : ∀ b o, s.heap.get? b = some o → b ≠ s.heap.objs.size + 1 ∧ (h2.push (seqObj "list" vs.toArray 0)).get? b = some o := fun b o q => by
    have hlt : b < s.heap.objs.size := Heap.lt_size q
    refine ⟨Nat.ne_of_lt (Nat.lt_succ_of_lt hlt), Heap.get?_push_of_some _ ?_⟩
    rw [← hh2, Heap.get?_update_ne _ _ _ _ (Nat.ne_of_lt hlt)]
    exact Heap.get?_push_of_some _ q
  show wpAny _ _ _ _ _ { s with heap := h2.push (seqObj "list" vs.toArray 0) }
  rw [hsz]
  refine wpAny_bind (wpAny_holding (wpAny_call_entry slot_list_sort ⟨_, hoL, rfl⟩ entry_list_sort (list_sort_ord O hoL hz (fun q => hS q _ _ hoL keep) fun out hs hb => ⟨_, rfl, ?_⟩) (args_list_sort _)))
  have e : sortedHeap (h2.push (seqObj "list" vs.toArray 0)) (s.heap.objs.size + 1) vs out.toArray = sortedAll s.heap vs out.toArray := by
    unfold sortedAll; rw [hh2]
  have hq := h out hs hb
  rw [← e] at hq
  exact wpAny_pure ⟨_, rfl, hq⟩
end
section
variable {X : Cx}
def rSortedT (K : PySem.W.Frag) : List V → Hp → VK → Prop := fun vs H Q => ∃ (a : Addr) (ns : List Int), vs = [V.ref a] ∧ SqT K H a (ns.map V.int) ∧
  ∀ (ns' : List Int) (p : Addr), ns'.Perm ns → ns'.Pairwise (· ≤ ·) → H p = none → Q (.ref p) (L2.upd H p (.lst (ns'.map V.int)))
theorem cr_sortedT : CallR X (.builtin "sorted") (rSortedT X.K) := by
  intro pins s σ H vs us Q I r h
  obtain ⟨a, ns, rfl, hs, q⟩ := h
  obtain ⟨its, rv, hl, hz⟩ := I.tuple hs
  rw [Vals.ref1 r]
  have hi := rv.ints
  refine sorted_ordT swo_int (show s.heap.IsTuple a its.toArray from hl) (by rw [← rv.length]; exact hz) (fun h2 h₁ a' _ _ => ints_sortable hi h2) fun out h1 h2 => ?_
  obtain ⟨k1, k2, k3⟩ := ints_out hi h1 h2
  obtain ⟨ep, he'⟩ := sortedAll_at s.heap its out.toArray
  have hlen : ((out.map iv).map V.int).length ≤ sizeLine := by
    rw [List.length_map, k2.length_eq]
    rw [List.length_map] at hz
    exact hz
  exact ⟨.ref _, L2.upd H (s.heap.objs.size + 1) (.lst ((out.map iv).map V.int)), I.laid (t' := s.toks) (fun _ _ => sortedAll_old) (Nat.le_succ _) ⟨hlen, out, ep, vals_of_ints k1, he'⟩, rfl, q _ _ k2 k3 (I.hok.fresh (Nat.le_succ _))⟩
end
end VI
set_option Elab.async false
set_option linter.all false
set_option maxRecDepth 100000
set_option maxHeartbeats 400000
namespace VI
open PySem PySem.Spec PyProof.Rows L2
variable {X : Cx}
theorem paired1 {α β : Type} {F : α → β → Prop} {xs : List α} {y : β} (h : Paired F xs [y]) : ∃ x, xs = [x] ∧ F x y := by
  cases h with | cons r t => cases t; exact ⟨_, rfl, r⟩
theorem paired2 {α β : Type} {F : α → β → Prop} {xs : List α} {y z : β} (h : Paired F xs [y, z]) : ∃ x w, xs = [x, w] ∧ F x y ∧ F w z := by
  cases h with | cons r t => cases t with | cons r' t => cases t; exact ⟨_, _, rfl, r, r'⟩
theorem Dr.scr {K : PySem.W.Frag} {R : Addr → Prop} {H : Hp} {v : V} {ds : List D} (h : Dr K R H v (VI.scr ds)) : ∃ (a : Addr) (ns : List Int), v = .ref a ∧ ds = ns.map .int ∧ SqL K H a (ns.map V.int) := by
  cases h with
  | d h =>
    generalize e : VI.scr ds = d at h
    cases h with
    | scr h1 h2 => cases e; exact ⟨_, _, rfl, rfl, .inl (.inr ⟨_, h2⟩)⟩
    | scrK h => cases e; exact ⟨_, _, rfl, rfl, h _⟩
    | _ => cases e
/-- a list or a tuple -/
theorem Dr.seq {K : PySem.W.Frag} {R : Addr → Prop} {H : Hp} {v : V} {d : D} {ds : List D} (h : Dr K R H v d) (e : seqD d = some ds) : ∃ a vs, v = .ref a ∧ (SqL K H a vs ∨ SqT K H a vs) ∧ DqA K R H vs ds := by
  cases d with
  | list es => cases e; obtain ⟨a, vs, h1, h2, h3⟩ := h.lst; exact ⟨a, vs, h1, .inl (SqL.of h2), h3⟩
  | tuple es => cases e; obtain ⟨a, vs, h1, h2, h3⟩ := h.tup; exact ⟨a, vs, h1, .inr h2, h3⟩
  | _ => cases e
theorem fb_len : CallR X (.builtin "len") (rF X.K (bifn .len)) := by
  intro pins s σ H xs us Q I r h
  obtain ⟨R, S, φ, ds, w, rep, pr, he, q⟩ := h
  match ds, he with
  | [d], he =>
    obtain ⟨x, rfl, dx⟩ := paired1 pr
    have fin : ∀ n : Nat, LenV X.K x H n → w = .p (.int n) → wpAny (model X.prog X.w) X.A (call (.builtin "len") us) (EP X pins σ Q) X.xe s := fun n hn e => by
      subst e
      exact call_len pins s σ H _ us Q I r ⟨x, n, rfl, hn, q _ _ _ (.same rep (.int _))⟩
    simp only [bifn] at he
    unfold b_len at he
    split at he
    · cases he
      obtain ⟨a, vs, rfl, h2, h3⟩ := dx.lst
      exact fin _ (.inl ⟨vs, SqL.of h2, h3.len.symm⟩) rfl
    · cases he
      obtain ⟨a, vs, rfl, h2, h3⟩ := dx.tup
      exact fin _ (.inr ⟨vs, h2, h3.len.symm⟩) rfl
    · cases he
      obtain ⟨a, ns, rfl, rfl, h2⟩ := dx.scr
      exact fin _ (.inl ⟨_, h2, by simp⟩) rfl
    · split at he
      · rename_i hl
        cases he
        obtain rfl := dx.str
        exact fin _ ⟨le_line hl, rfl⟩ rfl
      · cases he
    · cases he
theorem fb_sum (hc : X.calm = true) : CallR X (.builtin "sum") (rF X.K (bifn .sum)) := by
  intro pins s σ H xs us Q I r h
  obtain ⟨R, S, φ, ds, w, rep, pr, he, q⟩ := h
  match ds, he with
  | [d], he =>
    obtain ⟨x, rfl, dx⟩ := paired1 pr
    simp only [bifn, intsD, Option.map_eq_some_iff, Option.bind_eq_some_iff] at he
    obtain ⟨ns, ⟨es, e1, e2⟩, rfl⟩ := he
    obtain ⟨a, vs, rfl, h2, h3⟩ := dx.seq e1
    obtain ⟨rfl, rfl⟩ := h3.ints_of e2
    have fin := q _ _ _ (.same rep (.int ns.sum))
    rcases h2 with h2 | h2
    · exact cr_sum hc pins s σ H _ us Q I r ⟨a, ns, rfl, h2, fin⟩
    · rw [Vals.ref1 r]
      obtain ⟨its, rv, ht, _⟩ := I.tuple h2
      have hi := rv.ints
      obtain ⟨ys, hx⟩ := hi.allInts.items
      have hn : PySem.numsOf its.toArray.toList = ns := by rw [show its.toArray.toList = its from rfl, hi.numsOf]
      have ht' : s.heap.IsTuple a its.toArray := ht
      rw [hx] at ht' hn
      rw [PySem.nums_intItems] at hn
      refine PySem.W.ktm_sumG (I.ok.hd hc) ht' fun h' tk t' hk => ?_
      rw [PySem.preSum_eq, List.take_of_length_le (by simp), hn]
      exact ⟨.int _, H, I.kept hk, ⟨_, rfl⟩, fin⟩
theorem maxI_spec : ∀ {ns : List Int} {m : Int}, maxI ns = some m → m ∈ ns ∧ ∀ y ∈ ns, y ≤ m
  | [], _, h => by cases h
  | [a], m, h => by cases h; simp
  | a :: b :: r, m, h => by
    simp only [maxI, Option.map_eq_some_iff] at h
    obtain ⟨c, h1, rfl⟩ := h
    obtain ⟨q1, q2⟩ := maxI_spec h1
    by_cases hc : c > a
    · rw [if_pos hc]
      refine ⟨List.mem_cons_of_mem _ q1, fun y hy => ?_⟩
      rcases List.mem_cons.mp hy with rfl | hy
      · omega
      · exact q2 y hy
    · rw [if_neg hc]
      refine ⟨List.mem_cons_self, fun y hy => ?_⟩
      rcases List.mem_cons.mp hy with rfl | hy
      · omega
      · have := q2 y hy; omega
theorem minI_spec : ∀ {ns : List Int} {m : Int}, minI ns = some m → m ∈ ns ∧ ∀ y ∈ ns, m ≤ y
  | [], _, h => by cases h
  | [a], m, h => by cases h; simp
  | a :: b :: r, m, h => by
    simp only [minI, Option.map_eq_some_iff] at h
    obtain ⟨c, h1, rfl⟩ := h
    obtain ⟨q1, q2⟩ := minI_spec h1
    by_cases hc : c < a
    · rw [if_pos hc]
      refine ⟨List.mem_cons_of_mem _ q1, fun y hy => ?_⟩
      rcases List.mem_cons.mp hy with rfl | hy
      · omega
      · exact q2 y hy
    · rw [if_neg hc]
      refine ⟨List.mem_cons_self, fun y hy => ?_⟩
      rcases List.mem_cons.mp hy with rfl | hy
      · omega
      · have := q2 y hy; omega
theorem allInt_map : ∀ ns : List Int, allInt (ns.map .int) = some ns
  | [] => rfl
  | n :: r => by simp [allInt, allInt_map r]
theorem data_ints (ns : List Int) : PySem.W.AlikeAll (ns.map PyData.int) := by
  refine ⟨fun x hx y hy => ?_, fun x hx => ?_⟩
  · obtain ⟨a, _, rfl⟩ := List.mem_map.mp hx
    obtain ⟨b, _, rfl⟩ := List.mem_map.mp hy
    simp [PySem.W.alike]
  · obtain ⟨a, _, rfl⟩ := List.mem_map.mp hx
    exact fun z => nomatch z
theorem lay_ints : ∀ ns : List Int, PyData.canLayAll0 (ns.map .int) = true
  | [] => by simp [PyData.canLayAll0]
  | n :: r => by simp [PyData.canLayAll0, PyData.canLay0, lay_ints r]
theorem foldl_max : ∀ (ns : List Int) (n : Int), (ns.foldl max n) ∈ n :: ns ∧ ∀ y ∈ n :: ns, y ≤ ns.foldl max n
  | [], n => by simp
  | m :: r, n => by
    obtain ⟨h1, h2⟩ := foldl_max r (max n m)
    rw [List.foldl_cons]
    refine ⟨?_, fun y hy => ?_⟩
    · rcases List.mem_cons.mp h1 with h | h
      · rw [h]
        rcases Int.le_total n m with q | q
        · rw [Int.max_eq_right q]; simp
        · rw [Int.max_eq_left q]; simp
      · exact List.mem_cons_of_mem _ (List.mem_cons_of_mem _ h)
    · have h3 := h2 (max n m) List.mem_cons_self
      rcases List.mem_cons.mp hy with rfl | hy
      · have := Int.le_max_left y m; omega
      · rcases List.mem_cons.mp hy with rfl | hy
        · have := Int.le_max_right n y; omega
        · exact h2 y (List.mem_cons_of_mem _ hy)
theorem foldl_min : ∀ (ns : List Int) (n : Int), (ns.foldl min n) ∈ n :: ns ∧ ∀ y ∈ n :: ns, ns.foldl min n ≤ y
  | [], n => by simp
  | m :: r, n => by
    obtain ⟨h1, h2⟩ := foldl_min r (min n m)
    rw [List.foldl_cons]
    refine ⟨?_, fun y hy => ?_⟩
    · rcases List.mem_cons.mp h1 with h | h
      · rw [h]
        rcases Int.le_total n m with q | q
        · rw [Int.min_eq_left q]; simp
        · rw [Int.min_eq_right q]; simp
      · exact List.mem_cons_of_mem _ (List.mem_cons_of_mem _ h)
    · have h3 := h2 (min n m) List.mem_cons_self
      rcases List.mem_cons.mp hy with rfl | hy
      · have := Int.min_le_left y m; omega
      · rcases List.mem_cons.mp hy with rfl | hy
        · have := Int.min_le_right n y; omega
        · exact h2 y (List.mem_cons_of_mem _ hy)
theorem reads_tup {pins : List (Addr × PySem.Obj)} {σ : Sl} {H : Hp} {s : Shared} {a : Addr} {vs : List V} {ds : List D} {R : Addr → Prop} (I : Inv X pins σ H s) (h : SqT X.K H a vs) (hd : DqA X.K R H vs ds) (hl : PyData.canLayAll0 ds = true) :
    ∃ its : List Value, s.heap.IsTuple a its.toArray ∧ Vals vs its ∧ ∃ as, ReadsAll s.heap its ds as := by
  obtain ⟨its, rv, ht, _⟩ := I.tuple h
  obtain ⟨as, q⟩ := Dp.readsAll I ds vs its (hd.dp hl) rv
  exact ⟨its, ht, rv, as, q⟩
theorem fb_max (hc : X.calm = true) (hu : X.A.units + 64 < cLine) : CallR X (.builtin "max") (rF X.K (bifn .max)) := by
  intro pins s σ H xs us Q I r h
  obtain ⟨R, S, φ, ds, w, rep, pr, he, q⟩ := h
  match ds, he with
  | [d], he =>
    obtain ⟨x, rfl, dx⟩ := paired1 pr
    simp only [bifn, intsD, Option.map_eq_some_iff, Option.bind_eq_some_iff] at he
    obtain ⟨m, ⟨ns, ⟨es, e1, e2⟩, e3⟩, rfl⟩ := he
    obtain ⟨a, vs, rfl, h2, h3⟩ := dx.seq e1
    obtain ⟨rfl, rfl⟩ := h3.ints_of e2
    have fin := q _ _ _ (.same rep (.int m))
    obtain ⟨m1, m2⟩ := maxI_spec e3
    have uniq : ∀ m', m' ∈ ns → (∀ y ∈ ns, y ≤ m') → m' = m := fun m' h1 h2 => Int.le_antisymm (m2 m' h1) (h2 m m1)
    rcases h2 with h2 | h2
    · exact cr_max hc pins s σ H _ us Q I r ⟨a, ns, rfl, h2, List.length_pos_of_mem m1, fun m' h1 h2 => by rw [uniq m' h1 h2]; exact fin⟩
    · rw [Vals.ref1 r]
      obtain ⟨its, ht, rv, as, rs⟩ := reads_tup I h2 h3 (lay_ints ns)
      cases ns with
      | nil => cases m1
      | cons n ns =>
        refine PySem.W.max_tuple_data (I.ok.hd hc) ht rs (data_ints (n :: ns)) (by have e := PyProof.Rows.depthAll_ints (n :: ns); rw [List.map_cons] at e; rw [e]; omega) fun i v h' tk bs hi hv hk => ?_
        rw [PySem.W.maxD_ints] at hv
        obtain ⟨q1, q2⟩ := foldl_max ns n
        rw [uniq _ q1 q2] at hv
        cases hv with
        | int _ t => exact ⟨.int m, H, I.kept hk, ⟨_, rfl⟩, fin⟩
theorem fb_min (hc : X.calm = true) (hu : X.A.units + 64 < cLine) : CallR X (.builtin "min") (rF X.K (bifn .min)) := by
  intro pins s σ H xs us Q I r h
  obtain ⟨R, S, φ, ds, w, rep, pr, he, q⟩ := h
  match ds, he with
  | [d], he =>
    obtain ⟨x, rfl, dx⟩ := paired1 pr
    simp only [bifn, intsD, Option.map_eq_some_iff, Option.bind_eq_some_iff] at he
    obtain ⟨m, ⟨ns, ⟨es, e1, e2⟩, e3⟩, rfl⟩ := he
    obtain ⟨a, vs, rfl, h2, h3⟩ := dx.seq e1
    obtain ⟨rfl, rfl⟩ := h3.ints_of e2
    have fin := q _ _ _ (.same rep (.int m))
    obtain ⟨m1, m2⟩ := minI_spec e3
    have uniq : ∀ m', m' ∈ ns → (∀ y ∈ ns, m' ≤ y) → m' = m := fun m' h1 h2 => Int.le_antisymm (h2 m m1) (m2 m' h1)
    rcases h2 with h2 | h2
    · exact cr_min hc pins s σ H _ us Q I r ⟨a, ns, rfl, h2, List.length_pos_of_mem m1, fun m' h1 h2 => by rw [uniq m' h1 h2]; exact fin⟩
    · rw [Vals.ref1 r]
      obtain ⟨its, ht, rv, as, rs⟩ := reads_tup I h2 h3 (lay_ints ns)
      cases ns with
      | nil => cases m1
      | cons n ns =>
        refine PySem.W.min_tuple_data (I.ok.hd hc) ht rs (data_ints (n :: ns)) (by have e := PyProof.Rows.depthAll_ints (n :: ns); rw [List.map_cons] at e; rw [e]; omega) fun i v h' tk bs hi hv hk => ?_
        rw [PySem.W.minD_ints] at hv
        obtain ⟨q1, q2⟩ := foldl_min ns n
        rw [uniq _ q1 q2] at hv
        cases hv with
        | int _ t => exact ⟨.int m, H, I.kept hk, ⟨_, rfl⟩, fin⟩
theorem fb_max2 (hc : X.calm = true) : CallR X (.builtin "max") (rF X.K (bifn .max2)) := by
  intro pins s σ H xs us Q I r h
  obtain ⟨R, S, φ, ds, w, rep, pr, he, q⟩ := h
  match ds, he with
  | [d, e], he =>
    obtain ⟨x, y, rfl, dx, dy⟩ := paired2 pr
    simp only [bifn] at he
    unfold b_max2 at he
    split at he
    · cases he
      obtain rfl := dx.int
      obtain rfl := dy.int
      exact call_max2 hc pins s σ H _ us Q I r ⟨_, _, rfl, q _ _ _ (.same rep (.int _))⟩
    · cases he
theorem fb_min2 (hc : X.calm = true) : CallR X (.builtin "min") (rF X.K (bifn .min2)) := by
  intro pins s σ H xs us Q I r h
  obtain ⟨R, S, φ, ds, w, rep, pr, he, q⟩ := h
  match ds, he with
  | [d, e], he =>
    obtain ⟨x, y, rfl, dx, dy⟩ := paired2 pr
    simp only [bifn] at he
    unfold b_min2 at he
    split at he
    · cases he
      obtain rfl := dx.int
      obtain rfl := dy.int
      exact call_min2 hc pins s σ H _ us Q I r ⟨_, _, rfl, q _ _ _ (.same rep (.int _))⟩
    · cases he
theorem fb_abs : CallR X (.builtin "abs") (rF X.K (bifn .abs)) := by
  intro pins s σ H xs us Q I r h
  obtain ⟨R, S, φ, ds, w, rep, pr, he, q⟩ := h
  match ds, he with
  | [d], he =>
    obtain ⟨x, rfl, dx⟩ := paired1 pr
    simp only [bifn] at he
    unfold b_abs at he
    split at he
    · cases he
      obtain rfl := dx.int
      exact call_abs pins s σ H _ us Q I r ⟨_, rfl, q _ _ _ (.same rep (.int _))⟩
    · cases he
theorem fb_int : CallR X (.type "int") (rF X.K (bifn .int)) := by
  intro pins s σ H xs us Q I r h
  obtain ⟨R, S, φ, ds, w, rep, pr, he, q⟩ := h
  match ds, he with
  | [d], he =>
    obtain ⟨x, rfl, dx⟩ := paired1 pr
    simp only [bifn] at he
    unfold b_int at he
    split at he
    · cases he
      obtain rfl := dx.int
      exact call_int1 pins s σ H _ us Q I r (.inl ⟨_, rfl, q _ _ _ (.same rep (.int _))⟩)
    · cases he
      obtain rfl := dx.bl
      exact call_int1 pins s σ H _ us Q I r (.inr ⟨_, rfl, q _ _ _ (.same rep (.int _))⟩)
    · cases he
theorem fb_str : CallR X (.type "str") (rF X.K (bifn .str)) := by
  intro pins s σ H xs us Q I r h
  obtain ⟨R, S, φ, ds, w, rep, pr, he, q⟩ := h
  match ds, he with
  | [d], he =>
    obtain ⟨x, rfl, dx⟩ := paired1 pr
    simp only [bifn] at he
    unfold b_str at he
    split at he
    · split at he
      · rename_i hk
        cases he
        obtain rfl := dx.int
        exact call_str_int pins s σ H _ us Q I r ⟨_, rfl, of_decide_eq_true hk, q _ _ _ (.same rep (.str _))⟩
      · cases he
    · cases he
theorem fb_list : CallR X (.type "list") (rF X.K (bifn .list)) := by
  intro pins s σ H xs us Q I r h
  obtain ⟨R, S, φ, ds, w, rep, pr, he, q⟩ := h
  match ds, he with
  | [d], he =>
    obtain ⟨x, rfl, dx⟩ := paired1 pr
    simp only [bifn, Option.map_eq_some_iff] at he
    obtain ⟨es, e1, rfl⟩ := he
    obtain ⟨a, vs, rfl, h2, h3⟩ := dx.seq e1
    exact call_list_of pins s σ H _ us Q I r ⟨a, vs, rfl, h2, fun l hl => q _ _ _ (.newLst rep hl h3)⟩
theorem fb_tuple : CallR X (.type "tuple") (rF X.K (bifn .tuple)) := by
  intro pins s σ H xs us Q I r h
  obtain ⟨R, S, φ, ds, w, rep, pr, he, q⟩ := h
  match ds, he with
  | [d], he =>
    obtain ⟨x, rfl, dx⟩ := paired1 pr
    simp only [bifn, Option.map_eq_some_iff] at he
    obtain ⟨es, e1, rfl⟩ := he
    obtain ⟨a, vs, rfl, h2, h3⟩ := dx.seq e1
    refine call_tuple_of pins s σ H _ us Q I r ⟨a, vs, rfl, h2.imp (fun h => ⟨h, fun l hl => q _ _ _ (.newTup rep hl h3)⟩) fun h => ⟨h, q _ _ _ (.same rep (.tup h h3))⟩⟩
theorem insI_perm : ∀ (a : Int) (l : List Int), (insI a l).Perm (a :: l)
  | a, [] => List.Perm.refl _
  | a, b :: r => by
    unfold insI
    split
    · exact List.Perm.refl _
    · exact ((insI_perm a r).cons b).trans (List.Perm.swap a b r)
theorem sortI_perm : ∀ l : List Int, (sortI l).Perm l
  | [] => List.Perm.refl _
  | a :: r => (insI_perm a _).trans ((sortI_perm r).cons a)
theorem insI_sorted : ∀ (a : Int) (l : List Int), l.Pairwise (· ≤ ·) → (insI a l).Pairwise (· ≤ ·)
  | a, [], _ => List.pairwise_singleton _ _
  | a, b :: r, h => by
    obtain ⟨h1, h2⟩ := List.pairwise_cons.mp h
    unfold insI
    split
    · rename_i q
      refine List.pairwise_cons.mpr ⟨fun y hy => ?_, h⟩
      rcases List.mem_cons.mp hy with rfl | hy
      · exact q
      · have := h1 y hy; omega
    · refine List.pairwise_cons.mpr ⟨fun y hy => ?_, insI_sorted a r h2⟩
      rcases List.mem_cons.mp ((insI_perm a r).mem_iff.mp hy) with rfl | hy
      · omega
      · exact h1 y hy
theorem sortI_sorted : ∀ l : List Int, (sortI l).Pairwise (· ≤ ·)
  | [] => List.Pairwise.nil
  | a :: r => insI_sorted a _ (sortI_sorted r)
theorem sorted_uniq : ∀ {l m : List Int}, l.Pairwise (· ≤ ·) → m.Pairwise (· ≤ ·) → l.Perm m → l = m := by
  intro l m h1 h2 p
  exact p.eq_of_pairwise (le := fun a b => a ≤ b) (fun a b _ _ h h' => Int.le_antisymm h h') h1 h2
theorem fb_sorted : CallR X (.builtin "sorted") (rF X.K (bifn .sorted)) := by
  intro pins s σ H xs us Q I r h
  obtain ⟨R, S, φ, ds, w, rep, pr, he, q⟩ := h
  match ds, he with
  | [d], he =>
    obtain ⟨x, rfl, dx⟩ := paired1 pr
    simp only [bifn, intsD, Option.map_eq_some_iff, Option.bind_eq_some_iff] at he
    obtain ⟨ns, ⟨es, e1, e2⟩, e3⟩ := he
    subst e3
    obtain ⟨a, vs, rfl, h2, h3⟩ := dx.seq e1
    obtain ⟨rfl, rfl⟩ := h3.ints_of e2
    rcases h2 with h2 | h2
    · refine cr_sortedI pins s σ H _ us Q I r ⟨a, ns, rfl, h2, fun ns' p hp hs hn => ?_⟩
      obtain rfl := sorted_uniq hs (sortI_sorted ns) (hp.trans (sortI_perm ns).symm)
      exact q _ _ _ (.newLst rep hn (DqA.ints _))
    · refine cr_sortedT pins s σ H _ us Q I r ⟨a, ns, rfl, h2, fun ns' p hp hs hn => ?_⟩
      obtain rfl := sorted_uniq hs (sortI_sorted ns) (hp.trans (sortI_perm ns).symm)
      exact q _ _ _ (.newLst rep hn (DqA.ints _))
theorem fb_all (hc : X.calm = true) : CallR X (.builtin "all") (rF X.K (bifn .all)) := by
  intro pins s σ H xs us Q I r h
  obtain ⟨R, S, φ, ds, w, rep, pr, he, q⟩ := h
  match ds, he with
  | [d], he =>
    obtain ⟨x, rfl, dx⟩ := paired1 pr
    simp only [bifn] at he
    unfold b_all at he
    split at he
    · rw [Option.map_eq_some_iff] at he
      obtain ⟨bs, e1, rfl⟩ := he
      obtain ⟨a, vs, rfl, h2, h3⟩ := dx.lst
      obtain ⟨rfl, rfl⟩ := h3.bools_of e1
      exact cr_all hc pins s σ H _ us Q I r ⟨a, bs, rfl, SqL.of h2, q _ _ _ (.same rep (.bl _))⟩
    · cases he
theorem fb_any (hc : X.calm = true) : CallR X (.builtin "any") (rF X.K (bifn .any)) := by
  intro pins s σ H xs us Q I r h
  obtain ⟨R, S, φ, ds, w, rep, pr, he, q⟩ := h
  match ds, he with
  | [d], he =>
    obtain ⟨x, rfl, dx⟩ := paired1 pr
    simp only [bifn] at he
    unfold b_any at he
    split at he
    · rw [Option.map_eq_some_iff] at he
      obtain ⟨bs, e1, rfl⟩ := he
      obtain ⟨a, vs, rfl, h2, h3⟩ := dx.lst
      obtain ⟨rfl, rfl⟩ := h3.bools_of e1
      exact cr_any hc pins s σ H _ us Q I r ⟨a, bs, rfl, SqL.of h2, q _ _ _ (.same rep (.bl _))⟩
    · cases he
/-! ### isinstance -/
def tyN : Ty → String
  | .int => "int" | .bool => "bool" | .str => "str" | .tuple => "tuple" | .list => "list"
def tyD : D → String
  | .none => "NoneType" | .bool _ => "bool" | .int _ => "int" | .str _ => "str" | .list _ => "list" | .tuple _ => "tuple" | .dict _ => "list"
theorem kit_all (t : Ty) (d : D) (h : ∀ kvs, d ≠ .dict kvs) : kitB (tyD d) (tyN t) = some (isiD t d) := by
  cases d with
  | none => cases t <;> decide +kernel
  | bool b => cases t <;> (show kitB "bool" _ = _) <;> simp only [isiD] <;> decide +kernel
  | int b => cases t <;> (show kitB "int" _ = _) <;> simp only [isiD] <;> decide +kernel
  | str b => cases t <;> (show kitB "str" _ = _) <;> simp only [isiD] <;> decide +kernel
  | list b => cases t <;> (show kitB "list" _ = _) <;> simp only [isiD] <;> decide +kernel
  | tuple b => cases t <;> (show kitB "tuple" _ = _) <;> simp only [isiD] <;> decide +kernel
  | dict kvs => exact absurd rfl (h kvs)
theorem Dr.ty {K : PySem.W.Frag} {R : Addr → Prop} {H : Hp} {v : V} {d : D} (h : Dr K R H v d) (hn : ∀ kvs, d ≠ .dict kvs) : TyX K H v (.type (tyD d)) := by
  cases h with
  | d h =>
    cases h with
    | non => exact .base .non
    | bl b => exact .base (.bl b)
    | int b => exact .base (.int b)
    | str b => exact .base (.str b)
    | lst h1 h2 h3 => exact .base (.lst h2)
    | tup h1 h2 =>
      rcases h1 with (h1 | ⟨o, h1⟩) | ⟨o, its, n, h1, h2, _⟩
      · exact .base (.tup h1)
      · exact .fTuple h1
      · exact .kTuple h1 h2
    | scr _ _ => exact absurd rfl (hn _)
    | scrK _ => exact absurd rfl (hn _)
  | l h1 h2 => exact .base (.lst h1)
end VI
set_option Elab.async false
set_option linter.all false
set_option maxRecDepth 100000
set_option maxHeartbeats 400000
namespace VI
open PySem PySem.Spec PyProof.Rows L2
section
variable {X : Cx}
theorem _root_.L2.PE.imp {e : Expr} {t t' : TE} (h : PE X e t) (i : ∀ σ H Q, t' σ H Q → t σ H Q) : PE X e t' := ⟨fun pins s σ H Q I q => h.run pins s σ H Q I (i _ _ _ q)⟩
theorem _root_.L2.PT.imp {e : Expr} {t t' : TT} (h : PT X e t) (i : ∀ σ H Q, t' σ H Q → t σ H Q) : PT X e t' := ⟨fun pins s σ H Q I q => h.run pins s σ H Q I (i _ _ _ q)⟩
theorem _root_.L2.PW.imp {e : Expr} {t t' : TT} (h : PW X e t) (i : ∀ σ H Q, t' σ H Q → t σ H Q) : PW X e t' := ⟨fun wh pins s σ H Q I q => h.run wh pins s σ H Q I (i _ _ _ q)⟩
theorem _root_.L2.PA.imp {e : List Expr} {t t' : TA} (h : PA X e t) (i : ∀ σ H Q, t' σ H Q → t σ H Q) : PA X e t' := ⟨fun pos pins s σ H Q I q => h.run pos pins s σ H Q I (i _ _ _ q)⟩
theorem _root_.L2.PI.imp {tg e : Expr} {t t' : TI} (h : PI X tg e t) (i : ∀ σ H Q, t' σ H Q → t σ H Q) : PI X tg e t' := ⟨fun pins s σ H Q I q => h.run pins s σ H Q I (i _ _ _ q)⟩
theorem _root_.L2.PS.imp {e : Stmt} {t t' : TS} (h : PS X e t) (i : ∀ D σ H, t' D σ H → t D σ H) : PS X e t' := ⟨fun pins s σ H D I q => h.run pins s σ H D I (i _ _ _ q)⟩
theorem _root_.L2.PSs.imp {e : List Stmt} {t t' : TS} (h : PSs X e t) (i : ∀ D σ H, t' D σ H → t D σ H) : PSs X e t' := ⟨fun pins s σ H D I q => h.run pins s σ H D I (i _ _ _ q)⟩
theorem _root_.L2.PG.imp {e : Expr} {t t' : TG} (h : PG X e t) (i : ∀ v σ H Q, t' v σ H Q → t v σ H Q) : PG X e t' := ⟨fun pins s σ H v u Q I r q => h.run pins s σ H v u Q I r (i _ _ _ _ q)⟩
end
variable {K : PySem.W.Frag} {R R' R1 R2 : Addr → Prop} {H H' H1 H2 : Hp} {S S' S1 : Store} {φ : List Addr} {w : W} {v : V} {d : D}
theorem Ext.none (e : Ext φ R H R' H') (r : Rep K R H S φ) (r' : Rep K R' H' S' φ) {a : Addr} (h : H' a = none) : H a = none := by
  cases z : H a with
  | none => rfl
  | some o =>
    by_cases ha : a ∈ φ
    · obtain ⟨vs, q⟩ := r'.lst ha; rw [h] at q; cases q
    · rw [e.fr a o z ha] at h; cases h
theorem Post.trans (e : Ext φ R H R1 H1) (r : Rep K R H S φ) (r1 : Rep K R1 H1 S1 φ) (p : Post K φ R1 H1 S' w v R' H') : Post K φ R H S' w v R' H' :=
  ⟨e.trans p.ext r.own, p.rep, p.val, fun o eo a ea => e.none r r1 (p.fresh o eo a ea)⟩
theorem Rep.shrink (r : Rep K R H S φ) {a : Addr} (ha : a ∉ φ) : Rep K (fun b => R b ∧ b ≠ a) H S φ :=
  ⟨r.len, r.nd, fun b h => ⟨r.own b h, fun z => ha (z ▸ h)⟩, fun b h => r.trk b h.1, fun n o b h1 h2 => by
    have q := r.obj n o b h1 h2
    cases o with
    | no => exact q
    | pl ds =>
      obtain ⟨vs, q1, q2⟩ := q
      exact ⟨vs, q1, q2.stay ⟨fun b vs h hn => ⟨h, fun z => hn z.1⟩, fun b vs h => h, fun b o u h => ⟨h, fun hn z => hn z.1⟩⟩⟩⟩
theorem stay_shrink {a : Addr} : Stay R H (fun b => R b ∧ b ≠ a) H := ⟨fun b vs h hn => ⟨h, fun z => hn z.1⟩, fun b vs h => h, fun b o u h => ⟨h, fun hn z => hn z.1⟩⟩
/-- a fresh object becomes data -/
theorem Post.fz (p : Post K φ R H S' w v R1 H1) (r : Rep K R H S φ) (e : fz w = some d) : ∃ R2, Ext φ R H R2 H1 ∧ Rep K R2 H1 S' φ ∧ Dq K R2 H1 v d ∧ Stay R1 H1 R2 H1 := by
  cases w with
  | p d' => simp only [VI.fz, Option.some.injEq] at e; subst e; exact ⟨R1, p.ext, p.rep, p.val, Ext.stay (φ := φ) .refl p.rep⟩
  | loc n => cases e
  | nw o =>
    cases o with
    | no => cases e
    | pl ds =>
      simp only [VI.fz, Option.some.injEq] at e
      subst e
      obtain ⟨a, rfl, h1, h2, vs, h3, h4⟩ := p.val
      have hf := p.fresh _ rfl a rfl
      refine ⟨fun b => R1 b ∧ b ≠ a, ⟨p.ext.fr, fun b hb => ⟨p.ext.up b hb, fun z => ?_⟩, fun b hb => p.ext.dn b hb.1⟩, p.rep.shrink h2, .lst (fun z => z.2 rfl) h3 (h4.stay stay_shrink), stay_shrink⟩
      subst z
      obtain ⟨o, q⟩ := r.trk b hb
      rw [hf] at q; cases q
theorem Post.hand {w' : W} (p : Post K φ R H S' w v R1 H1) (r : Rep K R H S φ) (e : hand w = some w') : ∃ R2, Ext φ R H R2 H1 ∧ Rep K R2 H1 S' φ ∧ WR K R2 H1 φ w' v ∧ Stay R1 H1 R2 H1 ∧ (∀ o, w' ≠ .nw o) := by
  cases w with
  | p d' => simp only [VI.hand, Option.some.injEq] at e; subst e; exact ⟨R1, p.ext, p.rep, p.val, Ext.stay (φ := φ) .refl p.rep, fun o z => nomatch z⟩
  | loc n => simp only [VI.hand, Option.some.injEq] at e; subst e; exact ⟨R1, p.ext, p.rep, p.val, Ext.stay (φ := φ) .refl p.rep, fun o z => nomatch z⟩
  | nw o =>
    cases o with
    | no => cases e
    | pl ds =>
      simp only [VI.hand, Option.some.injEq] at e
      subst e
      obtain ⟨R2, q1, q2, q3, q4⟩ := p.fz r (d := .list ds) rfl
      exact ⟨R2, q1, q2, q3, q4, fun o z => nomatch z⟩

/-! ### readings -/
section
variable (K : PySem.W.Frag) (G : Glob)
def tE (e : E) : TE := fun σ H Q => ∃ env S φ R w S', Rep K R H S φ ∧ EnvR K R H φ σ env ∧ ev G e env S = some (w, S') ∧ ∀ v R' H', Post K φ R H S' w v R' H' → Q v H'
def tC (c : C) : TT := fun σ H Q => ∃ env S φ R b S', Rep K R H S φ ∧ EnvR K R H φ σ env ∧ evT G c env S = some (b, S') ∧ ∀ R' H', Ext φ R H R' H' → Rep K R' H' S' φ → Q b H'
def tF (es : Es) : TA := fun σ H Q => ∃ env S φ R ds S', Rep K R H S φ ∧ EnvR K R H φ σ env ∧ evF G es env S = some (ds, S') ∧ ∀ vs R' H', Ext φ R H R' H' → Rep K R' H' S' φ → DqA K R' H' vs ds → Q vs H'
def tL (es : Es) : TA := fun σ H Q => ∃ env S φ R ws S', Rep K R H S φ ∧ EnvR K R H φ σ env ∧ evL G es env S = some (ws, S') ∧
  ∀ vs R' H', Ext φ R H R' H' → Rep K R' H' S' φ → Paired (fun v w => WR K R' H' φ w v ∧ ∀ o, w ≠ .nw o) vs ws → Q vs H'
end
variable {X : Cx} {G : Glob} {a b c : Expr} {ea eb ec : E} {pos : Pos}
theorem e_var {i : Nat} {x : Str} (hN : X.N[i]? = some x) (hv : Vis X.env.scope x) (hd : (x == ("__debug__" : Str)) = false) (hcd : (x == ("__classdict__" : Str)) = false) : PE X (.Name x pos) (tE X.K G (.v i)) :=
  (pe_var hN hv hd hcd).imp fun σ H Q ⟨env, S, φ, R, w, S', rep, er, he, q⟩ => by
    simp only [ev] at he
    split at he
    · rename_i w' hw
      cases he
      obtain ⟨q0, v, q1, q2⟩ := er.val i _ hw
      exact ⟨v, q1, q v R H ⟨.refl, rep, q2, fun o e => absurd e (q0 o)⟩⟩
    · cases he
theorem e_int {i : Int} {j : Nat} : PE X (.Constant (.int i) j pos) (tE X.K G (.k (.int i))) := pe_int.imp fun σ H Q ⟨env, S, φ, R, w, S', rep, er, he, q⟩ => by
  simp only [ev] at he; cases he; exact q _ _ _ (.same rep (.int i))
theorem e_str {i : Str} {j : Nat} : PE X (.Constant (.str i) j pos) (tE X.K G (.k (.str i))) := pe_str.imp fun σ H Q ⟨env, S, φ, R, w, S', rep, er, he, q⟩ => by
  simp only [ev] at he; cases he; exact q _ _ _ (.same rep (.str i))
theorem e_bl {i : Bool} {j : Nat} : PE X (.Constant (.bool i) j pos) (tE X.K G (.k (.bool i))) := pe_bl.imp fun σ H Q ⟨env, S, φ, R, w, S', rep, er, he, q⟩ => by
  simp only [ev] at he; cases he; exact q _ _ _ (.same rep (.bl i))
theorem e_non {j : Nat} : PE X (.Constant .none j pos) (tE X.K G (.k .none)) := pe_non.imp fun σ H Q ⟨env, S, φ, R, w, S', rep, er, he, q⟩ => by
  simp only [ev] at he; cases he; exact q _ _ _ (.same rep .non)
theorem e_glob {i : Nat} {x : Str} {u : Value} {v : V} {d : D} (hg : Gl X x) (hm : X.mg x = some u) (r : RelV v u) (hc : G.con i = some d) (hd : ∀ R H, Dq X.K R H v d) (hdb : (x == ("__debug__" : Str)) = false) : PE X (.Name x pos) (tE X.K G (.g i)) :=
  (pe_glob hg hm r hdb).imp fun σ H Q ⟨env, S, φ, R, w, S', rep, er, he, q⟩ => by
    simp only [ev, hc] at he
    cases he
    exact q _ _ _ (.same rep (hd _ _))
theorem e_bin {o : Bop} (ha : PE X a (tE X.K G ea)) (hb : PE X b (tE X.K G eb)) : PE X (.BinOp a (opO o) b pos) (tE X.K G (.bin o ea eb)) :=
  (pe_op (ob_bin o) ha hb).imp fun σ H Q ⟨env, S, φ, R, w, S', rep, er, he, q⟩ => by
    simp only [ev, Option.bind_eq_bind, Option.bind_eq_some_iff] at he
    obtain ⟨⟨x, S1⟩, h1, ⟨y, S2⟩, h2, d, h3, e, h4, w', h5, h6⟩ := he
    cases h6
    exact ⟨env, S, φ, R, x, S1, rep, er, h1, fun v1 R1 H1 p1 => ⟨env, S1, φ, R1, y, S2, p1.rep, er.ext p1.ext rep, h2, fun v2 R2 H2 p2 =>
      ⟨R2, S2, φ, d, e, w, p2.rep, rd_ok p2.rep (p1.val.ext p2.ext p1.rep) h3, rd_ok p2.rep p2.val h4, h5, fun v R' H' p => q v R' H' (p.trans (p1.ext.trans p2.ext rep.own) rep p2.rep)⟩⟩⟩
theorem e_neg (ha : PE X a (tE X.K G ea)) : PE X (.UnaryOp .USub a pos) (tE X.K G (.neg ea)) :=
  (pe_un un_neg ha).imp fun σ H Q ⟨env, S, φ, R, w, S', rep, er, he, q⟩ => by
    simp only [ev, Option.bind_eq_bind, Option.bind_eq_some_iff] at he
    obtain ⟨⟨x, S1⟩, h1, h2⟩ := he
    cases x with
    | p d =>
      cases d with
      | int i =>
        cases h2
        refine ⟨env, S, φ, R, _, _, rep, er, h1, fun v1 R1 H1 p1 => ?_⟩
        have hv : Dq X.K R1 H1 v1 (.int i) := p1.val
        cases hv
        exact ⟨i, rfl, q _ _ _ ((Post.same p1.rep (.int (-i))).trans p1.ext rep p1.rep)⟩
      | _ => cases h2
    | _ => cases h2
/-- two terms, their values read -/
theorem two_rd {σ : Sl} {env : Env} {x y : W} {S2 : Store} {d e : D} {Q : V → V → Hp → Prop} (rep : Rep X.K R H S φ) (er : EnvR X.K R H φ σ env) (h1 : ev G ea env S = some (x, S1)) (h2 : ev G eb env S1 = some (y, S2)) (h3 : rd x S2 = some d) (h4 : rd y S2 = some e)
    (q : ∀ v1 v2 R2 H2, Ext φ R H R2 H2 → Rep X.K R2 H2 S2 φ → Dr X.K R2 H2 v1 d → Dr X.K R2 H2 v2 e → Q v1 v2 H2) : tE X.K G ea σ H fun v1 H1 => tE X.K G eb σ H1 fun v2 H2 => Q v1 v2 H2 :=
  ⟨env, S, φ, R, x, S1, rep, er, h1, fun v1 R1 H1 p1 => ⟨env, S1, φ, R1, y, S2, p1.rep, er.ext p1.ext rep, h2, fun v2 R2 H2 p2 =>
    q v1 v2 R2 H2 (p1.ext.trans p2.ext rep.own) p2.rep (rd_ok p2.rep (p1.val.ext p2.ext p1.rep) h3) (rd_ok p2.rep p2.val h4)⟩⟩
theorem e_cmp {o : Cop} (hu : X.A.units + 65 < cLine) (ha : PE X a (tE X.K G ea)) (hb : PE X b (tE X.K G eb)) (hm : behindInMarks (opC o) b = false) : PE X (.Compare a [opC o] [b] pos) (tE X.K G (.cmp o ea eb)) :=
  (pe_cmpR (ob_cmp o hu) ha hb hm).imp fun σ H Q ⟨env, S, φ, R, w, S', rep, er, he, q⟩ => by
    simp only [ev, Option.bind_eq_bind, Option.bind_eq_some_iff] at he
    obtain ⟨⟨x, S1⟩, h1, ⟨y, S2⟩, h2, d, h3, e, h4, w', h5, h6⟩ := he
    cases h6
    exact two_rd rep er h1 h2 h3 h4 fun v1 v2 R2 H2 e2 r2 d1 d2 => ⟨R2, _, φ, d, e, _, r2, d1, d2, h5, q _ _ _ ((Post.same r2 (.bl _)).trans e2 rep r2)⟩
theorem e_cmp2 {o o' : Cop} (hu : X.A.units + 65 < cLine) (ha : PE X a (tE X.K G ea)) (hb : PE X b (tE X.K G eb)) (hc : PE X c (tE X.K G ec)) (hm : lastMarks [opC o, opC o'] [b, c] = false) :
    PE X (.Compare a [opC o, opC o'] [b, c] pos) (tE X.K G (.cmp2 o o' ea eb ec)) :=
  (pe_chain (ob_cmp o hu) (ob_cmp o' hu) ha hb hc hm).imp fun σ H Q ⟨env, S, φ, R, w, S', rep, er, he, q⟩ => by
    simp only [ev, Option.bind_eq_bind, Option.bind_eq_some_iff] at he
    obtain ⟨⟨x, S1⟩, h1, ⟨y, S2⟩, h2, d, h3, e, h4, r, h5, h6⟩ := he
    refine ⟨env, S, φ, R, x, S1, rep, er, h1, fun v1 R1 H1 p1 => ⟨env, S1, φ, R1, y, S2, p1.rep, er.ext p1.ext rep, h2, fun v2 R2 H2 p2 => ?_⟩⟩
    have e12 := p1.ext.trans p2.ext rep.own
    refine ⟨R2, S2, φ, d, e, r, p2.rep, rd_ok p2.rep (p1.val.ext p2.ext p1.rep) h3, rd_ok p2.rep p2.val h4, h5, r, rfl, ?_⟩
    cases r with
    | false =>
      simp only [Bool.false_eq_true, if_false] at h6 ⊢
      cases h6
      exact q _ _ _ ((Post.same p2.rep (.bl _)).trans e12 rep p2.rep)
    | true =>
      simp only [if_true, Option.bind_eq_some_iff] at h6 ⊢
      obtain ⟨⟨z, S3⟩, h7, e', h8, f, h9, r', h10, h11⟩ := h6
      cases h11
      refine ⟨env, S2, φ, R2, z, S3, p2.rep, er.ext e12 rep, h7, fun v3 R3 H3 p3 => ?_⟩
      exact ⟨R3, S3, φ, e', f, r', p3.rep, rd_ok p3.rep (p2.val.ext p3.ext p2.rep) h8, rd_ok p3.rep p3.val h9, h10, q _ _ _ ((Post.same p3.rep (.bl _)).trans (e12.trans p3.ext rep.own) rep p3.rep)⟩

theorem e_and (ha : PE X a (tE X.K G ea)) {rest : List Expr} (hb : PE X (.BoolOp .And (b :: rest) pos) (tE X.K G eb)) : PE X (.BoolOp .And (a :: b :: rest) pos) (tE X.K G (.and ea eb)) :=
  (pe_and ha hb).imp fun σ H Q ⟨env, S, φ, R, w, S', rep, er, he, q⟩ => by
    simp only [ev, Option.bind_eq_bind, Option.bind_eq_some_iff] at he
    obtain ⟨⟨x, S1⟩, h1, h2⟩ := he
    refine ⟨env, S, φ, R, x, S1, rep, er, h1, fun v1 R1 H1 p1 => ?_⟩
    cases x with
    | p d =>
      cases d with
      | bool k =>
        have hv : Dq X.K R1 H1 v1 (.bool k) := p1.val
        cases hv
        refine ⟨k, rfl, ?_⟩
        cases k with
        | true =>
          rw [if_pos rfl]
          exact ⟨env, S1, φ, R1, w, S', p1.rep, er.ext p1.ext rep, h2, fun v R' H' p => q v R' H' (p.trans p1.ext rep p1.rep)⟩
        | false =>
          cases h2
          exact q _ _ _ ((Post.same p1.rep (.bl false)).trans p1.ext rep p1.rep)
      | _ => cases h2
    | _ => cases h2
theorem e_or (ha : PE X a (tE X.K G ea)) {rest : List Expr} (hb : PE X (.BoolOp .Or (b :: rest) pos) (tE X.K G eb)) : PE X (.BoolOp .Or (a :: b :: rest) pos) (tE X.K G (.or ea eb)) :=
  (pe_or ha hb).imp fun σ H Q ⟨env, S, φ, R, w, S', rep, er, he, q⟩ => by
    simp only [ev, Option.bind_eq_bind, Option.bind_eq_some_iff] at he
    obtain ⟨⟨x, S1⟩, h1, h2⟩ := he
    refine ⟨env, S, φ, R, x, S1, rep, er, h1, fun v1 R1 H1 p1 => ?_⟩
    cases x with
    | p d =>
      cases d with
      | bool k =>
        have hv : Dq X.K R1 H1 v1 (.bool k) := p1.val
        cases hv
        refine ⟨k, rfl, ?_⟩
        cases k with
        | false =>
          rw [if_neg Bool.false_ne_true]
          exact ⟨env, S1, φ, R1, w, S', p1.rep, er.ext p1.ext rep, h2, fun v R' H' p => q v R' H' (p.trans p1.ext rep p1.rep)⟩
        | true =>
          cases h2
          exact q _ _ _ ((Post.same p1.rep (.bl true)).trans p1.ext rep p1.rep)
      | _ => cases h2
    | _ => cases h2
theorem e_not (ha : PE X a (tE X.K G ea)) : PE X (.UnaryOp .Not a pos) (tE X.K G (.not ea)) :=
  (pe_not ha).imp fun σ H Q ⟨env, S, φ, R, w, S', rep, er, he, q⟩ => by
    simp only [ev, Option.bind_eq_bind, Option.bind_eq_some_iff] at he
    obtain ⟨⟨x, S1⟩, h1, h2⟩ := he
    refine ⟨env, S, φ, R, x, S1, rep, er, h1, fun v1 R1 H1 p1 => ?_⟩
    cases x with
    | p d =>
      cases d with
      | bool k =>
        have hv : Dq X.K R1 H1 v1 (.bool k) := p1.val
        cases hv
        cases h2
        exact ⟨k, rfl, q _ _ _ ((Post.same p1.rep (.bl _)).trans p1.ext rep p1.rep)⟩
      | _ => cases h2
    | _ => cases h2
/-! ### tests -/
variable {ca cb : C}
theorem dr_tru {k : Bool} (h : Dr K R H v d) (e : truD d = some k) : TruV K v H k := by
  cases d with
  | none => obtain rfl := h.non; cases e; rfl
  | bool b => obtain rfl := h.bl; cases e; rfl
  | int b => obtain rfl := h.int; cases e; rfl
  | str b =>
    obtain rfl := h.str
    simp only [truD] at e
    split at e
    · rename_i hl
      cases e
      exact ⟨le_line hl, rfl⟩
    · cases e
  | list ds =>
    obtain ⟨a, vs, rfl, h1, h2⟩ := h.lst
    cases e
    refine .inl ⟨vs, SqL.of h1, ?_⟩
    cases h2 <;> rfl
  | tuple ds =>
    obtain ⟨a, vs, rfl, h1, h2⟩ := h.tup
    cases e
    refine .inr (.inl ⟨vs, h1, ?_⟩)
    cases h2 <;> rfl
  | dict _ => cases e
theorem c_e (ha : PE X a (tE X.K G ea)) (he : ∀ whole, isTrue a X.env whole = (do let v ← whole; standAt a.pos; holding [v] (truthy v))) : PT X a (tC X.K G (.e ea)) :=
  (pt_truth ha he).imp fun σ H Q ⟨env, S, φ, R, k, S', rep, er, he, q⟩ => by
    simp only [evT, Option.bind_eq_bind, Option.bind_eq_some_iff] at he
    obtain ⟨⟨x, S1⟩, h1, t, h2, h3⟩ := he
    cases h3
    refine ⟨env, S, φ, R, x, _, rep, er, h1, fun v1 R1 H1 p1 => ?_⟩
    simp only [truW, Option.bind_eq_some_iff] at h2
    obtain ⟨d, h4, h5⟩ := h2
    exact ⟨_, dr_tru (rd_ok p1.rep p1.val h4) h5, q _ _ p1.ext p1.rep⟩
theorem tTest_tC {t : TE} {σ : Sl} {H : Hp} {Q : Bool → Hp → Prop} (mono : ∀ (Q Q' : VK), (∀ v H, Q v H → Q' v H) → t σ H Q → t σ H Q') (h : tE X.K G ea σ H (fun x H1 => t σ H1 fun y H2 => True)) : True := trivial
/-- a comparison as a test: its value is a bool -/
theorem c_cmp {t : TE} (hp : PT X a (L2.tTest t)) (hb : ∀ env S w S', ev G ea env S = some (w, S') → ∃ k, w = .p (.bool k)) (ht : ∀ σ H Q, tE X.K G ea σ H Q → t σ H Q) : PT X a (tC X.K G (.e ea)) :=
  hp.imp fun σ H Q ⟨env, S, φ, R, k, S', rep, er, he, q⟩ => by
    simp only [evT, Option.bind_eq_bind, Option.bind_eq_some_iff] at he
    obtain ⟨⟨x, S1⟩, h1, t, h2, h3⟩ := he
    cases h3
    obtain ⟨k', rfl⟩ := hb _ _ _ _ h1
    cases h2
    refine ht _ _ _ ⟨env, S, φ, R, _, _, rep, er, h1, fun v1 R1 H1 p1 => ?_⟩
    have hv : Dq X.K R1 H1 v1 (.bool k) := p1.val
    cases hv
    exact ⟨k, rfl, q _ _ p1.ext p1.rep⟩
theorem c_and {rest : List Expr} (ha : PT X a (tC X.K G ca)) (hb : PW X (.BoolOp .And (b :: rest) pos) (tC X.K G cb)) : PW X (.BoolOp .And (a :: b :: rest) pos) (tC X.K G (.and ca cb)) :=
  (pw_and ha hb).imp fun σ H Q ⟨env, S, φ, R, k, S', rep, er, he, q⟩ => by
    simp only [evT, Option.bind_eq_bind, Option.bind_eq_some_iff] at he
    obtain ⟨⟨x, S1⟩, h1, h2⟩ := he
    refine ⟨env, S, φ, R, x, S1, rep, er, h1, fun R1 H1 e1 r1 => ?_⟩
    cases x with
    | true =>
      simp only [if_true] at h2 ⊢
      exact ⟨env, S1, φ, R1, k, S', r1, er.ext e1 rep, h2, fun R2 H2 e2 r2 => q _ _ (e1.trans e2 rep.own) r2⟩
    | false =>
      simp only [Bool.false_eq_true, if_false] at h2 ⊢
      cases h2
      exact q _ _ e1 r1
theorem c_or {rest : List Expr} (ha : PT X a (tC X.K G ca)) (hb : PW X (.BoolOp .Or (b :: rest) pos) (tC X.K G cb)) : PW X (.BoolOp .Or (a :: b :: rest) pos) (tC X.K G (.or ca cb)) :=
  (pw_or ha hb).imp fun σ H Q ⟨env, S, φ, R, k, S', rep, er, he, q⟩ => by
    simp only [evT, Option.bind_eq_bind, Option.bind_eq_some_iff] at he
    obtain ⟨⟨x, S1⟩, h1, h2⟩ := he
    refine ⟨env, S, φ, R, x, S1, rep, er, h1, fun R1 H1 e1 r1 => ?_⟩
    cases x with
    | false =>
      simp only [Bool.false_eq_true, if_false] at h2 ⊢
      exact ⟨env, S1, φ, R1, k, S', r1, er.ext e1 rep, h2, fun R2 H2 e2 r2 => q _ _ (e1.trans e2 rep.own) r2⟩
    | true =>
      simp only [if_true] at h2 ⊢
      cases h2
      exact q _ _ e1 r1
theorem c_not (ha : PT X a (tC X.K G ca)) : PT X (.UnaryOp .Not a pos) (tC X.K G (.not ca)) :=
  (pt_not ha).imp fun σ H Q ⟨env, S, φ, R, k, S', rep, er, he, q⟩ => by
    simp only [evT, Option.bind_eq_bind, Option.bind_eq_some_iff] at he
    obtain ⟨⟨x, S1⟩, h1, h2⟩ := he
    cases h2
    exact ⟨env, S, φ, R, x, _, rep, er, h1, fun R1 H1 e1 r1 => q _ _ e1 r1⟩
theorem e_ite (hc : PT X c (tC X.K G ca)) (ha : PE X a (tE X.K G ea)) (hb : PE X b (tE X.K G eb)) : PE X (.IfExp c a b pos) (tE X.K G (.ite ca ea eb)) :=
  (pe_ifExp hc ha hb).imp fun σ H Q ⟨env, S, φ, R, w, S', rep, er, he, q⟩ => by
    simp only [ev, Option.bind_eq_bind, Option.bind_eq_some_iff] at he
    obtain ⟨⟨x, S1⟩, h1, h2⟩ := he
    refine ⟨env, S, φ, R, x, S1, rep, er, h1, fun R1 H1 e1 r1 => ?_⟩
    cases x with
    | false =>
      simp only [Bool.false_eq_true, if_false] at h2 ⊢
      exact ⟨env, S1, φ, R1, w, S', r1, er.ext e1 rep, h2, fun v R2 H2 p => q v _ _ (p.trans e1 rep r1)⟩
    | true =>
      simp only [if_true] at h2 ⊢
      exact ⟨env, S1, φ, R1, w, S', r1, er.ext e1 rep, h2, fun v R2 H2 p => q v _ _ (p.trans e1 rep r1)⟩
/-! ### lists of terms -/
variable {es : List Expr} {ess : Es}
theorem f_nil : PA X [] (tF X.K G .nil) := pa_nil.imp fun σ H Q ⟨env, S, φ, R, ds, S', rep, er, he, q⟩ => by
  simp only [evF] at he; cases he; exact q [] R H .refl rep .nil
theorem f_cons (ha : PE X a (tE X.K G ea)) (hr : PA X es (tF X.K G ess)) (hs : starEach (a :: es) X.env = (false, eval a X.env) :: starEach es X.env) : PA X (a :: es) (tF X.K G (.cons ea ess)) :=
  (pa_cons ha hr hs).imp fun σ H Q ⟨env, S, φ, R, ds, S', rep, er, he, q⟩ => by
    simp only [evF, Option.bind_eq_bind, Option.bind_eq_some_iff] at he
    obtain ⟨⟨x, S1⟩, h1, d, h2, ⟨ds', S2⟩, h3, h4⟩ := he
    cases h4
    refine ⟨env, S, φ, R, x, S1, rep, er, h1, fun v1 R1 H1 p1 => ?_⟩
    obtain ⟨R2, q1, q2, q3, _⟩ := p1.fz rep h2
    exact ⟨env, S1, φ, R2, ds', _, q2, er.ext q1 rep, h3, fun vs R3 H3 e3 r3 d3 => q _ _ _ (q1.trans e3 rep.own) r3 (.cons (q3.ext e3 q2) d3)⟩
theorem l_nil : PA X [] (tL X.K G .nil) := pa_nil.imp fun σ H Q ⟨env, S, φ, R, ds, S', rep, er, he, q⟩ => by
  simp only [evL] at he; cases he; exact q [] R H .refl rep .nil
theorem l_cons (ha : PE X a (tE X.K G ea)) (hr : PA X es (tL X.K G ess)) (hs : starEach (a :: es) X.env = (false, eval a X.env) :: starEach es X.env) : PA X (a :: es) (tL X.K G (.cons ea ess)) :=
  (pa_cons ha hr hs).imp fun σ H Q ⟨env, S, φ, R, ds, S', rep, er, he, q⟩ => by
    simp only [evL, Option.bind_eq_bind, Option.bind_eq_some_iff] at he
    obtain ⟨⟨x, S1⟩, h1, d, h2, ⟨ds', S2⟩, h3, h4⟩ := he
    cases h4
    refine ⟨env, S, φ, R, x, S1, rep, er, h1, fun v1 R1 H1 p1 => ?_⟩
    obtain ⟨R2, q1, q2, q3, _, q5⟩ := p1.hand rep h2
    exact ⟨env, S1, φ, R2, ds', _, q2, er.ext q1 rep, h3, fun vs R3 H3 e3 r3 d3 => q _ _ _ (q1.trans e3 rep.own) r3 (.cons ⟨q3.ext e3 q2, q5⟩ d3)⟩
theorem e_tup {k : Nat} (h : PA X es (tF X.K G ess)) : PE X (.Tuple es k pos) (tE X.K G (.tup ess)) :=
  (pe_tup h).imp fun σ H Q ⟨env, S, φ, R, w, S', rep, er, he, q⟩ => by
    simp only [ev, Option.bind_eq_bind, Option.bind_eq_some_iff] at he
    obtain ⟨⟨ds, S1⟩, h1, h2⟩ := he
    simp only at h2
    split at h2
    · rename_i hl
      cases h2
      refine ⟨env, S, φ, R, ds, _, rep, er, h1, fun vs R1 H1 e1 r1 d1 => ⟨le_line (by rw [d1.len]; exact hl), fun p hp => ?_⟩⟩
      exact q _ _ _ ((Post.newTup r1 hp d1).trans e1 rep r1)
    · cases h2
theorem e_lst (h : PA X es (tF X.K G ess)) : PE X (.List es pos) (tE X.K G (.lst ess)) :=
  (pe_lst h).imp fun σ H Q ⟨env, S, φ, R, w, S', rep, er, he, q⟩ => by
    simp only [ev, Option.bind_eq_bind, Option.bind_eq_some_iff] at he
    obtain ⟨⟨ds, S1⟩, h1, h2⟩ := he
    simp only at h2
    split at h2
    · rename_i hl
      cases h2
      refine ⟨env, S, φ, R, ds, _, rep, er, h1, fun vs R1 H1 e1 r1 d1 => ⟨le_line (by rw [d1.len]; exact hl), fun p hp => ?_⟩⟩
      exact q _ _ _ ((Post.newLst r1 hp d1).trans e1 rep r1)
    · cases h2
/-! ### subscripts -/
theorem atI_eq {α : Type} (xs : List α) (i : Int) : VI.atI xs i = L2.atI xs i := rfl
theorem atI_dq {vs : List V} {ds : List D} {i : Int} {d : D} (h : DqA K R H vs ds) (e : VI.atI ds i = some d) : ∃ v, L2.atI vs i = some v ∧ Dq K R H v d := by
  unfold VI.atI at e
  rw [Option.bind_eq_some_iff] at e
  obtain ⟨j, h1, h2⟩ := e
  obtain ⟨v, h3, h4⟩ := h.get h2
  refine ⟨v, ?_, h4⟩
  unfold L2.atI
  rw [h.len, show L2.ixN ds.length i = some j from h1]
  exact h3
theorem ob_ix : IxR X (rB X.K fun d e => (ixD d e).map W.p) := by
  intro value slice pins s σ H x y v u Q I rx ry h hs
  obtain ⟨R, S, φ, d, e, w, rep, dx, dy, he, q⟩ := h
  rw [Option.map_eq_some_iff] at he
  obtain ⟨r, he, rfl⟩ := he
  unfold ixD at he
  split at he
  · obtain ⟨a, vs, rfl, h1, h2⟩ := dx.lst
    obtain rfl := dy.int
    obtain ⟨z, h3, h4⟩ := atI_dq h2 he
    exact ix_list value slice pins s σ H _ _ v u Q I rx ry ⟨a, vs, _, z, rfl, rfl, SqL.of h1, h3, q _ _ _ (.same rep h4)⟩ hs
  · obtain ⟨a, vs, rfl, h1, h2⟩ := dx.tup
    obtain rfl := dy.int
    obtain ⟨z, h3, h4⟩ := atI_dq h2 he
    exact ix_tup value slice pins s σ H _ _ v u Q I rx ry ⟨a, vs, _, z, rfl, rfl, h1, h3, q _ _ _ (.same rep h4)⟩ hs
  · obtain ⟨a, ns, rfl, rfl, h1⟩ := dx.scr
    obtain rfl := dy.int
    obtain ⟨z, h3, h4⟩ := atI_dq (DqA.ints (K := X.K) (R := R) (H := H) ns) he
    exact ix_list value slice pins s σ H _ _ v u Q I rx ry ⟨a, _, _, z, rfl, rfl, h1, h3, q _ _ _ (.same rep h4)⟩ hs
  · split at he
    · rename_i hl
      rw [Option.map_eq_some_iff] at he
      obtain ⟨c, h3, rfl⟩ := he
      obtain rfl := dx.str
      obtain rfl := dy.int
      exact ix_str value slice pins s σ H _ _ v u Q I rx ry ⟨_, _, c, rfl, rfl, le_line hl, h3, q _ _ _ (.same rep (.str _))⟩ hs
    · cases he
  · cases he
theorem e_ix (ha : PE X a (tE X.K G ea)) (hb : PE X b (tE X.K G eb)) (hs : PlainIx b) : PE X (.Subscript a b pos) (tE X.K G (.ix ea eb)) :=
  (pe_ix ob_ix ha hb hs).imp fun σ H Q ⟨env, S, φ, R, w, S', rep, er, he, q⟩ => by
    simp only [ev, Option.bind_eq_bind, Option.bind_eq_some_iff] at he
    obtain ⟨⟨x, S1⟩, h1, ⟨y, S2⟩, h2, d, h3, e, h4, r, h5, h6⟩ := he
    cases h6
    exact two_rd rep er h1 h2 h3 h4 fun v1 v2 R2 H2 e2 r2 d1 d2 => ⟨R2, _, φ, d, e, .p r, r2, d1, d2, by simp only [h5, Option.map_some], fun v R' H' p => q _ _ _ (p.trans e2 rep r2)⟩
end VI
set_option Elab.async false
set_option linter.all false
set_option maxRecDepth 100000
set_option maxHeartbeats 400000
namespace VI
open PySem PySem.Spec PyProof.Rows L2
variable {K : PySem.W.Frag} {R R' R1 R2 : Addr → Prop} {H H' H1 H2 : Hp} {S S' S1 : Store} {φ : List Addr} {w : W} {v : V} {d : D}
variable {X : Cx} {G : Glob} {a b c : Expr} {ea eb ec : E} {pos : Pos} {es : List Expr} {ess : Es}
def tO (K : PySem.W.Frag) (G : Glob) (o : Oe) : TO := fun σ H Q => ∃ env S φ R r S', Rep K R H S φ ∧ EnvR K R H φ σ env ∧ evO G o env S = some (r, S') ∧ ∀ R' H', Ext φ R H R' H' → Rep K R' H' S' φ → Q r H'
theorem _root_.L2.PO.imp {e : Option Expr} {t t' : TO} (h : PO X e t) (i : ∀ σ H Q, t' σ H Q → t σ H Q) : PO X e t' := ⟨fun pins s σ H Q I q => h.run pins s σ H Q I (i _ _ _ q)⟩
theorem o_no : PO X none (tO X.K G .no) := po_none.imp fun σ H Q ⟨env, S, φ, R, w, S', rep, er, he, q⟩ => by
  simp only [evO] at he; cases he; exact q R H .refl rep
theorem o_so (ha : PE X a (tE X.K G ea)) : PO X (some a) (tO X.K G (.so ea)) := (po_some ha).imp fun σ H Q ⟨env, S, φ, R, w, S', rep, er, he, q⟩ => by
  simp only [evO, Option.bind_eq_bind, Option.bind_eq_some_iff] at he
  obtain ⟨⟨x, S1⟩, h1, h2⟩ := he
  refine ⟨env, S, φ, R, x, S1, rep, er, h1, fun v1 R1 H1 p1 => ?_⟩
  cases x with
  | p d =>
    cases d with
    | int i =>
      cases h2
      have hv : Dq X.K R1 H1 v1 (.int i) := p1.val
      cases hv
      exact ⟨i, rfl, q _ _ p1.ext p1.rep⟩
    | _ => cases h2
  | _ => cases h2
theorem cut_len (xs : List D) (lo hi : Option Int) : (cut xs lo hi).length ≤ xs.length := by
  unfold cut; rw [List.length_take, List.length_drop]; omega
theorem DqA.cut {vs : List V} {ds : List D} (h : DqA K R H vs ds) (lo hi : Option Int) : DqA K R H (cutV vs lo hi) (VI.cut ds lo hi) := by
  unfold cutV VI.cut
  rw [h.len]
  exact (h.drop _).take _
theorem sIx_eq (n d : Nat) (o : Option Int) : HT.sIx n d o = VI.sIx n d o := by
  cases o <;> rfl
/-- a slice, by values -/
def rSl (K : PySem.W.Frag) : V → Option Int → Option Int → Hp → VK → Prop := fun x lo hi H Q => ∃ R S φ d w, Rep K R H S φ ∧ Dr K R H x d ∧ slD d lo hi = some w ∧ ∀ v R' H', Post K φ R H S w v R' H' → Q v H'
theorem ob_sl : SlR X (rSl X.K) := by
  intro pins s σ H x v vl vu lo hi sl Q I rx hs pl pu h
  obtain ⟨R, S, φ, d, w, rep, dx, he, q⟩ := h
  unfold slD at he
  split at he
  · cases he
    obtain ⟨a, vs, rfl, h1, h2⟩ := dx.lst
    exact sl_list pins s σ H _ v vl vu lo hi sl Q I rx hs pl pu ⟨a, vs, rfl, SqL.of h1, fun p hp => q _ _ _ (.newLst rep hp (h2.cut lo hi))⟩
  · cases he
    rename_i ds
    obtain ⟨a, vs, rfl, h1, h2⟩ := dx.tup
    refine sl_tupA pins s σ H _ v vl vu lo hi sl Q I rx hs pl pu ⟨a, vs, rfl, h1, fun hw => ?_, fun _ p hp => q _ _ _ (.newTup rep hp (h2.cut lo hi))⟩
    refine q _ _ _ (.same rep ?_)
    have e : VI.cut ds lo hi = ds := by
      unfold VI.cut
      rw [← sIx_eq, ← sIx_eq, ← h2.len, hw.1, hw.2, List.drop_zero, Nat.sub_zero, h2.len, List.take_length]
    rw [e]
    exact .tup h1 h2
  · cases he
theorem e_sl {lo hi : Option Expr} {ol oh : Oe} {p2 : Pos} (ha : PE X a (tE X.K G ea)) (hl : PO X lo (tO X.K G ol)) (hh : PO X hi (tO X.K G oh)) : PE X (.Subscript a (.Slice lo hi none p2) pos) (tE X.K G (.sl ea ol oh)) :=
  (pe_slice ob_sl ha hl hh).imp fun σ H Q ⟨env, S, φ, R, w, S', rep, er, he, q⟩ => by
    simp only [ev, Option.bind_eq_bind, Option.bind_eq_some_iff] at he
    obtain ⟨⟨x, S1⟩, h1, ⟨l, S2⟩, h2, ⟨r, S3⟩, h3, d, h4, w', h5, h6⟩ := he
    cases h6
    refine ⟨env, S, φ, R, x, S1, rep, er, h1, fun v1 R1 H1 p1 => ⟨env, S1, φ, R1, l, S2, p1.rep, er.ext p1.ext rep, h2, fun R2 H2 e2 r2 => ?_⟩⟩
    have e12 := p1.ext.trans e2 rep.own
    refine ⟨env, S2, φ, R2, r, _, r2, er.ext e12 rep, h3, fun R3 H3 e3 r3 => ?_⟩
    have e13 := e12.trans e3 rep.own
    exact ⟨R3, _, φ, d, _, r3, rd_ok r3 ((p1.val.ext e2 p1.rep).ext e3 r2) h4, h5, fun v R' H' p => q _ _ _ (p.trans e13 rep r3)⟩
/-! ### calls of builtins -/
theorem rds_ok (rep : Rep K R H S φ) : ∀ {ws : List W} {vs : List V} {ds : List D}, Paired (fun v w => WR K R H φ w v ∧ ∀ o, w ≠ .nw o) vs ws → rds ws S = some ds → Paired (Dr K R H) vs ds
  | _, _, ds, .nil, e => by simp only [rds, Option.some.injEq] at e; subst e; exact .nil
  | _, _, ds, .cons h t, e => by
    simp only [rds, Option.bind_eq_bind, Option.bind_eq_some_iff] at e
    obtain ⟨d, h1, ds', h2, h3⟩ := e
    cases h3
    exact .cons (rd_ok rep h.1 h1) (rds_ok rep t h2)
/-- every term but a starred one -/
def noSt : Expr → Bool
  | .Starred _ _ => false
  | _ => true
theorem noSt_ev {e : Expr} (h : noSt e = true) (es : List Expr) (env : PySem.Env) : starEach (e :: es) env = (false, eval e env) :: starEach es env := by
  cases e <;> first | rfl | cases h
theorem noSt_pl {es : List Expr} (h : es.all noSt = true) (pos : Pos) (env : PySem.Env) : (PySem.backTo pos (starEach es env)).any (·.1) = false := by
  induction es with
  | nil => rfl
  | cons e es ih =>
    rw [List.all_cons, Bool.and_eq_true] at h
    rw [noSt_ev h.1]
    show (false || (PySem.backTo pos (starEach es env)).any (·.1)) = false
    rw [ih h.2]; rfl
theorem noSt_few {es : List Expr} (h : es.all noSt = true) (hl : es.length < 30) (pos : Pos) (env : PySem.Env) : ((PySem.backTo pos (starEach es env)).all (fun x => !x.1) && (backToKw pos (keywordEach [] env)).all (fun x => x.1.isSome)
      && decide (es.length + ([] : List Keyword).length + (if ([] : List Keyword).isEmpty then 0 else 1) < 30)) = true := by
  have h1 : (PySem.backTo pos (starEach es env)).all (fun x => !x.1) = true := by
    clear hl
    induction es with
    | nil => rfl
    | cons e es ih =>
      rw [List.all_cons, Bool.and_eq_true] at h
      rw [noSt_ev h.1]
      show (true && (PySem.backTo pos (starEach es env)).all (fun x => !x.1)) = true
      rw [ih h.2]; rfl
  have h2 : decide (es.length + ([] : List Keyword).length + (if ([] : List Keyword).isEmpty then 0 else 1) < 30) = true := decide_eq_true (by simpa using hl)
  rw [h1, h2]; rfl
theorem cb_bi {f : Bi} {t : TE} (ht : ∀ σ H Q, (tL X.K G ess σ H fun vs H1 => rF X.K (bifn f) vs H1 Q) → t σ H Q) : ∀ σ H Q, tE X.K G (.bi f ess) σ H Q → t σ H Q := fun σ H Q ⟨env, S, φ, R, w, S', rep, er, he, q⟩ => by
  simp only [ev, Option.bind_eq_bind, Option.bind_eq_some_iff] at he
  obtain ⟨⟨ws, S1⟩, h1, ds, h2, w', h3, h4⟩ := he
  cases h4
  exact ht _ _ _ ⟨env, S, φ, R, ws, _, rep, er, h1, fun vs R1 H1 e1 r1 p => ⟨R1, _, φ, ds, _, r1, rds_ok r1 p h2, h3, fun v R' H' p => q _ _ _ (p.trans e1 rep r1)⟩⟩
def biV : Bi → Value
  | .len => .builtin "len" | .sum => .builtin "sum" | .max => .builtin "max" | .min => .builtin "min" | .max2 => .builtin "max" | .min2 => .builtin "min" | .abs => .builtin "abs"
  | .int => .type "int" | .str => .type "str" | .list => .type "list" | .tuple => .type "tuple" | .sorted => .builtin "sorted" | .all => .builtin "all" | .any => .builtin "any"
def biN : Bi → Str
  | .len => "len" | .sum => "sum" | .max => "max" | .min => "min" | .max2 => "max" | .min2 => "min" | .abs => "abs"
  | .int => "int" | .str => "str" | .list => "list" | .tuple => "tuple" | .sorted => "sorted" | .all => "all" | .any => "any"
theorem bi_call (hc : X.calm = true) (hu : X.A.units + 64 < cLine) (f : Bi) : CallR X (biV f) (rF X.K (bifn f)) := by
  cases f with
  | len => exact fb_len
  | sum => exact fb_sum hc
  | max => exact fb_max hc hu
  | min => exact fb_min hc hu
  | max2 => exact fb_max2 hc
  | min2 => exact fb_min2 hc
  | abs => exact fb_abs
  | int => exact fb_int
  | str => exact fb_str
  | list => exact fb_list
  | tuple => exact fb_tuple
  | sorted => exact fb_sorted
  | all => exact fb_all hc
  | any => exact fb_any hc
theorem bi_boot (f : Bi) : bootBuiltins (biN f) = some (biV f) := by cases f <;> decide +kernel
theorem bi_name (f : Bi) : biN f ≠ "__name__" := by cases f <;> decide +kernel
theorem bi_dbg (f : Bi) : (biN f == ("__debug__" : Str)) = false := by cases f <;> decide +kernel
theorem e_bi {f : Bi} {p : Pos} {e : Expr} (hc : X.calm = true) (hu : X.A.units + 64 < cLine) (hg : Gl X (biN f)) (hm : X.mg (biN f) = none) (ha : PA X (e :: es) (tL X.K G ess)) (hs : (e :: es).all noSt = true) :
    PE X (.Call (.Name (biN f) p) (e :: es) [] pos) (tE X.K G (.bi f ess)) := by
  rw [List.all_cons, Bool.and_eq_true] at hs
  have hb := bi_boot f
  have hcall := bi_call (X := X) hc hu f
  cases hv : biV f with
  | builtin id =>
    rw [hv] at hb hcall
    exact (pe_callB hcall hg hm hb ha (bi_name f) (bi_dbg f) (noSt_ev hs.1 es _) (noSt_pl hs.2 _ _)).imp (cb_bi fun σ H Q h => h)
  | type T =>
    rw [hv] at hb hcall
    exact (pe_callTy hcall hg hm hb ha (bi_name f) (bi_dbg f) (noSt_ev hs.1 es _) (noSt_pl hs.2 _ _)).imp (cb_bi fun σ H Q h => h)
  | _ => cases f <;> cases hv
/-! ### isinstance -/
def tyS : Ty → Str
  | .int => "int" | .bool => "bool" | .str => "str" | .tuple => "tuple" | .list => "list"
theorem ty_boot (t : Ty) : bootBuiltins (tyS t) = some (.type (tyN t)) := by cases t <;> decide +kernel
theorem ty_name (f : Ty) : tyS f ≠ "__name__" := by cases f <;> decide +kernel
theorem ty_dbg (f : Ty) : (tyS f == ("__debug__" : Str)) = false := by cases f <;> decide +kernel
theorem boot_isi : bootBuiltins "isinstance" = some (.builtin "isinstance") := by decide +kernel
theorem e_isi {t : Ty} {p p1 : Pos} (hg : Gl X "isinstance") (hm : X.mg "isinstance" = none) (hg1 : Gl X (tyS t)) (hm1 : X.mg (tyS t) = none) (ha : PE X a (tE X.K G ea)) (hs : noSt a = true) :
    PE X (.Call (.Name "isinstance" p) [a, .Name (tyS t) p1] [] pos) (tE X.K G (.isi ea t)) := by
  have h2 : PE X (.Name (tyS t) p1) (L2.tC (.ty (tyN t))) := pe_bltn hg1 hm1 (ty_boot t) rfl (ty_name t) (ty_dbg t)
  refine (pe_callB call_isi hg hm boot_isi (pa_cons ha (pa_cons h2 pa_nil (noSt_ev rfl _ _)) (noSt_ev hs _ _)) (by decide +kernel) (by decide +kernel) (noSt_ev hs _ _) (noSt_pl (es := [.Name (tyS t) p1]) rfl _ _)).imp fun σ H Q ⟨env, S, φ, R, w, S', rep, er, he, q⟩ => ?_
  simp only [ev, Option.bind_eq_bind, Option.bind_eq_some_iff] at he
  obtain ⟨⟨x, S1⟩, h1, d, h2, hd, h3, h4⟩ := he
  cases h4
  refine ⟨env, S, φ, R, x, _, rep, er, h1, fun v1 R1 H1 p1 => ?_⟩
  have dr := rd_ok p1.rep p1.val h2
  simp only [notDict] at h3
  have hn : ∀ kvs, d ≠ .dict kvs := fun kvs e => by subst e; cases h3
  exact ⟨v1, .ty (tyN t), .type (tyD d), .type (tyN t), isiD t d, rfl, .ty _, dr.ty hn, kit_ty (kit_all t d hn), q _ _ _ ((Post.same p1.rep (.bl _)).trans p1.ext rep p1.rep)⟩
end VI
set_option Elab.async false
set_option linter.all false
set_option maxRecDepth 100000
set_option maxHeartbeats 400000
namespace VI
open PySem PySem.Spec PyProof.Rows L2
variable {K : PySem.W.Frag} {R R' R1 R2 : Addr → Prop} {H H' H1 H2 : Hp} {S S' S1 : Store} {φ : List Addr} {w : W} {v : V} {d : D}
variable {X : Cx} {G : Glob} {a b c : Expr} {ea eb ec : E} {pos : Pos} {es : List Expr} {ess : Es}
theorem nodup_at {l : List Addr} (h : l.Nodup) {i j : Nat} {x : Addr} (a : l[i]? = some x) (b : l[j]? = some x) : i = j := by
  obtain ⟨h1, e1⟩ := List.getElem?_eq_some_iff.mp a
  obtain ⟨h2, e2⟩ := List.getElem?_eq_some_iff.mp b
  exact (List.getElem_inj h).mp (e1.trans e2.symm)
/-- one of our lists is written -/
theorem ext_set (rep : Rep K R H S φ) {n : Nat} {p : Addr} {vs : List V} (hp : φ[n]? = some p) : Ext φ R H R (L2.upd H p (.lst vs)) :=
  ⟨fun b o h hb => by rw [upd_ne (fun z => hb (by rw [z]; exact List.mem_of_getElem? hp))]; exact h, fun _ h => h, fun _ h => .inl h⟩
theorem Rep.set (rep : Rep K R H S φ) {n : Nat} {p : Addr} {vs : List V} {ds : List D} (hp : φ[n]? = some p) (hd : DqA K R H vs ds) : Rep K R (L2.upd H p (.lst vs)) (S.set n (.pl ds)) φ := by
  have e := ext_set (vs := vs) rep hp
  refine ⟨by rw [List.length_set]; exact rep.len, rep.nd, rep.own, trk_upd rep.trk, fun m o q h1 h2 => ?_⟩
  by_cases hm : m = n
  · subst hm
    rw [hp] at h2; cases h2
    have hl : m < S.length := by rw [← rep.len]; exact (List.getElem?_eq_some_iff.mp hp).1
    rw [List.getElem?_set_self hl] at h1
    cases h1
    exact ⟨vs, upd_same, hd.ext e rep⟩
  · rw [List.getElem?_set_ne (Ne.symm hm)] at h1
    exact (rep.obj m o q h1 h2).ext e rep (upd_ne fun z => hm (nodup_at rep.nd (by rw [← z]; exact h2) hp))
theorem Post.set (rep : Rep K R H S φ) {n : Nat} {p : Addr} {vs : List V} {ds : List D} {v : V} {d : D} (hp : φ[n]? = some p) (hd : DqA K R H vs ds) (hv : Dq K R H v d) : Post K φ R H (S.set n (.pl ds)) (.p d) v R (L2.upd H p (.lst vs)) :=
  ⟨ext_set rep hp, rep.set hp hd, hv.ext (ext_set rep hp) rep, fun o e => nomatch e⟩
theorem WR.loc_at {n : Nat} (h : WR K R H φ (.loc n) v) : ∃ p, φ[n]? = some p ∧ v = .ref p := h
theorem ty_list {p : Addr} {vs : List V} (h : H p = some (.lst vs)) : tyV K "list" (.ref p) H := .inl ⟨rfl, vs, SqL.of h⟩
theorem base_ok {o : Expr} {name : Str} {env : PySem.Env} (h : (match o with | .Call _ _ _ _ => false | _ => true) = true) : attributeBase o name env (eval o env) = eval o env := by
  cases o <;> first | rfl | cases h
def noCall : Expr → Bool
  | .Call _ (_ :: _) _ _ => true
  | .Call _ _ _ _ => false
  | _ => true
theorem noCall_base {o : Expr} {name : Str} {env : PySem.Env} (h : noCall o = true) : attributeBase o name env (eval o env) = eval o env := by
  cases o with
  | Call f xs ks p =>
    cases xs with
    | nil => cases h
    | cons y ys => cases f <;> rfl
  | _ => rfl
theorem e_app {apos cpos : Pos} (ha : PE X a (tE X.K G ea)) (hb : PE X b (tE X.K G eb)) (hn : noCall a = true) (hs : noSt b = true) (hl : (apos.endLine == cpos.line) = true) :
    PE X (.Call (.Attribute a "append" apos) [b] [] cpos) (tE X.K G (.app ea eb)) := by
  refine (pe_bm PySem.F.plainAttrs_list PySem.F.slot_list_append PySem.F.type_list_append mt_append ha (pa_cons hb pa_nil (noSt_ev hs _ _)) (noCall_base hn)
    (noSt_few (es := [b]) (by simp [hs]) (by simp) _ _) hl (noSt_ev hs _ _) (noSt_pl (es := []) rfl _ _)).imp fun σ H Q ⟨env, S, φ, R, w, S', rep, er, he, q⟩ => ?_
  simp only [ev, Option.bind_eq_bind, Option.bind_eq_some_iff] at he
  obtain ⟨⟨x, S1⟩, h1, ⟨y, S2⟩, h2, d, h3, h4⟩ := he
  refine ⟨env, S, φ, R, x, S1, rep, er, h1, fun v1 R1 H1 p1 => ?_⟩
  cases x with
  | loc n =>
    obtain ⟨p, hp, rfl⟩ := p1.val.loc_at
    obtain ⟨vs1, hv1⟩ := p1.rep.lst (List.mem_of_getElem? hp)
    refine ⟨ty_list hv1, env, S1, φ, R1, y, S2, p1.rep, er.ext p1.ext rep, h2, fun v2 R2 H2 p2 => ?_⟩
    obtain ⟨R3, q1, q2, q3, q4⟩ := p2.fz p1.rep h3
    simp only at h4
    cases hS : S2[n]? with
    | none => rw [hS] at h4; cases h4
    | some o =>
      rw [hS] at h4
      cases o with
      | no => cases h4
      | pl ds =>
        simp only at h4
        split at h4
        · rename_i hl
          cases h4
          obtain ⟨vs, hv, hd⟩ := q2.obj n _ p hS hp
          refine ⟨p, vs, v2, rfl, rfl, hv, by rw [hd.len, sizeLine_eq]; exact hl, q _ _ _ ((Post.set q2 hp (hd.append (.cons q3 .nil)) .non).trans (p1.ext.trans q1 rep.own) rep q2)⟩
        · cases h4
  | _ => cases h4
theorem e_pop {apos cpos : Pos} (ha : PE X a (tE X.K G ea)) (hn : noCall a = true) (hl : (apos.endLine == cpos.line) = true) :
    PE X (.Call (.Attribute a "pop" apos) [] [] cpos) (tE X.K G (.pop ea)) := by
  refine (pe_bm0 PySem.F.plainAttrs_list PySem.F.slot_list_pop PySem.F.type_list_pop mt_pop ha (noCall_base hn) hl).imp fun σ H Q ⟨env, S, φ, R, w, S', rep, er, he, q⟩ => ?_
  simp only [ev, Option.bind_eq_bind, Option.bind_eq_some_iff] at he
  obtain ⟨⟨x, S1⟩, h1, h4⟩ := he
  refine ⟨env, S, φ, R, x, S1, rep, er, h1, fun v1 R1 H1 p1 => ?_⟩
  cases x with
  | loc n =>
    obtain ⟨p, hp, rfl⟩ := p1.val.loc_at
    simp only at h4
    cases hS : S1[n]? with
    | none => rw [hS] at h4; cases h4
    | some o =>
      rw [hS] at h4
      cases o with
      | no => cases h4
      | pl ds =>
        simp only at h4
        cases hg : ds.getLast? with
        | none => rw [hg] at h4; cases h4
        | some d =>
          rw [hg] at h4
          cases h4
          obtain ⟨vs, hv, hd⟩ := p1.rep.obj n _ p hS hp
          rw [List.getLast?_eq_getElem?] at hg
          obtain ⟨z, hz, hz2⟩ := hd.get hg
          refine ⟨ty_list hv, p, vs, z, rfl, rfl, hv, by rw [hd.len]; exact hz, q _ _ _ ((Post.set p1.rep hp hd.dropLast hz2).trans p1.ext rep p1.rep)⟩
  | _ => cases h4
theorem ixN_seqIx {n : Nat} {i : Int} {j : Nat} (h : VI.ixN n i = some j) : seqIndex? i n = some j ∧ j < n ∧ -(n : Int) ≤ i ∧ i < n := L2.ixN_seq h
theorem e_popi {apos cpos : Pos} (ha : PE X a (tE X.K G ea)) (hb : PE X b (tE X.K G eb)) (hn : noCall a = true) (hs : noSt b = true) (hl : (apos.endLine == cpos.line) = true) :
    PE X (.Call (.Attribute a "pop" apos) [b] [] cpos) (tE X.K G (.popi ea eb)) := by
  refine (pe_bm PySem.F.plainAttrs_list PySem.F.slot_list_pop PySem.F.type_list_pop mt_popAt ha (pa_cons hb pa_nil (noSt_ev hs _ _)) (noCall_base hn)
    (noSt_few (es := [b]) (by simp [hs]) (by simp) _ _) hl (noSt_ev hs _ _) (noSt_pl (es := []) rfl _ _)).imp fun σ H Q ⟨env, S, φ, R, w, S', rep, er, he, q⟩ => ?_
  simp only [ev, Option.bind_eq_bind, Option.bind_eq_some_iff] at he
  obtain ⟨⟨x, S1⟩, h1, ⟨y, S2⟩, h2, h4⟩ := he
  refine ⟨env, S, φ, R, x, S1, rep, er, h1, fun v1 R1 H1 p1 => ?_⟩
  simp only at h4
  cases x with
  | loc n =>
    obtain ⟨p, hp, rfl⟩ := p1.val.loc_at
    obtain ⟨vs1, hv1⟩ := p1.rep.lst (List.mem_of_getElem? hp)
    refine ⟨ty_list hv1, env, S1, φ, R1, y, S2, p1.rep, er.ext p1.ext rep, h2, fun v2 R2 H2 p2 => ?_⟩
    cases y with
    | p e =>
      cases e with
      | int i =>
        have hv : Dq X.K R2 H2 v2 (.int i) := p2.val
        cases hv
        simp only at h4
        cases hS : S2[n]? with
        | none => rw [hS] at h4; cases h4
        | some o =>
          rw [hS] at h4
          cases o with
          | no => cases h4
          | pl ds =>
            simp only at h4
            cases hj : VI.ixN ds.length i with
            | none => rw [hj] at h4; cases h4
            | some j =>
              rw [hj] at h4
              simp only at h4
              cases hg : ds[j]? with
              | none => rw [hg] at h4; cases h4
              | some d =>
                rw [hg] at h4
                simp only at h4
                split at h4
                · rename_i hsm
                  cases h4
                  obtain ⟨vs, hv, hd⟩ := p2.rep.obj n _ p hS hp
                  obtain ⟨z, hz, hz2⟩ := hd.get hg
                  obtain ⟨i1, i2, i3, i4⟩ := ixN_seqIx hj
                  simp only [smallR, Bool.and_eq_true, decide_eq_true_eq] at hsm
                  exact ⟨p, vs, i, j, z, rfl, rfl, hv, by omega, by omega, by rw [hd.len]; exact i1, hz, q _ _ _ ((Post.set p2.rep hp (hd.eraseIdx j) hz2).trans (p1.ext.trans p2.ext rep.own) rep p2.rep)⟩
                · cases h4
      | _ => cases h4
    | _ => cases h4
  | _ => cases h4
/-! ### join, index -/
theorem idxD_spec {d : D} : ∀ {ds : List D} {j : Nat}, idxD d ds = some j → ∃ z, ds[j]? = some z ∧ PyData.eqv z d = true ∧ ∀ (m : Nat) (z' : D), m < j → ds[m]? = some z' → PyData.eqv z' d = false
  | [], j, h => by cases h
  | z :: r, j, h => by
    simp only [idxD] at h
    split at h
    · rename_i hz
      cases h
      exact ⟨z, rfl, hz, fun m z' hm => absurd hm (Nat.not_lt_zero _)⟩
    · rename_i hz
      cases hr : idxD d r with
      | none => rw [hr] at h; cases h
      | some i =>
        rw [hr] at h
        simp only [Option.map_some, Option.some.injEq] at h
        subst h
        obtain ⟨y, q1, q2, q3⟩ := idxD_spec hr
        refine ⟨y, by simpa using q1, q2, fun m z' hm hz' => ?_⟩
        cases m with
        | zero => simp at hz'; subst hz'; simpa using hz
        | succ m => exact q3 m z' (by omega) (by simpa using hz')
theorem ty_ofDr {v : V} {ds : List D} (h : Dr K R H v (.list ds)) : tyV K "list" v H := by
  obtain ⟨a, vs, rfl, h1, _⟩ := h.lst
  exact ty_list h1
theorem e_idx {apos cpos : Pos} (hu : X.A.units + 65 < cLine) (ha : PE X a (tE X.K G ea)) (hb : PE X b (tE X.K G eb)) (hn : noCall a = true) (hs : noSt b = true) (hl : (apos.endLine == cpos.line) = true) :
    PE X (.Call (.Attribute a "index" apos) [b] [] cpos) (tE X.K G (.mt .index ea eb)) := by
  refine (pe_bm PySem.F.plainAttrs_list PySem.F.slot_list_index PySem.F.type_list_index (mt_indexD hu) ha (pa_cons hb pa_nil (noSt_ev hs _ _)) (noCall_base hn)
    (noSt_few (es := [b]) (by simp [hs]) (by simp) _ _) hl (noSt_ev hs _ _) (noSt_pl (es := []) rfl _ _)).imp fun σ H Q ⟨env, S, φ, R, w, S', rep, er, he, q⟩ => ?_
  simp only [ev, Option.bind_eq_bind, Option.bind_eq_some_iff] at he
  obtain ⟨⟨x, S1⟩, h1, ⟨y, S2⟩, h2, d, h3, e, h4, w', h5, h6⟩ := he
  cases h6
  refine ⟨env, S, φ, R, x, S1, rep, er, h1, fun v1 R1 H1 p1 => ?_⟩
  cases d with
  | list ds =>
    simp only [mtf] at h5
    split at h5
    · rename_i hsh
      rw [Bool.and_eq_true] at hsh
      obtain ⟨j, hj, rfl⟩ : ∃ j : Nat, idxD e ds = some j ∧ w = .p (.int (j : Nat)) := by
        cases hq : idxD e ds with
        | none => rw [hq] at h5; cases h5
        | some j => rw [hq] at h5; cases h5; exact ⟨j, rfl, rfl⟩
      obtain ⟨z, z1, z2, z3⟩ := idxD_spec hj
      have hty : tyV X.K "list" v1 H1 := by
        cases x with
        | p dd =>
          simp only [rd, Option.some.injEq] at h3
          subst h3
          exact ty_ofDr (rd_ok p1.rep p1.val (w := .p (.list ds)) rfl)
        | loc n =>
          obtain ⟨p, hp, rfl⟩ := p1.val.loc_at
          obtain ⟨vs1, hv1⟩ := p1.rep.lst (List.mem_of_getElem? hp)
          exact ty_list hv1
        | nw o =>
          cases o with
          | no => simp [rd] at h3
          | pl ds' => exact ty_ofDr (rd_ok p1.rep p1.val (w := .nw (.pl ds')) rfl)
      refine ⟨hty, env, S1, φ, R1, y, S2, p1.rep, er.ext p1.ext rep, h2, fun v2 R2 H2 p2 => ?_⟩
      have dx := rd_ok p2.rep (p1.val.ext p2.ext p1.rep) h3
      have dy := rd_ok p2.rep p2.val h4
      obtain ⟨p, vs, rfl, hv, _⟩ := dx.lst
      exact ⟨p, v2, e, ds, j, z, rfl, rfl, dx.dp (SeqAt.canLay_of_shaped hsh.2), dy.dp (SeqAt.canLay_of_shaped hsh.1), hsh.2, hsh.1, z1, z2, z3, q _ _ _ ((Post.same p2.rep (.int _)).trans (p1.ext.trans p2.ext rep.own) rep p2.rep)⟩
    · cases h5
  | _ => simp [mtf] at h5
theorem e_join {apos cpos : Pos} (ha : PE X a (tE X.K G ea)) (hb : PE X b (tE X.K G eb)) (hn : noCall a = true) (hs : noSt b = true) (hl : (apos.endLine == cpos.line) = true) : PE X (.Call (.Attribute a "join" apos) [b] [] cpos) (tE X.K G (.mt .join ea eb)) :=
  (pe_join ha hb (noSt_ev hs _ _) (noCall_base hn) hl).imp fun σ H Q ⟨env, S, φ, R, w, S', rep, er, he, q⟩ => by
    simp only [ev, Option.bind_eq_bind, Option.bind_eq_some_iff] at he
    obtain ⟨⟨x, S1⟩, h1, ⟨y, S2⟩, h2, d, h3, e, h4, w', h5, h6⟩ := he
    cases h6
    cases d with
    | str t =>
      cases e with
      | list ds =>
        simp only [mtf, Option.bind_eq_bind, Option.bind_eq_some_iff] at h5
        obtain ⟨xs, h7, h8⟩ := h5
        split at h8
        · rename_i hz
          cases h8
          refine ⟨env, S, φ, R, x, S1, rep, er, h1, fun v1 R1 H1 p1 => ?_⟩
          have hx : x = .p (.str t) := by
            cases x with
            | p d => simp only [rd, Option.some.injEq] at h3; rw [h3]
            | loc n =>
              simp only [rd] at h3
              split at h3 <;> cases h3
            | nw o => cases o <;> simp [rd] at h3
          subst hx
          have hv : Dq X.K R1 H1 v1 (.str t) := p1.val
          cases hv
          refine ⟨⟨t, rfl⟩, env, S1, φ, R1, y, S2, p1.rep, er.ext p1.ext rep, h2, fun v2 R2 H2 p2 => ?_⟩
          obtain ⟨p, vs, rfl, hp, hd⟩ := (rd_ok p2.rep p2.val h4).lst
          obtain ⟨e1, e2⟩ := hd.strs_of h7
          refine ⟨t, p, xs, rfl, rfl, .inl (by rw [← e1]; exact SqL.of hp), hz, ?_⟩
          rw [show Txt.join t xs = PySem.Str.join t xs from StrLaws.glued_eq_join t xs]
          exact q _ _ _ ((Post.same p2.rep (.str _)).trans (p1.ext.trans p2.ext rep.own) rep p2.rep)
        · cases h8
      | _ => cases h5
    | list _ => cases e <;> cases h5
    | _ => cases h5
end VI
set_option Elab.async false
set_option linter.all false
set_option maxRecDepth 100000
set_option maxHeartbeats 400000
namespace VI
open PySem PySem.Spec PyProof.Rows L2
variable {K : PySem.W.Frag} {R R' R1 R2 : Addr → Prop} {H H' H1 H2 : Hp} {S S' S1 : Store} {φ : List Addr} {w : W} {v : V} {d : D}
variable {X : Cx} {G : Glob} {a b c : Expr} {ea eb ec : E} {pos : Pos} {es : List Expr} {ess : Es}
/-! ### calls of defs -/
theorem pick_get {α : Type} {xs : List α} : ∀ {l : List Nat} {ys : List α}, pick xs l = some ys → ys.length = l.length ∧ ∀ (i n : Nat), l[i]? = some n → ∃ x, ys[i]? = some x ∧ xs[n]? = some x
  | [], ys, h => by simp only [pick, Option.some.injEq] at h; subst h; exact ⟨rfl, fun i n e => by simp at e⟩
  | m :: r, ys, h => by
    simp only [pick] at h
    cases hm : xs[m]? with
    | none => rw [hm] at h; cases h
    | some o =>
      rw [hm] at h
      simp only [Option.map_eq_some_iff] at h
      obtain ⟨zs, h1, rfl⟩ := h
      obtain ⟨q1, q2⟩ := pick_get h1
      refine ⟨by simp [q1], fun i n e => ?_⟩
      cases i with
      | zero => simp at e; subst e; exact ⟨o, by simp, hm⟩
      | succ i => simpa using q2 i n (by simpa using e)
theorem pick_of {α β : Type} {xs : List α} {zs : List β} (hl : xs.length = zs.length) : ∀ {l : List Nat} {ys : List α}, pick xs l = some ys → ∃ us, pick zs l = some us
  | [], ys, h => ⟨[], rfl⟩
  | m :: r, ys, h => by
    simp only [pick] at h ⊢
    cases hm : xs[m]? with
    | none => rw [hm] at h; cases h
    | some o =>
      rw [hm] at h
      simp only [Option.map_eq_some_iff] at h
      obtain ⟨_, h1, _⟩ := h
      obtain ⟨us, h2⟩ := pick_of hl h1
      have : m < zs.length := by rw [← hl]; exact (List.getElem?_eq_some_iff.mp hm).1
      rw [List.getElem?_eq_getElem this, h2]
      exact ⟨_, rfl⟩
theorem locsOf_nd : ∀ (ws : List W) (l : List Nat), l.Nodup → (locsOf ws l).Nodup ∧ ∀ n ∈ l, n ∈ locsOf ws l
  | [], l, h => ⟨h, fun _ q => q⟩
  | .loc n :: r, l, h => by
    unfold locsOf
    split
    · exact locsOf_nd r l h
    · rename_i hn
      have hn : n ∉ l := by simpa using hn
      obtain ⟨q1, q2⟩ := locsOf_nd r (l ++ [n]) (by rw [List.nodup_append]; exact ⟨h, by simp, fun a ha b hb e => by rw [List.mem_singleton] at hb; subst hb; subst e; exact hn ha⟩)
      exact ⟨q1, fun m hm => q2 m (List.mem_append_left _ hm)⟩
  | .p d :: r, l, h => by unfold locsOf; exact locsOf_nd r l h
  | .nw o :: r, l, h => by unfold locsOf; exact locsOf_nd r l h
theorem backTo_get : ∀ {l : List Nat} {os S : Store}, l.Nodup → os.length = l.length → (backTo l os S).length = S.length ∧
    (∀ m, m ∉ l → (backTo l os S)[m]? = S[m]?) ∧ ∀ (i m : Nat), l[i]? = some m → m < S.length → (backTo l os S)[m]? = os[i]?
  | [], os, S, _, _ => by
    cases os <;> exact ⟨by simp [backTo], fun m _ => by simp [backTo], fun i m e => by simp at e⟩
  | n :: r, [], S, _, h => by simp at h
  | n :: r, o :: os, S, hn, h => by
    obtain ⟨n1, n2⟩ := List.nodup_cons.mp hn
    obtain ⟨q1, q2, q3⟩ := backTo_get (l := r) (os := os) (S := S.set n o) n2 (by simpa using h)
    refine ⟨by simp only [backTo]; rw [q1, List.length_set], fun m hm => ?_, fun i m e hs => ?_⟩
    · simp only [backTo]
      rw [q2 m (fun z => hm (List.mem_cons_of_mem _ z)), List.getElem?_set_ne (fun z => hm (by rw [z]; exact List.mem_cons_self))]
    · simp only [backTo]
      cases i with
      | zero =>
        simp at e
        subst e
        rw [q2 n n1, List.getElem?_set_self hs]; rfl
      | succ i =>
        have e' : r[i]? = some m := by simpa using e
        rw [q3 i m e' (by rw [List.length_set]; exact hs)]; simp
theorem handIn_ok {l : List Nat} {φc : List Addr} (hp : pick φ l = some φc) : ∀ {ws : List W} {vs : List V} {args : List W}, Paired (fun v w => WR K R H φ w v ∧ ∀ o, w ≠ .nw o) vs ws → handIn l ws = some args → (∀ n, .loc n ∈ ws → n ∈ l) →
    Paired (fun v w => WR K R H φc w v ∧ ∀ o, w ≠ .nw o) vs args
  | _, _, args, .nil, h, _ => by simp only [handIn, Option.some.injEq] at h; subst h; exact .nil
  | w :: ws, _, args, .cons r t, h, hm => by
    cases w with
    | p d =>
      simp only [handIn, Option.map_eq_some_iff] at h
      obtain ⟨as, h1, rfl⟩ := h
      exact .cons ⟨r.1, fun o z => nomatch z⟩ (handIn_ok hp t h1 fun n q => hm n (List.mem_cons_of_mem _ q))
    | loc n =>
      simp only [handIn, Option.map_eq_some_iff] at h
      obtain ⟨as, h1, rfl⟩ := h
      refine .cons ⟨?_, fun o z => nomatch z⟩ (handIn_ok hp t h1 fun n q => hm n (List.mem_cons_of_mem _ q))
      obtain ⟨p, h2, rfl⟩ := r.1
      have hn : n ∈ l := hm n List.mem_cons_self
      have hi : l[l.idxOf n]? = some n := by
        have hlt := List.idxOf_lt_length_of_mem hn
        rw [List.getElem?_eq_getElem hlt, List.getElem_idxOf hlt]
      obtain ⟨x, h3, h4⟩ := (pick_get hp).2 _ _ hi
      rw [h2] at h4; cases h4
      exact ⟨p, h3, rfl⟩
    | nw o => cases h
theorem locsOf_mem : ∀ (ws : List W) (l : List Nat) (n : Nat), .loc n ∈ ws → n ∈ locsOf ws l
  | .loc m :: r, l, n, h => by
    unfold locsOf
    rcases List.mem_cons.mp h with e | h
    · cases e
      split
      · rename_i hn
        exact (locsOf_sub r l _ (by simpa using hn))
      · exact locsOf_sub r _ _ (by simp)
    · split
      · exact locsOf_mem r l n h
      · exact locsOf_mem r _ n h
  | .p d :: r, l, n, h => by
    unfold locsOf
    rcases List.mem_cons.mp h with e | h
    · cases e
    · exact locsOf_mem r l n h
  | .nw o :: r, l, n, h => by
    unfold locsOf
    rcases List.mem_cons.mp h with e | h
    · cases e
    · exact locsOf_mem r l n h
where locsOf_sub : ∀ (ws : List W) (l : List Nat) (n : Nat), n ∈ l → n ∈ locsOf ws l
  | [], l, n, h => h
  | .loc m :: r, l, n, h => by
    unfold locsOf
    split
    · exact locsOf_sub r l n h
    · exact locsOf_sub r _ n (List.mem_append_left _ h)
  | .p d :: r, l, n, h => by unfold locsOf; exact locsOf_sub r l n h
  | .nw o :: r, l, n, h => by unfold locsOf; exact locsOf_sub r l n h
/-- what a def of ours promises -/
def spI (K : PySem.W.Frag) (np : Nat) (sem : List W → Store → Option (W × Store)) : Sp := fun vs H Q _ => ∃ R S φ ws w S', vs.length = np ∧ Rep K R H S φ ∧ Paired (fun v w => WR K R H φ w v ∧ ∀ o, w ≠ .nw o) vs ws ∧ sem ws S = some (w, S') ∧
  ∀ v R' H', Post K φ R H S' w v R' H' → Q v H'
theorem pairedLen {α β : Type} {F : α → β → Prop} : ∀ {xs : List α} {ys : List β}, Paired F xs ys → xs.length = ys.length
  | _, _, .nil => rfl
  | _, _, .cons _ t => congrArg (· + 1) (pairedLen t)
theorem call_ok {np : Nat} {sem : List W → Store → Option (W × Store)} {ws : List W} {vs : List V} {Q : VK} {E : XK} (rep : Rep K R H S φ) (hp : Paired (fun v w => WR K R H φ w v ∧ ∀ o, w ≠ .nw o) vs ws) (he : callW np sem ws S = some (w, S'))
    (q : ∀ v R' H', Post K φ R H S' w v R' H' → Q v H') : spI K np sem vs H Q E := by
  simp only [callW, Option.bind_eq_bind, Option.bind_eq_some_iff] at he
  obtain ⟨args, h1, Sc, h2, h3⟩ := he
  split at h3
  · rename_i hn
    rw [Option.bind_eq_some_iff] at h3
    obtain ⟨⟨w0, S0⟩, h4, h5⟩ := h3
    have nd := (locsOf_nd ws [] List.nodup_nil).1
    generalize hlq : locsOf ws [] = l at h1 h2 h4 h5 nd
    obtain ⟨φc, hφ⟩ := pick_of rep.len.symm h2
    obtain ⟨k1, k2⟩ := pick_get h2
    obtain ⟨k3, k4⟩ := pick_get hφ
    have hargs := handIn_ok hφ hp h1 (fun n hm => by rw [← hlq]; exact locsOf_mem ws [] n hm)
    have sub : ∀ x ∈ φc, x ∈ φ := fun x hx => by
      obtain ⟨i, hi⟩ := List.getElem?_of_mem hx
      have hil : i < l.length := by rw [← k3]; exact (List.getElem?_eq_some_iff.mp hi).1
      obtain ⟨y, q1, q2⟩ := k4 i _ (List.getElem?_eq_getElem hil)
      rw [hi] at q1; cases q1
      exact List.mem_of_getElem? q2
    have repc : Rep K R H Sc φc := by
      refine ⟨by rw [k3, k1], ?_, fun x hx => rep.own x (sub x hx), rep.trk, fun i o x e1 e2 => ?_⟩
      · rw [List.nodup_iff_pairwise_ne, List.pairwise_iff_getElem]
        intro i j hi hj hij e
        obtain ⟨x, q1, q2⟩ := k4 i _ (List.getElem?_eq_getElem (by omega))
        obtain ⟨y, q3, q4⟩ := k4 j _ (List.getElem?_eq_getElem (by omega))
        rw [List.getElem?_eq_getElem hi] at q1; cases q1
        rw [List.getElem?_eq_getElem hj] at q3; cases q3
        rw [e] at q2
        have hij' := nodup_at rep.nd q2 q4
        have := (List.getElem_inj nd).mp hij'
        omega
      · have hil : i < l.length := by rw [← k3]; exact (List.getElem?_eq_some_iff.mp e2).1
        obtain ⟨x', q1, q2⟩ := k4 i _ (List.getElem?_eq_getElem hil)
        obtain ⟨o', q3, q4⟩ := k2 i _ (List.getElem?_eq_getElem hil)
        rw [e2] at q1; cases q1
        rw [e1] at q3; cases q3
        exact rep.obj _ _ _ q4 q2
    refine ⟨R, Sc, φc, args, w0, S0, ?_, repc, hargs, h4, fun v R' H' p => ?_⟩
    · rw [← hn]; exact pairedLen hargs
    · have ext : Ext φ R H R' H' := ⟨fun b o e hb => p.ext.fr b o e fun z => hb (sub b z), p.ext.up, p.ext.dn⟩
      have hlen : S0.length = l.length := by rw [← p.rep.len, k3]
      obtain ⟨b1, b2, b3⟩ := backTo_get (S := S) nd hlen
      have repb : Rep K R' H' (backTo l S0 S) φ := by
        refine ⟨by rw [b1]; exact rep.len, rep.nd, fun x hx => p.ext.up x (rep.own x hx), p.rep.trk, fun m o x e1 e2 => ?_⟩
        have hm : m < S.length := by rw [← rep.len]; exact (List.getElem?_eq_some_iff.mp e2).1
        by_cases hml : m ∈ l
        · obtain ⟨i, hi⟩ := List.getElem?_of_mem hml
          rw [b3 i m hi hm] at e1
          obtain ⟨x', q1, q2⟩ := k4 i m hi
          rw [e2] at q2; cases q2
          exact p.rep.obj i o x e1 q1
        · rw [b2 m hml] at e1
          have hx : x ∉ φc := fun z => by
            obtain ⟨i, hi⟩ := List.getElem?_of_mem z
            have hil : i < l.length := by rw [← k3]; exact (List.getElem?_eq_some_iff.mp hi).1
            obtain ⟨y, q1, q2⟩ := k4 i _ (List.getElem?_eq_getElem hil)
            rw [hi] at q1; cases q1
            have := nodup_at rep.nd q2 e2
            exact hml (by rw [← this]; exact List.getElem_mem hil)
          have ho := rep.obj m o x e1 e2
          obtain ⟨vs', hv⟩ := ho.lst
          exact ho.ext ext rep (by rw [hv]; exact p.ext.fr x _ hv hx)
      cases w0 with
      | p d =>
        cases h5
        exact q _ _ _ ⟨ext, repb, p.val, fun o e => nomatch e⟩
      | loc n =>
        simp only at h5
        cases hm : l[n]? with
        | none => rw [hm] at h5; cases h5
        | some m =>
          rw [hm] at h5
          cases h5
          obtain ⟨x, q1, rfl⟩ := p.val
          obtain ⟨y, q2, q3⟩ := k4 n m hm
          rw [q1] at q2; cases q2
          exact q _ _ _ ⟨ext, repb, ⟨x, q3, rfl⟩, fun o e => nomatch e⟩
      | nw o =>
        cases h5
        obtain ⟨x, rfl, q1, q2, q3⟩ := p.val
        have hf := p.fresh _ rfl x rfl
        exact q _ _ _ ⟨ext, repb, ⟨x, rfl, q1, rep.out hf, q3⟩, fun o e y ey => by cases ey; exact hf⟩
  · cases h3
theorem e_call {f : Nat} {x : Str} {p : Pos} {e : Expr} {np k : Nat} {sem : List W → Store → Option (W × Store)} {fa : Addr} {fd : FuncData} {ps : List Str} (F : FnOk X.prog X.w X.K X.mg X.base CX0 k fa fd ps (spI X.K np sem)) (hr : Room k X.A)
    (hg : Gl X x) (hm : X.mg x = some (.ref fa)) (hk : PySem.W.keepIn X.K (.ref fa) = true) (hb : Binds X.K fd ps []) (hG : ∀ ws S, G.call f ws S = callW np sem ws S) (ha : PA X (e :: es) (tL X.K G ess)) (hdb : (x == ("__debug__" : Str)) = false)
    (hs : (e :: es).all noSt = true) : PE X (.Call (.Name x p) (e :: es) [] pos) (tE X.K G (.call f ess)) := by
  rw [List.all_cons, Bool.and_eq_true] at hs
  refine (pe_call F hr hg hm hk hb .nil pass0 ha hdb (noSt_ev hs.1 es _) (noSt_pl hs.2 _ _)).imp fun σ H Q ⟨env, S, φ, R, w, S', rep, er, he, q⟩ => ?_
  simp only [ev, Option.bind_eq_bind, Option.bind_eq_some_iff] at he
  obtain ⟨⟨ws, S1⟩, h1, h2⟩ := he
  refine ⟨env, S, φ, R, ws, S1, rep, er, h1, fun vs R1 H1 e1 r1 pr => ?_⟩
  show spI X.K np sem (vs ++ []) H1 Q E0
  rw [List.append_nil]
  exact call_ok r1 pr (by rw [← hG]; exact h2) fun v R' H' p => q _ _ _ (p.trans e1 rep r1)
/-! ### what is walked -/
def SrcI (K : PySem.W.Frag) (J : It) (ds : List D) (R : Addr → Prop) (H : Hp) : Prop := ∀ R' H', Stay R H R' H' → (∀ i, i < ds.length → J.go i H') ∧ (∀ i, ds.length ≤ i → J.stop i H') ∧
  ∀ i x H'', i < ds.length → J.yld i H' x H'' → ∃ d, ds[i]? = some d ∧ ((H'' = H' ∧ Dq K R' H' x d) ∨ (∃ p vs es, x = .ref p ∧ d = .tuple es ∧ H' p = none ∧ H'' = upd H' p (.tup vs) ∧ DqA K R' H' vs es))
def SrcR (K : PySem.W.Frag) (J : It) (src : Src) (φ : List Addr) (R : Addr → Prop) (H : Hp) : Prop :=
  match src with
  | .items ds => SrcI K J ds R H
  | .live n => ∃ a, φ[n]? = some a ∧ J = Itl K a
  | .liveE n => ∃ a, φ[n]? = some a ∧ J = Ite K a
theorem Stay.trans' {R3 : Addr → Prop} {H3 : Hp} (a : Stay R H R1 H1) (b : Stay R1 H1 R3 H3) : Stay R H R3 H3 :=
  ⟨fun c vs h hn => let ⟨q1, q2⟩ := a.own c vs h hn; b.own c vs q1 q2, fun c vs h => b.tup c vs (a.tup c vs h), fun c o u h => let ⟨q1, q2⟩ := a.frz c o u h; let ⟨q3, q4⟩ := b.frz c o u q1; ⟨q3, fun z => q4 (q2 z)⟩⟩
theorem Stay.refl' : Stay R H R H := ⟨fun b vs h hn => ⟨h, hn⟩, fun b vs h => h, fun b o u h => ⟨h, id⟩⟩
theorem sq_list_uniq {p : Addr} {vs us : List V} (h : H p = some (.lst vs)) (h' : Rd H p (.lst us)) : us = vs := by
  rcases h' with h' | ⟨o, h'⟩
  · rw [h] at h'; cases h'; rfl
  · rw [h] at h'; cases h'
theorem src_list {p : Addr} {vs : List V} {ds : List D} (hn : ¬ R p) (h : H p = some (.lst vs)) (hd : DqA K R H vs ds) : SrcI K (Itl K p) ds R H := fun R' H' st => by
  obtain ⟨q1, q2⟩ := st.own p vs h hn
  have hd' := hd.stay st
  have hl := hd.len
  refine ⟨fun i hi => ⟨vs, vs[i], SqL.of q1, List.getElem?_eq_getElem (by omega)⟩, fun i hi => ⟨vs, SqL.of q1, by omega⟩, fun i x H'' hi y => ?_⟩
  obtain ⟨rfl, f⟩ := y
  have e := f vs (SqL.of q1)
  obtain ⟨z, e1, e2⟩ := hd'.get (List.getElem?_eq_getElem hi)
  rw [e] at e1; cases e1
  exact ⟨_, List.getElem?_eq_getElem hi, .inl ⟨rfl, e2⟩⟩
theorem SqT.stay {p : Addr} {vs : List V} (h : SqT K H p vs) (st : Stay R H R' H') : SqT K H' p vs := by
  rcases h with (h | ⟨o, h⟩) | h
  · exact .inl (.inl (st.tup _ _ h))
  · exact .inl (.inr ⟨o, (st.frz _ _ _ h).1⟩)
  · exact .inr h
theorem src_tup {p : Addr} {vs : List V} {ds : List D} (h : SqT K H p vs) (hd : DqA K R H vs ds) : SrcI K (Itt K p) ds R H := fun R' H' st => by
  have q1 : SqT K H' p vs := SqT.stay h st
  have hd' := hd.stay st
  have hl := hd.len
  refine ⟨fun i hi => ⟨vs, vs[i], q1, List.getElem?_eq_getElem (by omega)⟩, fun i hi => ⟨vs, q1, by omega⟩, fun i x H'' hi y => ?_⟩
  obtain ⟨rfl, f⟩ := y
  have e := f vs q1
  obtain ⟨z, e1, e2⟩ := hd'.get (List.getElem?_eq_getElem hi)
  rw [e] at e1; cases e1
  exact ⟨_, List.getElem?_eq_getElem hi, .inl ⟨rfl, e2⟩⟩
theorem src_rng (lo hi : Int) : SrcI K (Itr lo (hi - lo).toNat) (rngL lo hi) R H := fun R' H' st => by
  have hl : (rngL lo hi).length = (hi - lo).toNat := by simp [rngL]
  refine ⟨fun i hi => by rw [hl] at hi; exact hi, fun i hi => by rw [hl] at hi; exact hi, fun i x H'' hi y => ?_⟩
  obtain ⟨rfl, rfl⟩ := y
  rw [hl] at hi
  refine ⟨.int (lo + (i : Nat)), ?_, .inl ⟨rfl, .int _⟩⟩
  simp only [rngL, List.getElem?_map, List.getElem?_range hi, Option.map_some]
/-- a walked list or tuple -/
def iSeq (K : PySem.W.Frag) (tl : TE) : TI := fun σ H Rk => tl σ H fun x H1 => ∃ p, x = .ref p ∧ ((∃ xs, SqL K H1 p xs ∧ Rk (Itl K p) H1) ∨ ∃ xs, SqT K H1 p xs ∧ Rk (Itt K p) H1)
theorem pi_seq {tg l : Expr} {tl : TE} (hl : PE X l tl) : PI X tg l (iSeq X.K tl) := by
  refine ⟨fun pins s σ H R I h => ?_⟩
  refine thn (hl.run pins s σ H _ I h) fun v s1 ⟨x, H1, I1, r1, q1⟩ => ?_
  obtain ⟨a, e, q1⟩ := q1
  subst e
  cases r1
  rcases q1 with ⟨xs, hq, q⟩ | ⟨xs, hq, q⟩
  · obtain ⟨its, rv, p, hz⟩ := I1.list hq
    refine wpAny_pyIter_list p.isList ?_
    refine ⟨s1.heap.objs.size, [s1.heap.objs.size], _, _, H1, rfl, I1.kept (t' := s1.toks) fun b o e => Heap.get?_push_of_some _ e, turn_list a _, ⟨_, Heap.get?_push_size _ rfl, rfl, rfl⟩, fun b hb => ?_, q⟩
    have e : b = s1.heap.objs.size := by simpa using hb
    subst e
    exact I1.fpOk (Nat.le_refl _) (I1.hok.fresh (Nat.le_refl _))
  · obtain ⟨its, rv, p, hz⟩ := I1.tuple hq
    refine wpAny_pyIter_tuple (show s1.heap.IsTuple a its.toArray from p) ?_
    refine ⟨s1.heap.objs.size, [s1.heap.objs.size], _, _, H1, rfl, I1.kept (t' := s1.toks) fun b o e => Heap.get?_push_of_some _ e, turn_tuple a _, ⟨_, Heap.get?_push_size _ rfl, rfl, rfl⟩, fun b hb => ?_, q⟩
    have e : b = s1.heap.objs.size := by simpa using hb
    subst e
    exact I1.fpOk (Nat.le_refl _) (I1.hok.fresh (Nat.le_refl _))
def tIt (K : PySem.W.Frag) (G : Glob) (it : I) : TI := fun σ H Rk => ∃ env S φ R src S', Rep K R H S φ ∧ EnvR K R H φ σ env ∧ evI G it env S = some (src, S') ∧ ∀ J R' H', Ext φ R H R' H' → Rep K R' H' S' φ → SrcR K J src φ R' H' → Rk J H'
theorem i_sq {tg : Expr} (ha : PE X a (tE X.K G ea)) : PI X tg a (tIt X.K G (.sq ea)) :=
  (pi_seq ha).imp fun σ H Q ⟨env, S, φ, R, src, S', rep, er, he, q⟩ => by
    simp only [evI, Option.bind_eq_bind, Option.bind_eq_some_iff] at he
    obtain ⟨⟨x, S1⟩, h1, s, h2, h3⟩ := he
    cases h3
    refine ⟨env, S, φ, R, x, _, rep, er, h1, fun v1 R1 H1 p1 => ?_⟩
    simp only [srcOf] at h2
    split at h2
    · cases h2
      have hv : Dq X.K R1 H1 v1 _ := p1.val
      cases hv with
      | lst q1 q2 q3 => exact ⟨_, rfl, .inl ⟨_, SqL.of q2, q _ _ _ p1.ext p1.rep (src_list q1 q2 q3)⟩⟩
    · cases h2
      have hv : Dq X.K R1 H1 v1 _ := p1.val
      cases hv with
      | tup q2 q3 => exact ⟨_, rfl, .inr ⟨_, q2, q _ _ _ p1.ext p1.rep (src_tup q2 q3)⟩⟩
    · cases h2
      obtain ⟨R2, q1, q2, q3, q4⟩ := p1.fz rep (d := .list _) rfl
      cases q3 with
      | lst z1 z2 z3 => exact ⟨_, rfl, .inl ⟨_, SqL.of z2, q _ _ _ q1 q2 (src_list z1 z2 z3)⟩⟩
    · rename_i n S2
      split at h2
      · rename_i ds hS
        cases h2
        obtain ⟨p, hp, rfl⟩ := p1.val.loc_at
        obtain ⟨vs, hv, _⟩ := p1.rep.obj _ _ p hS hp
        exact ⟨p, rfl, .inl ⟨vs, SqL.of hv, q _ _ _ p1.ext p1.rep ⟨p, hp, rfl⟩⟩⟩
      · cases h2
    · cases h2
theorem rng_bounds {j : Int} (h : smallR j = true) : -(2 ^ 62) ≤ j ∧ j < 2 ^ 62 := by
  simpa [smallR] using h
theorem i_rng {tg : Expr} {p : Pos} (hg : Gl X "range") (hm : X.mg "range" = none) (ha : PE X a (tE X.K G ea)) (hs : noSt a = true) : PI X tg (.Call (.Name "range" p) [a] [] pos) (tIt X.K G (.rng ea)) :=
  (pi_range1 hg hm (pa_cons ha pa_nil (noSt_ev hs _ _)) (noSt_ev hs _ _)).imp fun σ H Q ⟨env, S, φ, R, src, S', rep, er, he, q⟩ => by
    simp only [evI, Option.bind_eq_bind, Option.bind_eq_some_iff] at he
    obtain ⟨⟨x, S1⟩, h1, h2⟩ := he
    refine ⟨env, S, φ, R, x, S1, rep, er, h1, fun v1 R1 H1 p1 => ?_⟩
    cases x with
    | p d =>
      cases d with
      | int j =>
        simp only at h2
        split at h2
        · rename_i hj
          cases h2
          have hv : Dq X.K R1 H1 v1 (.int j) := p1.val
          cases hv
          obtain ⟨b1, b2⟩ := rng_bounds hj
          have z := src_rng (K := X.K) (R := R1) (H := H1) 0 j
          rw [Int.sub_zero] at z
          exact ⟨j, rfl, b1, b2, q _ _ _ p1.ext p1.rep z⟩
        · cases h2
      | _ => cases h2
    | _ => cases h2
theorem i_rng2 {tg : Expr} {p : Pos} (hg : Gl X "range") (hm : X.mg "range" = none) (ha : PE X a (tE X.K G ea)) (hb : PE X b (tE X.K G eb)) (hs : noSt a = true) (hs2 : noSt b = true) : PI X tg (.Call (.Name "range" p) [a, b] [] pos) (tIt X.K G (.rng2 ea eb)) :=
  (pi_range2 hg hm (pa_cons ha (pa_cons hb pa_nil (noSt_ev hs2 _ _)) (noSt_ev hs _ _)) (by rw [noSt_ev hs, noSt_ev hs2]; rfl) (noSt_ev hs2 _ _)).imp fun σ H Q ⟨env, S, φ, R, src, S', rep, er, he, q⟩ => by
    simp only [evI, Option.bind_eq_bind, Option.bind_eq_some_iff] at he
    obtain ⟨⟨x, S1⟩, h1, ⟨y, S2⟩, h2, h3⟩ := he
    refine ⟨env, S, φ, R, x, S1, rep, er, h1, fun v1 R1 H1 p1 => ⟨env, S1, φ, R1, y, S2, p1.rep, er.ext p1.ext rep, h2, fun v2 R2 H2 p2 => ?_⟩⟩
    simp only at h3
    split at h3
    · split at h3
      · rename_i i j hi hj hij
        cases h3
        rw [Bool.and_eq_true] at hij
        have hv : Dq X.K R1 H1 v1 _ := p1.val
        have hv2 : Dq X.K R2 H2 v2 _ := p2.val
        cases hv
        cases hv2
        obtain ⟨b1, b2⟩ := rng_bounds hij.1
        obtain ⟨b3, b4⟩ := rng_bounds hij.2
        exact ⟨_, _, rfl, ⟨b1, b2, b3, b4⟩, q _ _ _ (p1.ext.trans p2.ext rep.own) p2.rep (src_rng _ _)⟩
      · cases h3
    · cases h3
end VI
set_option Elab.async false
set_option linter.all false
set_option maxRecDepth 100000
set_option maxHeartbeats 1000000
/-! what is walked: enumerate of a tuple or list, zip of two tuples -/
namespace VI
open PySem PySem.Spec PyProof.Rows L2
theorem enu_new1 {v : Value} {o : PySem.Obj} {Hh : Heap → Prop} (B : Begins v o Hh) :
    Meets (Builtin.«enumerate.__new__» ⟨[.type "enumerate", v], []⟩) (fun _ R s => Hh s.heap ∧
      R (.ok (.ret (.ref (s.heap.push o).objs.size))) { s with heap := (s.heap.push o).push { cls := .type "enumerate", data := .fields #[.none, .bool false, .ref s.heap.objs.size, rawInt 0, .none, .none] } }) :=
  .of_wp fun prog w A R s hx => by
    obtain ⟨hp, g, dd, tk, os⟩ := s
    obtain ⟨hb, hx⟩ := hx
    have he := sub_enumerate
    have goes : ∀ {A' : Around} {E Q : Value → Shared → Prop}, Q (.ref hp.objs.size) ⟨hp.push o, g, dd, tk, os⟩ → wpAny (model prog w) A' (pyIter v) Q E ⟨hp, g, dd, tk, os⟩ := fun q => B.iter _ _ _ _ ⟨hp, g, dd, tk, os⟩ _ hb q
    wp_walk using goes
    refine wpAny_stack_any fun _ => wpAny_pure ?_
    split
    · rename_i c _ _ _ _ _
      cases (c == Value.type "enumerate") <;>
      · wp_walk using goes
        exact ⟨_, rfl, hx⟩
    · wp_walk using goes
      exact ⟨_, rfl, hx⟩
section
variable {prog : Program} {w : World} {A : Around} {E : Value → Shared → Prop} {s : Shared}
theorem enu_call1 {v : Value} {o : PySem.Obj} {Hh : Heap → Prop} {Q : Value → Shared → Prop} (B : Begins v o Hh) (hb : Hh s.heap)
    (hq : ∀ h', IsEnum h' (s.heap.objs.size + 1) s.heap.objs.size 0 .none → h'.get? s.heap.objs.size = some o → (∀ c u, s.heap.get? c = some u → h'.get? c = some u) → Q (.ref (s.heap.objs.size + 1)) { s with heap := h' }) :
    wpAny (model prog w) A (call (.type "enumerate") [v]) Q E s := by
  refine callType_new F.called_enumerate (by decide) (F.typeCall_enumerate_1 _) (F.newCall_enumerate_1 _) (fun ob => F.args_object_init_2 ob _) F.entry_enumerate_new (enu_new1 B) ⟨hb, ?_⟩
  have hz : (s.heap.push o).objs.size = s.heap.objs.size + 1 := Heap.size_push ..
  show _ ∧ _
  rw [hz]
  have key : IsEnum ((s.heap.push o).push { cls := .type "enumerate", data := .fields #[.none, .bool false, .ref s.heap.objs.size, rawInt 0, .none, .none] }) (s.heap.objs.size + 1) s.heap.objs.size 0 .none := by
    have q := Heap.get?_push_size (s.heap.push o) (o := { cls := .type "enumerate", data := .fields #[.none, .bool false, .ref s.heap.objs.size, rawInt 0, .none, .none] }) rfl
    rw [hz] at q
    exact q
  exact ⟨⟨_, key, rfl⟩, hq _ key (Heap.get?_push_of_some _ (Heap.get?_push_size _ B.free)) fun c u z => Heap.get?_push_of_some _ (Heap.get?_push_of_some _ z)⟩
end
/-- the tuple at a, each item in a new pair -/
def ItET (K : PySem.W.Frag) (a : Addr) : It :=
  ⟨fun i H => ∃ (xs : List V) (x : V), SqT K H a xs ∧ xs[i]? = some x, fun i H v H' => ∃ T x, v = .ref T ∧ H T = none ∧ H' = upd H T (.tup [.int (i : Nat), x]) ∧ ∀ xs, SqT K H a xs → xs[i]? = some x, fun i H => ∃ xs : List V, SqT K H a xs ∧ xs.length ≤ i⟩
theorem turn_ET {P : Program} {w : World} {K : PySem.W.Frag} {elts : List Expr} {kk : Nat} {tpos : Pos} (a e it : Addr) :
    Turn P w K (.Tuple elts kk tpos) (ItET K a) [e, it] e (fun i h => (∃ old, IsEnum h e it ((i : Nat) : Int) old) ∧ h.IsTupleIter it a i ∧ e ≠ it ∧ a ≠ it ∧ e ≠ a) where
  mem := by simp
  obj := fun i h st b hb => by
    obtain ⟨⟨old, he⟩, ⟨o, ho, hc, hd⟩, _⟩ := st
    have q : b = e ∨ b = it := by simpa using hb
    rcases q with rfl | rfl
    · exact ⟨_, he, fun v q => nomatch q⟩
    · exact ⟨o, ho, fun v q => by rw [hd] at q; cases q⟩
  keep := fun i h h' st k => let ⟨⟨old, he⟩, hi, hn⟩ := st; ⟨⟨old, k e (by simp) _ he⟩, hi.at fun o q => k it (by simp) o q, hn⟩
  item := by
    intro X hP hw hK hc i pins s σ H E I hf st hg
    subst hP hw hK
    obtain ⟨⟨old, he⟩, hit, hne, hai, hea⟩ := st
    obtain ⟨xs, x, hq, hx⟩ := hg
    obtain ⟨its, rv, p, _⟩ := I.tuple hq
    obtain ⟨u, hu, ru⟩ := rv.get hx
    have hel : e < s.heap.objs.size := Heap.lt_size he
    have hil : it < s.heap.objs.size := by obtain ⟨_, q, _⟩ := hit; exact Heap.lt_size q
    have hil' : i < its.toArray.size := by
      obtain ⟨hl, _⟩ := List.getElem?_eq_some_iff.mp hu
      simpa using hl
    refine wpAny_pyNext_enum_itemC (A := X.A) (Draws.tuple (prog := X.prog) (w := X.w) (A := X.A.in1) (show X.A.in1.handled = none from I.ok.hd hc) it a hai its.toArray) he ⟨hit, p⟩ hil' hne (by simp [hne, hea]) fun y h' tk hP ho hst hT hsz hk => ?_
    have ey : y = u := by
      have q : its.toArray[i]? = some y := hP
      simp only [List.getElem?_toArray] at q
      rw [hu] at q; cases q; rfl
    subst ey
    refine ⟨_, rfl, wpAny_letOwnedTupleGo_enum (s := { s with heap := h', toks := tk + 1 }) ho fun h'' he' sb => ?_⟩
    have hT2 : h''.get? s.heap.objs.size = some { cls := .type "tuple", data := .seq #[.int i tk, y] } := (sb.2 _ (Nat.ne_of_gt hel)).trans hT
    have nw : ObjOk X.prog X.w (upd H s.heap.objs.size (.tup [.int (i : Nat), x])) h'' s.heap.objs.size (.tup [.int (i : Nat), x]) :=
      ⟨by show 2 ≤ sizeLine; decide, [.int i tk, y], .cons ⟨_, rfl⟩ (.cons ru .nil), ⟨_, hT2, rfl, _, rfl⟩⟩
    have I1 : Inv X pins σ (upd H s.heap.objs.size (.tup [.int (i : Nat), x])) { s with heap := h'', toks := tk + 1 } :=
      I.turnedNew (ch := [e, it]) (fun b ob hb q => (sb.2 b (fun z => hb (by simp [z]))).trans (hk b ob (fun z => hb (by simp [z])) (fun z => hb (by simp [z])) q)) hf (Nat.le_refl _) nw
    refine ⟨.ref s.heap.objs.size, _, I1, rfl, ⟨_, x, rfl, I.hok.fresh (Nat.le_refl _), rfl, fun ys hy => by rw [I.tuple_inj hy hq]; exact hx⟩, ⟨⟨y, ?_⟩, hst.1.at fun o q => (sb.2 it (Ne.symm hne)).trans q, hne, hai, hea⟩, fun b hb => ?_⟩
    · rw [show ((i + 1 : Nat) : Int) = (i : Int) + 1 by omega]; exact he'
    · have hb' : b < s.heap.objs.size := by
        have q : b = e ∨ b = it := by simpa using hb
        rcases q with rfl | rfl
        · exact hel
        · exact hil
      rw [upd_ne (Nat.ne_of_lt hb')]
      exact (hf b hb).1
  done := by
    intro X hP hw hK hc i pins s σ H E I hf st hg
    subst hP hw hK
    obtain ⟨⟨old, he⟩, hit, hne, hai, hea⟩ := st
    obtain ⟨xs, hq, hx⟩ := hg
    obtain ⟨its, rv, p, _⟩ := I.tuple hq
    obtain ⟨f0, f1, f2, f3, f4, f5⟩ := hf it (by simp)
    have hl := rv.length
    have D : Draws X.prog X.w X.A.in1 it [it, a] i (fun _ _ => True) (fun j h => j = i ∧ h.IsTupleIter it a j ∧ h.IsTuple a its.toArray) := {
      live := fun _ _ st => let ⟨o, ho, _⟩ := st.2.1; ⟨o, ho⟩
      frame := fun _ _ _ st hk => ⟨st.1, st.2.1.at fun o e => hk it (by simp) o e, st.2.2.at fun o e => hk a (by simp) o e⟩
      item := fun j s Q E hj st hQ => absurd st.1 (Nat.ne_of_lt hj)
      done := fun s Q E st hE => wpAny_nextOf_tuple_end (show X.A.in1.handled = none from I.ok.hd hc) st.2.1 st.2.2 (by simp; omega) hE }
    exact wpAny_pyNext_enum_endD D he ⟨rfl, hit, p⟩ fun h' eb => ⟨rfl, I.turned (t' := s.toks) (fun b o hb q => eb b o hb q) f0 f1 f3 f4 f5⟩
  self := fun A i s Q E st h => let ⟨⟨_, he⟩, _⟩ := st; wpAny_pyIter_enum he h
def iEnuT (K : PySem.W.Frag) (ta : TA) : TI := fun σ H R => ta σ H fun vs H1 => ∃ a xs, vs = [.ref a] ∧ ((SqL K H1 a xs ∧ R (Ite K a) H1) ∨ (SqT K H1 a xs ∧ R (ItET K a) H1))
theorem pi_enuT {X : Cx} {e : Expr} {ta : TA} {p pos tpos : Pos} {elts : List Expr} {kk : Nat} (hg : Gl X "enumerate") (hm : X.mg "enumerate" = none) (ha : PA X [e] ta) (hs : starEach [e] X.env = [(false, eval e X.env)]) :
    PI X (.Tuple elts kk tpos) (.Call (.Name "enumerate" p) [e] [] pos) (iEnuT X.K ta) := by
  refine ⟨fun pins s σ H R I h => ?_⟩
  refine Call_ (ld_blt I hg hm boot_enumerate (PyProof.Rows.callWith_type1 (thn (ha.run pos pins s σ H _ I h) fun us s1 ⟨vs, H1, I1, r1, q1⟩ => ?_) hs rfl))
  obtain ⟨a, xs, ex, q1⟩ := q1
  subst ex
  cases r1 with
  | cons r rr =>
    cases rr
    cases r
    have fresh2 : ∀ b ∈ [s1.heap.objs.size + 1, s1.heap.objs.size], FpOk X pins H1 b := fun b hb => by
      have q : b = s1.heap.objs.size + 1 ∨ b = s1.heap.objs.size := by simpa using hb
      have hle : s1.heap.objs.size ≤ b := by
        rcases q with rfl | rfl
        · exact Nat.le_add_right _ _
        · exact Nat.le_refl _
      exact I1.fpOk hle (I1.hok.fresh hle)
    rcases q1 with ⟨hq, q⟩ | ⟨hq, q⟩
    · obtain ⟨its, rv, p', _⟩ := I1.list hq
      refine call_enumerate_list p'.isList fun h' he hit hsz hk => wpAny_pyIter_enum he ?_
      have I2 : Inv X pins σ H1 { s1 with heap := h' } := I1.kept (t' := s1.toks) hk
      exact ⟨s1.heap.objs.size + 1, [s1.heap.objs.size + 1, s1.heap.objs.size], _, _, H1, rfl, I2, turn_enum a (s1.heap.objs.size + 1) s1.heap.objs.size, ⟨⟨.none, he⟩, hit, Nat.succ_ne_self _⟩, fresh2, q⟩
    · obtain ⟨its, rv, p', _⟩ := I1.tuple hq
      obtain ⟨oa, hoa, _⟩ := id p'
      have hal : a < s1.heap.objs.size := Heap.lt_size hoa
      refine enu_call1 (begins_tuple a its.toArray) (show s1.heap.IsTuple a its.toArray from p') fun h' he hit hk => wpAny_pyIter_enum he ?_
      have I2 : Inv X pins σ H1 { s1 with heap := h' } := I1.kept (t' := s1.toks) hk
      exact ⟨s1.heap.objs.size + 1, [s1.heap.objs.size + 1, s1.heap.objs.size], _, _, H1, rfl, I2, turn_ET a (s1.heap.objs.size + 1) s1.heap.objs.size, ⟨⟨.none, he⟩, ⟨_, hit, rfl, rfl⟩, Nat.succ_ne_self _, Nat.ne_of_lt hal, Nat.ne_of_gt (Nat.lt_succ_of_lt hal)⟩, fresh2, q⟩
variable {K : PySem.W.Frag} {R R' R1 R2 : Addr → Prop} {H H' H1 H2 : Hp} {S S' S1 : Store} {φ : List Addr} {w : W} {v : V} {d : D}
variable {X : Cx} {G : Glob} {a b c : Expr} {ea eb ec : E} {pos : Pos} {es : List Expr} {ess : Es}
theorem src_enuL {p : Addr} {vs : List V} {ds : List D} (hn : ¬ R p) (h : H p = some (.lst vs)) (hd : DqA K R H vs ds) : SrcI K (Ite K p) (enuL ds) R H := fun R' H' st => by
  obtain ⟨q1, q2⟩ := st.own p vs h hn
  have hd' := hd.stay st
  have hl := hd.len
  rw [enu_len]
  refine ⟨fun i hi => ⟨vs, vs[i], SqL.of q1, List.getElem?_eq_getElem (by omega)⟩, fun i hi => ⟨vs, SqL.of q1, by omega⟩, fun i x H'' hi y => ?_⟩
  obtain ⟨T, u, rfl, hT, rfl, f⟩ := y
  have e := f vs (SqL.of q1)
  obtain ⟨z, e1, e2⟩ := hd'.get (List.getElem?_eq_getElem hi)
  rw [e] at e1; cases e1
  refine ⟨_, by rw [enu_get, List.getElem?_eq_getElem hi]; rfl, .inr ⟨T, _, _, rfl, rfl, hT, rfl, .cons (.int _) (.cons e2 .nil)⟩⟩
theorem src_enuT {p : Addr} {vs : List V} {ds : List D} (h : SqT K H p vs) (hd : DqA K R H vs ds) : SrcI K (ItET K p) (enuL ds) R H := fun R' H' st => by
  have q1 : SqT K H' p vs := SqT.stay h st
  have hd' := hd.stay st
  have hl := hd.len
  rw [enu_len]
  refine ⟨fun i hi => ⟨vs, vs[i], q1, List.getElem?_eq_getElem (by omega)⟩, fun i hi => ⟨vs, q1, by omega⟩, fun i x H'' hi y => ?_⟩
  obtain ⟨T, u, rfl, hT, rfl, f⟩ := y
  have e := f vs q1
  obtain ⟨z, e1, e2⟩ := hd'.get (List.getElem?_eq_getElem hi)
  rw [e] at e1; cases e1
  refine ⟨_, by rw [enu_get, List.getElem?_eq_getElem hi]; rfl, .inr ⟨T, _, _, rfl, rfl, hT, rfl, .cons (.int _) (.cons e2 .nil)⟩⟩
theorem src_zipT {p q : Addr} {vs us : List V} {ds es : List D} (h : SqT K H p vs) (hd : DqA K R H vs ds) (h2 : SqT K H q us) (hd2 : DqA K R H us es) : SrcI K (RZ.ItzT K p q) (zipL ds es) R H := fun R' H' st => by
  have q1 : SqT K H' p vs := SqT.stay h st
  have q2 : SqT K H' q us := SqT.stay h2 st
  have hd' := hd.stay st
  have hd2' := hd2.stay st
  have hl := hd.len
  have hl2 := hd2.len
  rw [zip_len]
  refine ⟨fun i hi => ⟨vs, us, vs[i], us[i], q1, q2, List.getElem?_eq_getElem (by omega), List.getElem?_eq_getElem (by omega)⟩, fun i hi => ⟨vs, us, q1, q2, by omega⟩, fun i x H'' hi y => ?_⟩
  obtain ⟨T, u, u', rfl, hT, rfl, f, f'⟩ := y
  have e := f vs q1
  have e' := f' us q2
  have g1 : ds[i]? = some ds[i] := List.getElem?_eq_getElem (by omega)
  have g2 : es[i]? = some es[i] := List.getElem?_eq_getElem (by omega)
  obtain ⟨z, e1, e2⟩ := hd'.get g1
  obtain ⟨z', e3, e4⟩ := hd2'.get g2
  rw [e] at e1; cases e1
  rw [e'] at e3; cases e3
  exact ⟨_, zip_get _ _ _ g1 g2, .inr ⟨T, _, _, rfl, rfl, hT, rfl, .cons e2 (.cons e4 .nil)⟩⟩
theorem i_enu {p tpos : Pos} {elts : List Expr} {kk : Nat} (hg : Gl X "enumerate") (hm : X.mg "enumerate" = none) (ha : PE X a (tE X.K G ea)) (hs : noSt a = true) : PI X (.Tuple elts kk tpos) (.Call (.Name "enumerate" p) [a] [] pos) (tIt X.K G (.enu ea)) :=
  (pi_enuT hg hm (pa_cons ha pa_nil (noSt_ev hs _ _)) (noSt_ev hs _ _)).imp fun σ H Q ⟨env, S, φ, R, src, S', rep, er, he, q⟩ => by
    simp only [evI, Option.bind_eq_bind, Option.bind_eq_some_iff] at he
    obtain ⟨⟨x, S1⟩, h1, s, h2, h3⟩ := he
    cases h3
    refine ⟨env, S, φ, R, x, _, rep, er, h1, fun v1 R1 H1 p1 => ?_⟩
    simp only [srcE] at h2
    split at h2
    · cases h2
      have hv : Dq X.K R1 H1 v1 _ := p1.val
      cases hv with
      | lst q1 q2 q3 => exact ⟨_, _, rfl, .inl ⟨SqL.of q2, q _ _ _ p1.ext p1.rep (src_enuL q1 q2 q3)⟩⟩
    · cases h2
      have hv : Dq X.K R1 H1 v1 _ := p1.val
      cases hv with
      | tup q2 q3 => exact ⟨_, _, rfl, .inr ⟨q2, q _ _ _ p1.ext p1.rep (src_enuT q2 q3)⟩⟩
    · cases h2
      obtain ⟨R2, q1, q2, q3, q4⟩ := p1.fz rep (d := .list _) rfl
      cases q3 with
      | lst z1 z2 z3 => exact ⟨_, _, rfl, .inl ⟨SqL.of z2, q _ _ _ q1 q2 (src_enuL z1 z2 z3)⟩⟩
    · rename_i n S2
      split at h2
      · rename_i ds hS
        cases h2
        obtain ⟨p, hp, rfl⟩ := p1.val.loc_at
        obtain ⟨vs, hv, _⟩ := p1.rep.obj _ _ p hS hp
        exact ⟨p, _, rfl, .inl ⟨SqL.of hv, q _ _ _ p1.ext p1.rep ⟨p, hp, rfl⟩⟩⟩
      · cases h2
    · cases h2
theorem i_zip {p tpos : Pos} {elts : List Expr} {kk : Nat} (hg : Gl X "zip") (hm : X.mg "zip" = none) (ha : PE X a (tE X.K G ea)) (hb : PE X b (tE X.K G eb)) (hs : noSt a = true) (hs2 : noSt b = true) : PI X (.Tuple elts kk tpos) (.Call (.Name "zip" p) [a, b] [] pos) (tIt X.K G (.zip ea eb)) :=
  (RZ.pi_zipA hg hm (pa_cons ha (pa_cons hb pa_nil (noSt_ev hs2 _ _)) (noSt_ev hs _ _)) (noSt_ev hs _ _) (noSt_pl (by simp [hs2]) _ _)).imp fun σ H Q ⟨env, S, φ, R, src, S', rep, er, he, q⟩ => by
    simp only [evI, Option.bind_eq_bind, Option.bind_eq_some_iff] at he
    obtain ⟨⟨x, S1⟩, h1, ⟨y, S2⟩, h2, h3⟩ := he
    refine ⟨env, S, φ, R, x, S1, rep, er, h1, fun v1 R1 H1 p1 => ⟨env, S1, φ, R1, y, S2, p1.rep, er.ext p1.ext rep, h2, fun v2 R2 H2 p2 => ?_⟩⟩
    simp only at h3
    split at h3
    · cases h3
      have hv : Dq X.K R2 H2 v1 _ := Dq.ext p1.val p2.ext p1.rep
      have hv2 : Dq X.K R2 H2 v2 _ := p2.val
      cases hv with
      | tup q2 q3 =>
        cases hv2 with
        | tup q4 q5 => exact ⟨_, _, _, _, rfl, .inr ⟨q2, q4, q _ _ _ (p1.ext.trans p2.ext rep.own) p2.rep (src_zipT q2 q3 q4 q5)⟩⟩
    · cases h3
theorem rng_len' (a b : Int) : (rngL a b).length = (b - a).toNat := by simp [rngL]
theorem L_eq' : L = 16777216 := rfl
theorem dqa_rg (lo hi : Int) : DqA K R H (rgV lo hi) (rngL lo hi) := by
  unfold rgV rngL
  induction (List.range (hi - lo).toNat) with
  | nil => exact .nil
  | cons x r ih => exact .cons (.int _) ih
theorem noSt_one (y : Expr) (h : noSt y = true) (env : PySem.Env) : starEach [y] env = (false, eval y env) :: starEach [] env := noSt_ev h _ _
theorem e_lrg1 {p p2 pos2 : Pos} (hc : X.calm = true) (hl : Gl X "list") (hl2 : X.mg "list" = none) (hg : Gl X "range") (hm : X.mg "range" = none) (ha : PE X a (tE X.K G ea)) (hs : noSt a = true) :
    PE X (.Call (.Name "list" p) [.Call (.Name "range" p2) [a] [] pos2] [] pos) (tE X.K G (.lrg ea)) :=
  (pe_listRg hc hl hl2 (prg_1 hg hm ha (noSt_ev hs _ _))).imp fun σ H Q ⟨env, S, φ, R, w, S', rep, er, he, q⟩ => by
    simp only [ev, Option.bind_eq_bind, Option.bind_eq_some_iff] at he
    obtain ⟨⟨x, S2⟩, h1, h2⟩ := he
    refine ⟨env, S, φ, R, x, S2, rep, er, h1, fun v1 R1 H1 p1 => ?_⟩
    simp only at h2
    split at h2
    · rename_i j
      split at h2
      · rename_i hj
        cases h2
        simp only [Bool.and_eq_true, decide_eq_true_eq] at hj
        obtain ⟨hj, hl⟩ := hj
        have hv : Dq X.K R1 H1 v1 (.int j) := p1.val
        cases hv
        obtain ⟨b1, b2⟩ := rng_bounds hj
        rw [rng_len', L_eq'] at hl
        exact ⟨j, rfl, ⟨by omega, by omega, b1, b2, by omega⟩, fun o ho => q _ _ _ ((Post.newLst p1.rep ho (dqa_rg 0 j)).trans p1.ext rep p1.rep)⟩
      · cases h2
    · cases h2
theorem e_lrg2 {p p2 pos2 : Pos} (hc : X.calm = true) (hl : Gl X "list") (hl2 : X.mg "list" = none) (hg : Gl X "range") (hm : X.mg "range" = none) (ha : PE X a (tE X.K G ea)) (hb : PE X b (tE X.K G eb)) (hs : noSt a = true) (hs2 : noSt b = true) :
    PE X (.Call (.Name "list" p) [.Call (.Name "range" p2) [a, b] [] pos2] [] pos) (tE X.K G (.lrg2 ea eb)) :=
  (pe_listRg hc hl hl2 (prg_2 hg hm ha hb (noSt_ev hs _ _) (noSt_ev hs2 _ _) (noSt_pl (by simp [hs2]) _ _))).imp fun σ H Q ⟨env, S, φ, R, w, S', rep, er, he, q⟩ => by
    simp only [ev, Option.bind_eq_bind, Option.bind_eq_some_iff] at he
    obtain ⟨⟨x, S2⟩, h1, ⟨y, S3⟩, h2, h2'⟩ := he
    refine ⟨env, S, φ, R, x, S2, rep, er, h1, fun v1 R1 H1 p1 => ⟨env, S2, φ, R1, y, S3, p1.rep, er.ext p1.ext rep, h2, fun v2 R2 H2 p2 => ?_⟩⟩
    simp only at h2'
    split at h2'
    · rename_i i j
      split at h2'
      · rename_i hij
        cases h2'
        simp only [Bool.and_eq_true, decide_eq_true_eq] at hij
        obtain ⟨⟨hi, hj⟩, hl⟩ := hij
        have hv : Dq X.K R1 H1 v1 _ := p1.val
        have hv2 : Dq X.K R2 H2 v2 _ := p2.val
        cases hv
        cases hv2
        obtain ⟨b1, b2⟩ := rng_bounds hi
        obtain ⟨b3, b4⟩ := rng_bounds hj
        rw [rng_len', L_eq'] at hl
        exact ⟨i, j, rfl, rfl, ⟨b1, b2, b3, b4, by omega⟩, fun o ho => q _ _ _ ((Post.newLst p2.rep ho (dqa_rg i j)).trans (p1.ext.trans p2.ext rep.own) rep p2.rep)⟩
      · cases h2'
    · cases h2'
theorem e_trg1 {p p2 pos2 : Pos} (hc : X.calm = true) (hl : Gl X "tuple") (hl2 : X.mg "tuple" = none) (hg : Gl X "range") (hm : X.mg "range" = none) (ha : PE X a (tE X.K G ea)) (hs : noSt a = true) :
    PE X (.Call (.Name "tuple" p) [.Call (.Name "range" p2) [a] [] pos2] [] pos) (tE X.K G (.trg ea)) :=
  (pe_tupRg hc hl hl2 (prg_1 hg hm ha (noSt_ev hs _ _))).imp fun σ H Q ⟨env, S, φ, R, w, S', rep, er, he, q⟩ => by
    simp only [ev, Option.bind_eq_bind, Option.bind_eq_some_iff] at he
    obtain ⟨⟨x, S2⟩, h1, h2⟩ := he
    refine ⟨env, S, φ, R, x, S2, rep, er, h1, fun v1 R1 H1 p1 => ?_⟩
    simp only at h2
    split at h2
    · rename_i j
      split at h2
      · rename_i hj
        cases h2
        simp only [Bool.and_eq_true, decide_eq_true_eq] at hj
        obtain ⟨hj, hl⟩ := hj
        have hv : Dq X.K R1 H1 v1 (.int j) := p1.val
        cases hv
        obtain ⟨b1, b2⟩ := rng_bounds hj
        rw [rng_len', L_eq'] at hl
        exact ⟨j, rfl, ⟨by omega, by omega, b1, b2, by omega⟩, fun o ho => q _ _ _ ((Post.newTup p1.rep ho (dqa_rg 0 j)).trans p1.ext rep p1.rep)⟩
      · cases h2
    · cases h2
theorem src_rng3 (lo hi c : Int) : SrcI K (Itc lo c (rng3n lo hi c).toNat) (rng3L lo hi c) R H := fun R' H' st => by
  have hl : (rng3L lo hi c).length = (rng3n lo hi c).toNat := by simp [rng3L]
  refine ⟨fun i hi => by rw [hl] at hi; exact hi, fun i hi => by rw [hl] at hi; exact hi, fun i x H'' hi y => ?_⟩
  obtain ⟨rfl, rfl⟩ := y
  rw [hl] at hi
  refine ⟨.int (lo + (i : Nat) * c), ?_, .inl ⟨rfl, .int _⟩⟩
  simp only [rng3L, List.getElem?_map, List.getElem?_range hi, Option.map_some]
theorem rng3_ok {i j c : Int} (h1 : smallQ i = true) (h2 : smallQ j = true) (h3 : c ≠ 0) (h4 : c.natAbs < 1024) : RgC i j c (rng3n i j c).toNat := by
  simp only [smallQ, Bool.and_eq_true, decide_eq_true_eq] at h1 h2
  have hn : Builtin.Range.rangeSize i j c = rng3n i j c := rfl
  have h0 : 0 ≤ rng3n i j c ∧ rng3n i j c ≤ 2000001 := by
    unfold rng3n
    split
    · split
      · have a := Int.ediv_nonneg (a := j - i - 1) (b := c) (by omega) (by omega)
        have b := Int.ediv_le_self (a := j - i - 1) c (by omega)
        omega
      · omega
    · split
      · have a := Int.ediv_nonneg (a := i - j - 1) (b := -c) (by omega) (by omega)
        have b := Int.ediv_le_self (a := i - j - 1) (-c) (by omega)
        omega
      · omega
  refine ⟨h3, by omega, ?_, by rw [hn]; omega⟩
  unfold Builtin.Range.small
  rw [hn]
  generalize rng3n i j c = n at h0
  simp only [Builtin.Range.rangeFitsLong, Bool.and_eq_true, Bool.or_eq_true, decide_eq_true_eq, beq_iff_eq]
  refine ⟨⟨⟨⟨by omega, by omega⟩, by omega⟩, by omega⟩, .inr ?_⟩
  split <;> simp only [Bool.and_eq_true, decide_eq_true_eq] <;> omega
theorem i_rng3 {tg : Expr} {p : Pos} (hg : Gl X "range") (hm : X.mg "range" = none) (ha : PE X a (tE X.K G ea)) (hb : PE X b (tE X.K G eb)) (hc : PE X c (tE X.K G ec)) (hs : noSt a = true) (hs2 : noSt b = true) (hs3 : noSt c = true) : PI X tg (.Call (.Name "range" p) [a, b, c] [] pos) (tIt X.K G (.rng3 ea eb ec)) :=
  (pi_range3 hg hm (pa_cons ha (pa_cons hb (pa_cons hc pa_nil (noSt_ev hs3 _ _)) (noSt_ev hs2 _ _)) (noSt_ev hs _ _)) (noSt_ev hs _ _) (noSt_pl (by simp [hs2, hs3]) _ _)).imp fun σ H Q ⟨env, S, φ, R, src, S', rep, er, he, q⟩ => by
    simp only [evI, Option.bind_eq_bind, Option.bind_eq_some_iff] at he
    obtain ⟨⟨x, S1⟩, h1, ⟨y, S2⟩, h2, ⟨z, S3⟩, h3, h4⟩ := he
    refine ⟨env, S, φ, R, x, S1, rep, er, h1, fun v1 R1 H1 p1 => ⟨env, S1, φ, R1, y, S2, p1.rep, er.ext p1.ext rep, h2, fun v2 R2 H2 p2 => ?_⟩⟩
    have e12 := p1.ext.trans p2.ext rep.own
    refine ⟨env, S2, φ, R2, z, S3, p2.rep, er.ext e12 rep, h3, fun v3 R3 H3 p3 => ?_⟩
    simp only at h4
    split at h4
    · rename_i i j k
      split at h4
      · rename_i hi
        cases h4
        simp only [Bool.and_eq_true, decide_eq_true_eq] at hi
        obtain ⟨⟨⟨b1, b2⟩, b3⟩, b4⟩ := hi
        have hv : Dq X.K R1 H1 v1 _ := p1.val
        have hv2 : Dq X.K R2 H2 v2 _ := p2.val
        have hv3 : Dq X.K R3 H3 v3 _ := p3.val
        cases hv
        cases hv2
        cases hv3
        exact ⟨i, j, k, _, rfl, rng3_ok b1 b2 b3 b4, q _ _ _ (e12.trans p3.ext rep.own) p3.rep (src_rng3 _ _ _)⟩
      · cases h4
    · cases h4
end VI
set_option Elab.async false
set_option linter.all false
set_option maxRecDepth 100000
set_option maxHeartbeats 400000
namespace VI
open PySem PySem.Spec PyProof.Rows L2
variable {K : PySem.W.Frag} {R R' R1 R2 : Addr → Prop} {H H' H1 H2 : Hp} {S S' S1 : Store} {φ : List Addr} {w : W} {v : V} {d : D}
variable {X : Cx} {G : Glob} {a b c : Expr} {ea eb ec : E} {pos : Pos} {es : List Expr} {ess : Es}
/-! ### targets -/
def wipeSame (sl : List Nat) (σ σ' : Sl) : Prop := ∀ vs : List Nat, (∀ i ∈ sl, i ∈ vs) → wipe σ' vs = wipe σ vs
def tG (K : PySem.W.Frag) (t : T) : TG := fun v σ H Q => ∃ R S φ env d env1, Rep K R H S φ ∧ EnvR K R H φ σ env ∧ Dq K R H v d ∧ bindT t d env = some env1 ∧ ∀ σ', EnvR K R H φ σ' env1 → wipeSame (slotsT t) σ σ' → Q σ' H
def tGs (K : PySem.W.Frag) (t : Ts) : TGs := fun vs σ H Q => ∃ R S φ env ds env1, Rep K R H S φ ∧ EnvR K R H φ σ env ∧ DqA K R H vs ds ∧ bindTs t ds env = some env1 ∧ ∀ σ', EnvR K R H φ σ' env1 → wipeSame (slotsT.slotsTs t) σ σ' → Q σ' H
theorem _root_.L2.PGs.imp {e : List Expr} {t t' : TGs} (h : PGs X e t) (i : ∀ v σ H Q, t' v σ H Q → t v σ H Q) : PGs X e t' := ⟨fun pins s σ H v u Q I r q => h.run pins s σ H v u Q I r (i _ _ _ _ q)⟩
theorem EnvR.set {σ : Sl} {env : Env} (h : EnvR K R H φ σ env) {i : Nat} {v : V} {w : W} (hw : WR K R H φ w v) (hn : ∀ o, w ≠ .nw o) : EnvR K R H φ (σ.set i (some v)) (env.set i (some w)) := by
  refine ⟨by rw [List.length_set, List.length_set]; exact h.len, fun j u hu => ?_⟩
  by_cases hj : i = j
  · subst hj
    by_cases hl : i < env.length
    · rw [List.getElem?_set_self hl] at hu
      cases hu
      exact ⟨hn, v, by rw [List.getElem?_set_self (by rw [← h.len]; exact hl)], hw⟩
    · rw [List.getElem?_eq_none (by rw [List.length_set]; omega)] at hu; cases hu
  · rw [List.getElem?_set_ne hj] at hu ⊢
    exact h.val j u hu
theorem wipe_get (σ : Sl) : ∀ (vs : List Nat) (j : Nat), (wipe σ vs)[j]? = if j ∈ vs ∧ j < σ.length then some none else σ[j]?
  | [], j => by simp [wipe]
  | x :: vs, j => by
    unfold wipe
    by_cases hj : x = j
    · subst hj
      by_cases hl : x < σ.length
      · rw [List.getElem?_set_self (by rw [wipe_length]; exact hl), if_pos ⟨List.mem_cons_self, hl⟩]
      · rw [if_neg (fun z => hl z.2), List.getElem?_eq_none (by rw [List.length_set, wipe_length]; omega), List.getElem?_eq_none (by omega)]
    · rw [List.getElem?_set_ne hj, wipe_get σ vs j]
      by_cases hm : j ∈ vs
      · simp [hm]
      · simp [hm, Ne.symm hj]
theorem wipeSame.refl (sl : List Nat) (σ : Sl) : wipeSame sl σ σ := fun _ _ => rfl
theorem wipeSame.trans {s1 s2 : List Nat} {σ1 σ2 σ3 : Sl} (h1 : wipeSame s1 σ1 σ2) (h2 : wipeSame s2 σ2 σ3) : wipeSame (s1 ++ s2) σ1 σ3 := fun vs h =>
  (h2 vs fun i hi => h i (List.mem_append_right _ hi)).trans (h1 vs fun i hi => h i (List.mem_append_left _ hi))
theorem wipe_set (σ : Sl) (i : Nat) (o : Option V) (vs : List Nat) (h : i ∈ vs) : wipe (σ.set i o) vs = wipe σ vs := by
  apply List.ext_getElem?
  intro j
  rw [wipe_get, wipe_get, List.length_set]
  by_cases hj : j ∈ vs ∧ j < σ.length
  · rw [if_pos hj, if_pos hj]
  · rw [if_neg hj, if_neg hj]
    by_cases hi : i = j
    · subst hi
      have : ¬ i < σ.length := fun z => hj ⟨h, z⟩
      rw [List.getElem?_eq_none (by rw [List.length_set]; omega), List.getElem?_eq_none (by omega)]
    · rw [List.getElem?_set_ne hi]
theorem g_name {i : Nat} {x : Str} (hN : X.N.Nodup) (hi : X.N[i]? = some x) (hx : Loc X.env.scope x) (hf : X.fn x = true ∨ X.env.scope.names.lookup x = some .local) : PG X (.Name x pos) (tG X.K (.nm i)) :=
  (pg_name hN hi hx hf).imp fun v σ H Q ⟨R, S, φ, env, d, env1, rep, er, hv, hb, q⟩ => by
    simp only [bindT, Option.some.injEq] at hb
    subst hb
    exact q _ (er.set hv (fun o e => nomatch e)) fun vs h => wipe_set _ _ _ _ (h i (by simp [slotsT]))
theorem g_nil : PGs X [] (tGs X.K .nil) := pgs_nil.imp fun v σ H Q ⟨R, S, φ, env, d, env1, rep, er, hv, hb, q⟩ => by
  cases d with
  | nil =>
    simp only [bindTs, Option.some.injEq] at hb
    subst hb
    cases hv
    exact ⟨rfl, q _ er (.refl _ _)⟩
  | cons _ _ => simp [bindTs] at hb
theorem g_cons {t : T} {ts : Ts} (h1 : PG X a (tG X.K t)) (h2 : PGs X es (tGs X.K ts)) (hs : (assignEach (a :: es) X.env).map (·.2) = assign a X.env :: (assignEach es X.env).map (·.2)) : PGs X (a :: es) (tGs X.K (.cons t ts)) :=
  (pgs_cons h1 h2 hs).imp fun v σ H Q ⟨R, S, φ, env, ds, env1, rep, er, hv, hb, q⟩ => by
    cases ds with
    | nil => simp [bindTs] at hb
    | cons d ds =>
      cases hv with
      | cons hd ht =>
      simp only [bindTs, Option.bind_eq_bind, Option.bind_eq_some_iff] at hb
      obtain ⟨env2, b1, b2⟩ := hb
      exact ⟨_, _, rfl, R, S, φ, env, d, env2, rep, er, hd, b1, fun σ1 er1 w1 => ⟨R, S, φ, env2, ds, env1, rep, er1, ht, b2, fun σ2 er2 w2 => q _ er2 (w1.trans w2)⟩⟩
def lenT : Ts → Nat
  | .nil => 0
  | .cons _ ts => lenT ts + 1
theorem bindTs_len : ∀ {ts : Ts} {ds : List D} {env env1 : Env}, bindTs ts ds env = some env1 → ds.length = lenT ts
  | .nil, [], _, _, _ => rfl
  | .cons t ts, d :: ds, env, env1, h => by
    simp only [bindTs, Option.bind_eq_bind, Option.bind_eq_some_iff] at h
    obtain ⟨_, _, h2⟩ := h
    simp [lenT, bindTs_len h2]
  | .nil, _ :: _, _, _, h => by simp [bindTs] at h
  | .cons _ _, [], _, _, h => by simp [bindTs] at h
theorem g_tup {k : Nat} {ts : Ts} (hc : X.calm = true) (h : PGs X es (tGs X.K ts)) (hn : (assignEach es X.env).length = lenT ts) (hst : (assignEach es X.env).findIdx? (·.1) = none) : PG X (.Tuple es k pos) (tG X.K (.tp ts)) :=
  (pg_tup hc h hn hst).imp fun v σ H Q ⟨R, S, φ, env, d, env1, rep, er, hv, hb, q⟩ => by
    simp only [bindT] at hb
    split at hb
    · cases hv with
      | tup h1 h2 => exact ⟨_, _, rfl, h1, by rw [h2.len]; exact bindTs_len hb, R, S, φ, env, _, env1, rep, er, h2, hb, fun σ' e' w => q σ' e' w⟩
    · cases hb
theorem noSt_as {e : Expr} (h : noSt e = true) (es : List Expr) (env : PySem.Env) : assignEach (e :: es) env = (false, assign e env) :: assignEach es env := by
  cases e <;> first | rfl | cases h
theorem as_len : ∀ (es : List Expr) (env : PySem.Env), (assignEach es env).length = es.length
  | [], _ => rfl
  | e :: es, env => by
    cases e <;> simp [assignEach, as_len es env]
theorem as_none : ∀ (es : List Expr) (env : PySem.Env), es.all noSt = true → (assignEach es env).findIdx? (·.1) = none
  | [], _, _ => rfl
  | e :: es, env, h => by
    rw [List.all_cons, Bool.and_eq_true] at h
    rw [noSt_as h.1, List.findIdx?_cons]
    simp [as_none es env h.2]
/-! ### a turn of what is walked -/
def TurnOk (K : PySem.W.Frag) (J : It) (i : Nat) (R : Addr → Prop) (H : Hp) (φ : List Addr) (S : Store) : Option D → Prop
  | none => J.stop i H
  | some d => J.go i H ∧ ∀ x H', J.yld i H x H' → Ext φ R H R H' ∧ Rep K R H' S φ ∧ Dq K R H' x d ∧ ∀ b u, H b = some u → H' b = some u
theorem src_turn {J : It} {src : Src} {i : Nat} {o : Option D} {R0 : Addr → Prop} {H0 : Hp} {φ0 : List Addr} (hs : SrcR K J src φ0 R0 H0) (st : Stay R0 H0 R H) (hφ : ∀ n, src = .live n ∨ src = .liveE n → φ[n]? = φ0[n]?) (rep : Rep K R H S φ) (h : src.at S i = some o) : TurnOk K J i R H φ S o := by
  cases src with
  | items ds =>
    simp only [Src.at, Option.some.injEq] at h
    subst h
    obtain ⟨h1, h2, h3⟩ := hs R H st
    cases e : ds[i]? with
    | none => exact h2 i (by rw [List.getElem?_eq_none_iff] at e; exact e)
    | some d =>
      obtain ⟨hi, e'⟩ := List.getElem?_eq_some_iff.mp e
      refine ⟨h1 i hi, fun x H' y => ?_⟩
      obtain ⟨d', q1, q2⟩ := h3 i x H' hi y
      rw [e] at q1; cases q1
      rcases q2 with ⟨rfl, q⟩ | ⟨p, vs, es, rfl, rfl, hp, rfl, q⟩
      · exact ⟨.refl, rep, q, fun _ _ z => z⟩
      · have P := Post.newTup rep hp q
        exact ⟨P.ext, P.rep, P.val, fun b u z => by rw [upd_ne (ne_of_none z hp)]; exact z⟩
  | live n =>
    obtain ⟨p, hp, rfl⟩ := hs
    rw [← hφ n (.inl rfl)] at hp
    simp only [Src.at] at h
    cases hS : S[n]? with
    | none => rw [hS] at h; cases h
    | some ob =>
      rw [hS] at h
      cases ob with
      | no => cases h
      | pl ds =>
        simp only [Option.some.injEq] at h
        subst h
        obtain ⟨vs, hv, hd⟩ := rep.obj n _ p hS hp
        have hl := hd.len
        cases e : ds[i]? with
        | none => exact ⟨vs, SqL.of hv, by rw [List.getElem?_eq_none_iff] at e; omega⟩
        | some d =>
          obtain ⟨z, z1, z2⟩ := hd.get e
          refine ⟨⟨vs, z, SqL.of hv, z1⟩, fun x H' y => ?_⟩
          obtain ⟨rfl, f⟩ := y
          have := f vs (SqL.of hv)
          rw [z1] at this; cases this
          exact ⟨.refl, rep, z2, fun _ _ q => q⟩
  | liveE n =>
    obtain ⟨p, hp, rfl⟩ := hs
    rw [← hφ n (.inr rfl)] at hp
    simp only [Src.at] at h
    cases hS : S[n]? with
    | none => rw [hS] at h; cases h
    | some ob =>
      rw [hS] at h
      cases ob with
      | no => cases h
      | pl ds =>
        simp only [Option.some.injEq] at h
        subst h
        obtain ⟨vs, hv, hd⟩ := rep.obj n _ p hS hp
        have hl := hd.len
        cases e : ds[i]? with
        | none => exact ⟨vs, SqL.of hv, by rw [List.getElem?_eq_none_iff] at e; omega⟩
        | some d =>
          obtain ⟨z, z1, z2⟩ := hd.get e
          refine ⟨⟨vs, z, SqL.of hv, z1⟩, fun x H' y => ?_⟩
          obtain ⟨T, u, rfl, hT, rfl, f⟩ := y
          have := f vs (SqL.of hv)
          rw [z1] at this; cases this
          have P := Post.newTup rep hT (.cons (.int (i : Nat)) (.cons z2 .nil))
          exact ⟨P.ext, P.rep, P.val, fun b u z => by rw [upd_ne (ne_of_none z hT)]; exact z⟩
/-! ### comprehensions -/
theorem EnvR.wipe {σ : Sl} {env : Env} (h : EnvR K R H φ σ env) (vs : List Nat) : EnvR K R H φ (L2.wipe σ vs) (wipeE env vs) := by
  have hl : ∀ vs : List Nat, (wipeE env vs).length = env.length := fun vs => by
    induction vs with
    | nil => rfl
    | cons x vs ih => simp [wipeE, ih]
  refine ⟨by rw [hl, wipe_length]; exact h.len, fun j u hu => ?_⟩
  have key : env[j]? = some (some u) ∧ j ∉ vs := by
    clear h
    induction vs with
    | nil => exact ⟨hu, by simp⟩
    | cons x vs ih =>
      simp only [wipeE] at hu
      by_cases hj : x = j
      · subst hj
        by_cases hx : x < (wipeE env vs).length
        · rw [List.getElem?_set_self hx] at hu; cases hu
        · rw [List.getElem?_eq_none (by rw [List.length_set]; omega)] at hu; cases hu
      · rw [List.getElem?_set_ne hj] at hu
        obtain ⟨q1, q2⟩ := ih hu
        exact ⟨q1, by simp [q2, Ne.symm hj]⟩
  obtain ⟨q1, v, q2, q3⟩ := h.val j u key.1
  exact ⟨q1, v, by rw [wipe_get, if_neg (fun z => key.2 z.1)]; exact q2, q3⟩
def tCo (K : PySem.W.Frag) (G : Glob) (c : Oc) : TT := fun σ H Q => ∃ env S φ R b S', Rep K R H S φ ∧ EnvR K R H φ σ env ∧ evC G c env S = some (b, S') ∧ ∀ R' H', Ext φ R H R' H' → Rep K R' H' S' φ → Q b H'
theorem _root_.L2.PTs.imp {e : List Expr} {t t' : TT} (h : PTs X e t) (i : ∀ σ H Q, t' σ H Q → t σ H Q) : PTs X e t' := ⟨fun pins s σ H Q I q => h.run pins s σ H Q I (i _ _ _ q)⟩
theorem co_no : PTs X [] (tCo X.K G .no) := pts_nil.imp fun σ H Q ⟨env, S, φ, R, b, S', rep, er, he, q⟩ => by
  simp only [evC, Option.some.injEq] at he
  cases he
  exact q R H .refl rep
theorem co_so {ca : C} (h : PT X a (tC X.K G ca)) : PTs X [a] (tCo X.K G (.so ca)) := (pts_one h).imp fun σ H Q ⟨env, S, φ, R, b, S', rep, er, he, q⟩ =>
  ⟨env, S, φ, R, b, S', rep, er, by simpa only [evC] using he, q⟩
/-- the state within a comprehension: its list grows at p -/
structure LcI (K : PySem.W.Frag) (φ : List Addr) (R0 : Addr → Prop) (H0 : Hp) (p : Addr) (R : Addr → Prop) (H : Hp) (S : Store) (acc : List D) : Prop where
  ext : Ext φ R0 H0 R H
  rep : Rep K R H S φ
  own : R p
  lst : ∃ vs, H p = some (.lst vs) ∧ DqA K R H vs acc
theorem LcI.step {R0 : Addr → Prop} {H0 : Hp} {p : Addr} {acc : List D} (r0 : Rep K R0 H0 S φ) (h : LcI K φ R0 H0 p R H S1 acc) (hp : p ∉ φ) (e : Ext φ R H R' H') (r : Rep K R' H' S' φ) : LcI K φ R0 H0 p R' H' S' acc :=
  ⟨h.ext.trans e r0.own, r, e.up p h.own, let ⟨vs, q1, q2⟩ := h.lst; ⟨vs, e.fr p _ q1 hp, q2.ext e h.rep⟩⟩
theorem LcI.add {R0 : Addr → Prop} {H0 : Hp} {p : Addr} {acc : List D} {vs : List V} (h : LcI K φ R0 H0 p R H S acc) (hp : p ∉ φ) (h0 : H0 p = none) (hv : Dq K R H v d) (hl : H p = some (.lst vs)) : LcI K φ R0 H0 p R (upd H p (.lst (vs ++ [v]))) S (acc ++ [d]) := by
  obtain ⟨us, q1, q2⟩ := h.lst
  rw [hl] at q1; cases q1
  have st : Stay R H R (upd H p (.lst (vs ++ [v]))) := ⟨fun b ws e hn => ⟨by rw [upd_ne (fun z => hn (by rw [z]; exact h.own))]; exact e, hn⟩,
    fun b ws e => by rw [upd_ne (fun z => by rw [z, hl] at e; cases e)]; exact e, fun b o u e => ⟨by rw [upd_ne (fun z => by rw [z, hl] at e; cases e)]; exact e, id⟩⟩
  refine ⟨⟨fun b o e hb => ?_, h.ext.up, h.ext.dn⟩, ⟨h.rep.len, h.rep.nd, h.rep.own, trk_upd h.rep.trk, fun n o b e1 e2 => ?_⟩, h.own, vs ++ [v], upd_same, (q2.append (.cons hv .nil)).stay st⟩
  · have hbp : b ≠ p := fun z => by rw [z, h0] at e; cases e
    rw [upd_ne hbp]
    exact h.ext.fr b o e hb
  · have hb : b ≠ p := fun z => hp (by rw [← z]; exact List.mem_of_getElem? e2)
    have ho := h.rep.obj n o b e1 e2
    cases o with
    | no => obtain ⟨ws, q⟩ := ho; exact ⟨ws, by rw [upd_ne hb]; exact q⟩
    | pl ds => obtain ⟨ws, q, q2⟩ := ho; exact ⟨ws, by rw [upd_ne hb]; exact q, q2.stay st⟩
theorem lc_imp {own : List Nat} {ee : E} {t : T} {it : I} {cd : Oc} (hsl : ∀ i ∈ slotsT t, i ∈ own) : ∀ σ H Q, tE K G (.lc ee t it cd own) σ H Q → tLc (tIt K G it) (tG K t) (tCo K G cd) (tE K G ee) own σ H Q :=
  fun σ H Q ⟨env, S, φ, R, w, S', rep, er, hev, q⟩ => by
    simp only [ev, Option.bind_eq_bind, Option.bind_eq_some_iff] at hev
    obtain ⟨⟨src, S1⟩, h1, ⟨accF, S2⟩, h2, h3⟩ := hev
    cases h3
    refine ⟨env, S, φ, R, src, S1, rep, er, h1, fun J R1 H1 e1 r1 hsrc p hp => ?_⟩
    have hpφ : p ∉ φ := r1.out hp
    generalize hfu : src.len S1 + 1 = fuel at h2
    refine ⟨fun i m H => ∃ R S acc, LcI K φ R1 H1 p R H S acc ∧ compGo src _ m i acc S = some (accF, _), ⟨fuel, fun b => R1 b ∨ b = p, S1, [], ⟨ext_own r1 hp, r1.updOwn hp, .inr rfl, [], upd_same, .nil⟩, h2⟩, fun i m H ⟨R, S3, acc, hI, hgo⟩ => ?_⟩
    cases m with
    | zero => simp [compGo] at hgo
    | succ m =>
      simp only [compGo, Option.bind_eq_bind, Option.bind_eq_some_iff] at hgo
      obtain ⟨o, g1, g2⟩ := hgo
      have turn := src_turn hsrc (hI.ext.stay r1) (fun _ _ => rfl) hI.rep g1
      cases o with
      | none =>
        cases g2
        obtain ⟨vs, l1, l2⟩ := hI.lst
        refine .inl ⟨turn, q _ _ _ ⟨e1.trans hI.ext rep.own, hI.rep, ⟨p, rfl, hI.own, hpφ, vs, l1, l2⟩, fun o e a ea => ?_⟩⟩
        cases ea
        exact e1.none rep r1 hp
      | some d =>
        simp only [Option.bind_eq_some_iff] at g2
        obtain ⟨⟨r, S4⟩, g3, g4⟩ := g2
        obtain ⟨env1, b1, ⟨tb, S5⟩, b2, b3⟩ := g3
        refine .inr ⟨turn.1, fun H' => ∃ R S acc, LcI K φ R1 H1 p R H' S acc ∧ compGo src _ m (i + 1) acc S = some (accF, _), fun H' ⟨R', S', acc', z1, z2⟩ => ⟨m, Nat.lt_succ_self m, R', S', acc', z1, z2⟩, fun x H' y => ?_⟩
        obtain ⟨t1, t2, t3, t4⟩ := turn.2 x H' y
        have hI' := hI.step r1 hpφ t1 t2
        have er' : EnvR K R H' φ (wipe σ own) (wipeE env own) := ((er.ext (e1.trans hI'.ext rep.own) rep)).wipe _
        refine ⟨R, S3, φ, _, d, env1, t2, er', t3, b1, fun σ2 er2 w2 => ⟨?_, env1, S3, φ, R, tb, S5, t2, er2, b2, fun R3 H3 e3 r3 => ?_⟩⟩
        · rw [w2 _ hsl]
          apply List.ext_getElem?
          intro j
          rw [wipe_get, wipe_get, wipe_length]
          by_cases hj : j ∈ own ∧ j < σ.length
          · rw [if_pos hj, if_pos hj]
          · rw [if_neg hj, if_neg hj]
        · have hI3 := hI'.step r1 hpφ e3 r3
          cases tb with
          | false =>
            simp only [Bool.false_eq_true, if_false] at b3 ⊢
            cases b3
            exact ⟨R3, _, acc, hI3, g4⟩
          | true =>
            simp only [if_true, Option.bind_eq_some_iff] at b3 ⊢
            obtain ⟨⟨w, S6⟩, b4, x', b5, b6⟩ := b3
            cases b6
            refine ⟨env1, S5, φ, R3, w, S6, r3, er2.ext e3 t2, b4, fun v4 R4 H4 p4 => ?_⟩
            obtain ⟨R5, f1, f2, f3, f4⟩ := p4.fz r3 b5
            have hI5 := hI3.step r1 hpφ f1 f2
            obtain ⟨vs, l1, l2⟩ := hI5.lst
            simp only at g4
            split at g4
            · rename_i hlen
              exact ⟨vs, l1, by rw [l2.len, sizeLine_eq]; exact hlen, R5, _, _, hI5.add hpφ hp f3 l1, g4⟩
            · cases g4
theorem e_lc {elt tg iter : Expr} {ifs : List Expr} {scope : Scope} {own : List (Str × Nat)} {ee : E} {t : T} {it : I} {cd : Oc} (hc : X.calm = true) (hN : X.N.Nodup) (hi : PI X tg iter (tIt X.K G it)) (ok : BlkOk X.N X.env.scope scope own)
    (hg : ∀ (s : Shared) (H : Hp) (C : Addr) (cl : List (Str × Addr)) (fp : List Addr), PG (X.blk s H scope (compEnvC scope cl C X.env) fp) tg (tG X.K t)) (ht : ∀ (s : Shared) (H : Hp) (C : Addr) (cl : List (Str × Addr)) (fp : List Addr), PTs (X.blk s H scope (compEnvC scope cl C X.env) fp) ifs (tCo X.K G cd))
    (he : ∀ (s : Shared) (H : Hp) (C : Addr) (cl : List (Str × Addr)) (fp : List Addr), PE (X.blk s H scope (compEnvC scope cl C X.env) fp) elt (tE X.K G ee)) (hs : ∀ x, foldedSetIterable iter X.env x = pure x)
    (hsl : ∀ i ∈ slotsT t, i ∈ own.map (·.2)) : PE X (.ListComp elt [⟨tg, iter, ifs, 0⟩] scope pos) (tE X.K G (.lc ee t it cd (own.map (·.2)))) :=
  (pe_lc hc hN hi ok hg ht he hs).imp (lc_imp hsl)
/-! ### two clauses -/
theorem EnvR.stay {σ : Sl} {env : Env} (h : EnvR K R H φ σ env) (st : Stay R H R' H') : EnvR K R' H' φ σ env :=
  ⟨h.len, fun i w hw => by
    obtain ⟨q1, v, q2, q3⟩ := h.val i w hw
    refine ⟨q1, v, q2, ?_⟩
    cases w with
    | p d => exact Dq.stay st q3
    | loc n => exact q3
    | nw o => exact absurd rfl (q1 o)⟩
theorem lst_stay {p : Addr} {us vs : List V} (hR : R p) (hl : H p = some (.lst us)) : Stay R H R (upd H p (.lst vs)) :=
  ⟨fun b ws e hn => ⟨by rw [upd_ne (fun z => hn (by rw [z]; exact hR))]; exact e, hn⟩,
    fun b ws e => by rw [upd_ne (fun z => by rw [z, hl] at e; cases e)]; exact e, fun b o u e => ⟨by rw [upd_ne (fun z => by rw [z, hl] at e; cases e)]; exact e, id⟩⟩
theorem wipe_wipe_of {σ σ' : Sl} {t : T} {own : List Nat} (hsl : ∀ i ∈ slotsT t, i ∈ own) (w2 : wipeSame (slotsT t) (wipe σ own) σ') : wipe σ' own = wipe σ own := by
  rw [w2 _ hsl]
  apply List.ext_getElem?
  intro j
  rw [wipe_get, wipe_get, wipe_length]
  by_cases hj : j ∈ own ∧ j < σ.length
  · rw [if_pos hj, if_pos hj]
  · rw [if_neg hj, if_neg hj]
theorem lc2_imp {own own1 : List Nat} {ee : E} {t t1 : T} {it it1 : I} {cd cd1 : Oc} (hsl : ∀ i ∈ slotsT t, i ∈ own) (hsl1 : ∀ i ∈ slotsT t1, i ∈ own1) : ∀ σ H Q, tE K G (.lc2 ee t it cd t1 it1 cd1 own own1) σ H Q →
    tLc2 (tIt K G it) (tG K t) (tCo K G cd) (tIt K G it1) (tG K t1) (tCo K G cd1) (tE K G ee) own own1 σ H Q :=
  fun σ H Q ⟨env, S, φ, R, w, S', rep, er, hev, q⟩ => by
    simp only [ev, Option.bind_eq_bind, Option.bind_eq_some_iff] at hev
    obtain ⟨⟨src, S1⟩, h1, ⟨accF, S2⟩, h2, h3⟩ := hev
    cases h3
    refine ⟨env, S, φ, R, src, S1, rep, er, h1, fun J R1 H1 e1 r1 hsrc p hp => ?_⟩
    have hpφ : p ∉ φ := r1.out hp
    generalize hfu : src.len S1 + 1 = fuel at h2
    refine ⟨fun i m H => ∃ R S acc, LcI K φ R1 H1 p R H S acc ∧ compGo2 src _ m i acc S = some (accF, _), ⟨fuel, fun b => R1 b ∨ b = p, S1, [], ⟨ext_own r1 hp, r1.updOwn hp, .inr rfl, [], upd_same, .nil⟩, h2⟩, fun i m H ⟨R, S3, acc, hI, hgo⟩ => ?_⟩
    cases m with
    | zero => simp [compGo2] at hgo
    | succ m =>
      rw [compGo2] at hgo
      simp only [Option.bind_eq_bind, Option.bind_eq_some_iff] at hgo
      obtain ⟨o, g1, g2⟩ := hgo
      have turn := src_turn hsrc (hI.ext.stay r1) (fun _ _ => rfl) hI.rep g1
      cases o with
      | none =>
        cases g2
        obtain ⟨vs, l1, l2⟩ := hI.lst
        refine .inl ⟨turn, q _ _ _ ⟨e1.trans hI.ext rep.own, hI.rep, ⟨p, rfl, hI.own, hpφ, vs, l1, l2⟩, fun o e a ea => ?_⟩⟩
        cases ea
        exact e1.none rep r1 hp
      | some d =>
        simp only [Option.bind_eq_some_iff] at g2
        obtain ⟨⟨acc1, S4⟩, g3, g4⟩ := g2
        obtain ⟨env1, b1, ⟨tb, S5⟩, b2, b3⟩ := g3
        refine .inr ⟨turn.1, fun H' => ∃ R S acc, LcI K φ R1 H1 p R H' S acc ∧ compGo2 src _ m (i + 1) acc S = some (accF, _), fun H' ⟨R', S', acc', z1, z2⟩ => ⟨m, Nat.lt_succ_self m, R', S', acc', z1, z2⟩, fun x H' y => ?_⟩
        obtain ⟨t1', t2, t3, t4⟩ := turn.2 x H' y
        have hI' := hI.step r1 hpφ t1' t2
        have er' : EnvR K R H' φ (wipe σ own) (wipeE env own) := ((er.ext (e1.trans hI'.ext rep.own) rep)).wipe _
        refine ⟨R, S3, φ, _, d, env1, t2, er', t3, b1, fun σ2 er2 w2 => ⟨wipe_wipe_of hsl w2, env1, S3, φ, R, tb, S5, t2, er2, b2, fun R3 H3 e3 r3 => ?_⟩⟩
        have hI3 := hI'.step r1 hpφ e3 r3
        cases tb with
        | false =>
          simp only [Bool.false_eq_true, if_false] at b3 ⊢
          cases b3
          exact ⟨R3, _, _, hI3, g4⟩
        | true =>
          simp only [if_true, Option.bind_eq_some_iff] at b3 ⊢
          obtain ⟨⟨src1, S6⟩, b4, b5⟩ := b3
          refine ⟨env1, S5, φ, R3, src1, S6, r3, er2.ext e3 t2, b4, fun J1 R4 H4 e4 r4 hsrc1 => ?_⟩
          have hI4 := hI3.step r1 hpφ e4 r4
          have er4 := er2.ext (e3.trans e4 t2.own) t2
          generalize hfu1 : src1.len S6 + 1 = fuel1 at b5
          refine ⟨fun j k H => ∃ R S acc', LcI K φ R1 H1 p R H S acc' ∧ Stay R4 H4 R H ∧ compGo2 src1 _ k j acc' S = some (acc1, _), ⟨fuel1, R4, S6, acc, hI4, .refl', b5⟩, fun j k H ⟨R5, S7, acc', hI5, st5, hgo1⟩ => ?_⟩
          cases k with
          | zero => simp [compGo2] at hgo1
          | succ k =>
            rw [compGo2] at hgo1
            simp only [Option.bind_eq_bind, Option.bind_eq_some_iff] at hgo1
            obtain ⟨o1, k1, k2⟩ := hgo1
            have turn1 := src_turn hsrc1 st5 (fun _ _ => rfl) hI5.rep k1
            cases o1 with
            | none =>
              cases k2
              exact .inl ⟨turn1, R5, _, _, hI5, g4⟩
            | some d1 =>
              simp only [Option.bind_eq_some_iff] at k2
              obtain ⟨⟨acc2, S8⟩, k3, k4⟩ := k2
              obtain ⟨env2, c1, ⟨tb1, S9⟩, c2, c3⟩ := k3
              refine .inr ⟨turn1.1, fun H' => ∃ R S acc', LcI K φ R1 H1 p R H' S acc' ∧ Stay R4 H4 R H' ∧ compGo2 src1 _ k (j + 1) acc' S = some (acc1, _), fun H' ⟨R', S', acc', z1, z2, z3⟩ => ⟨k, Nat.lt_succ_self k, R', S', acc', z1, z2, z3⟩, fun x1 H6 y1 => ?_⟩
              obtain ⟨u1, u2, u3, u4⟩ := turn1.2 x1 H6 y1
              have hI6 := hI5.step r1 hpφ u1 u2
              have st6 := st5.trans' (u1.stay hI5.rep)
              have er6 : EnvR K R5 H6 φ (wipe σ2 own1) (wipeE env1 own1) := (er4.stay st6).wipe _
              refine ⟨R5, S7, φ, _, d1, env2, u2, er6, u3, c1, fun σ3 er7 w3 => ⟨wipe_wipe_of hsl1 w3, env2, S7, φ, R5, tb1, S9, u2, er7, c2, fun R7 H7 e7 r7 => ?_⟩⟩
              have hI7 := hI6.step r1 hpφ e7 r7
              have st7 := st6.trans' (e7.stay u2)
              cases tb1 with
              | false =>
                simp only [Bool.false_eq_true, if_false] at c3 ⊢
                cases c3
                exact ⟨R7, _, _, hI7, st7, k4⟩
              | true =>
                simp only [if_true, Option.bind_eq_some_iff] at c3 ⊢
                obtain ⟨⟨w, S10⟩, c4, x', c5, c6⟩ := c3
                split at c6
                · rename_i hlen
                  cases c6
                  refine ⟨env2, S9, φ, R7, w, _, r7, er7.ext e7 u2, c4, fun v8 R8 H8 p8 => ?_⟩
                  obtain ⟨R9, f1, f2, f3, f4⟩ := p8.fz r7 c5
                  have hI9 := hI7.step r1 hpφ f1 f2
                  have st9 := st7.trans' (f1.stay r7)
                  obtain ⟨vs, l1, l2⟩ := hI9.lst
                  exact ⟨vs, l1, by rw [l2.len, sizeLine_eq]; exact hlen, R9, _, _, hI9.add hpφ hp f3 l1, st9.trans' (lst_stay hI9.own l1), k4⟩
                · cases c6
theorem e_lc2 {elt tg iter tg1 iter1 : Expr} {ifs ifs1 : List Expr} {scope : Scope} {own : List (Str × Nat)} {own1 is : List Nat} {ee : E} {t t1 : T} {it it1 : I} {cd cd1 : Oc} (hi' : own.map (·.2) = is) (hc : X.calm = true) (hN : X.N.Nodup) (hi : PI X tg iter (tIt X.K G it)) (ok : BlkOk X.N X.env.scope scope own) (hv : ∀ i ∈ own1, i ∈ is)
    (hg : ∀ (s : Shared) (H : Hp) (C : Addr) (cl : List (Str × Addr)) (fp : List Addr), PG (X.blk s H scope (compEnvC scope cl C X.env) fp) tg (tG X.K t)) (ht : ∀ (s : Shared) (H : Hp) (C : Addr) (cl : List (Str × Addr)) (fp : List Addr), PTs (X.blk s H scope (compEnvC scope cl C X.env) fp) ifs (tCo X.K G cd))
    (hi1 : ∀ (s : Shared) (H : Hp) (C : Addr) (cl : List (Str × Addr)) (fp : List Addr), PI (X.blk s H scope (compEnvC scope cl C X.env) fp) tg1 iter1 (tIt X.K G it1))
    (hg1 : ∀ (s : Shared) (H : Hp) (C : Addr) (cl : List (Str × Addr)) (fp : List Addr), PG (X.blk s H scope (compEnvC scope cl C X.env) fp) tg1 (tG X.K t1)) (ht1 : ∀ (s : Shared) (H : Hp) (C : Addr) (cl : List (Str × Addr)) (fp : List Addr), PTs (X.blk s H scope (compEnvC scope cl C X.env) fp) ifs1 (tCo X.K G cd1))
    (he : ∀ (s : Shared) (H : Hp) (C : Addr) (cl : List (Str × Addr)) (fp : List Addr), PE (X.blk s H scope (compEnvC scope cl C X.env) fp) elt (tE X.K G ee)) (hs : ∀ x, foldedSetIterable iter X.env x = pure x) (hs1 : ∀ env x, foldedSetIterable iter1 env x = pure x)
    (hsl : ∀ i ∈ slotsT t, i ∈ is) (hsl1 : ∀ i ∈ slotsT t1, i ∈ own1) : PE X (.ListComp elt [⟨tg, iter, ifs, 0⟩, ⟨tg1, iter1, ifs1, 0⟩] scope pos) (tE X.K G (.lc2 ee t it cd t1 it1 cd1 is own1)) := by
  subst hi'
  exact (pe_lc2 hc hN hi ok hv hg ht hi1 hg1 ht1 he hs hs1).imp (lc2_imp hsl hsl1)
end VI
set_option Elab.async false
set_option linter.all false
set_option maxRecDepth 100000
set_option maxHeartbeats 400000
namespace VI
open PySem PySem.Spec PyProof.Rows L2
structure Step (keep : List Nat) (φ : List Addr) (R : Addr → Prop) (H : Hp) (φ' : List Addr) (R' : Addr → Prop) (H' : Hp) : Prop where
  fr : ∀ b o, H b = some o → b ∉ φ → H' b = some o
  up : ∀ b, R b → R' b
  dn : ∀ b, R' b → R b ∨ H b = none
  ph : ∀ b ∈ φ', b ∈ φ ∨ H b = none
  kp : ∀ n ∈ keep, n < φ.length → φ'[n]? = φ[n]?
  tr : ∀ b, (∃ o, H b = some o) → ∃ o, H' b = some o
variable {K : PySem.W.Frag} {R R' R1 R2 : Addr → Prop} {H H' H1 H2 : Hp} {S S' S1 : Store} {φ φ' φ1 φ2 : List Addr} {w : W} {v : V} {d : D} {keep : List Nat}
variable {X : Cx} {G : Glob} {a b c : Expr} {ea eb ec : E} {pos : Pos} {es : List Expr} {ess : Es}
theorem Step.refl : Step keep φ R H φ R H := ⟨fun _ _ h _ => h, fun _ h => h, fun _ h => .inl h, fun _ h => .inl h, fun _ _ _ => rfl, fun _ h => h⟩
theorem Ext.step (e : Ext φ R H R' H') (r' : Rep K R' H' S' φ) : Step keep φ R H φ R' H' := ⟨e.fr, e.up, e.dn, fun _ h => .inl h, fun _ _ _ => rfl, fun b ⟨o, h⟩ => by
  by_cases hb : b ∈ φ
  · obtain ⟨vs, q⟩ := r'.lst hb; exact ⟨_, q⟩
  · exact ⟨o, e.fr b o h hb⟩⟩
theorem Step.trans (s1 : Step keep φ R H φ1 R1 H1) (s2 : Step keep φ1 R1 H1 φ2 R2 H2) (l : ∀ b ∈ φ, R b) : Step keep φ R H φ2 R2 H2 := by
  refine ⟨fun b o h hn => s2.fr b o (s1.fr b o h hn) fun z => ?_, fun b h => s2.up b (s1.up b h), fun b h => ?_, fun b h => ?_, fun n hn hl => ?_, fun b h => s2.tr b (s1.tr b h)⟩
  · rcases s1.ph b z with q | q
    · exact hn q
    · rw [h] at q; cases q
  · rcases s2.dn b h with q | q
    · exact s1.dn b q
    · cases z : H b with
      | none => exact .inr rfl
      | some o =>
        obtain ⟨o', q'⟩ := s1.tr b ⟨o, z⟩
        rw [q] at q'; cases q'
  · rcases s2.ph b h with q | q
    · exact s1.ph b q
    · cases z : H b with
      | none => exact .inr rfl
      | some o =>
        obtain ⟨o', q'⟩ := s1.tr b ⟨o, z⟩
        rw [q] at q'; cases q'
  · have e := s1.kp n hn hl
    have hl1 : n < φ1.length := by
      have : φ1[n]? = some φ[n] := by rw [e]; exact List.getElem?_eq_getElem hl
      exact (List.getElem?_eq_some_iff.mp this).1
    rw [s2.kp n hn hl1, e]
theorem Step.none (s : Step keep φ R H φ1 R1 H1) {a : Addr} (h : H1 a = none) : H a = none := by
  cases z : H a with
  | none => rfl
  | some o =>
    obtain ⟨o', q⟩ := s.tr a ⟨o, z⟩
    rw [h] at q; cases q
theorem Step.stay (e : Step keep φ R H φ1 R' H') (r : Rep K R H S φ) : Stay R H R' H' where
  own := fun b vs h hn => ⟨e.fr b _ h (fun z => hn (r.own b z)), fun z => (e.dn b z).elim hn fun q => by rw [h] at q; cases q⟩
  tup := fun b vs h => e.fr b _ h fun z => by obtain ⟨ws, q⟩ := r.lst z; rw [h] at q; cases q
  frz := fun b o u h => ⟨e.fr b _ h (fun z => by obtain ⟨ws, q⟩ := r.lst z; rw [h] at q; cases q), fun hn z => (e.dn b z).elim hn fun q => by rw [h] at q; cases q⟩
theorem Step.less {k2 : List Nat} (s : Step keep φ R H φ1 R1 H1) (h : ∀ n ∈ k2, n ∈ keep) : Step k2 φ R H φ1 R1 H1 := ⟨s.fr, s.up, s.dn, s.ph, fun n hn hl => s.kp n (h n hn) hl, s.tr⟩
/-- a statement's end -/
def Fin (K : PySem.W.Frag) (keep : List Nat) (φ : List Addr) (R : Addr → Prop) (H : Hp) (D : Ends) : Out → Prop
  | .nx env' S' => ∀ σ' φ' R' H', Step keep φ R H φ' R' H' → Rep K R' H' S' φ' → EnvR K R' H' φ' σ' env' → D.nx σ' H'
  | .brk env' S' => ∀ σ' φ' R' H', Step keep φ R H φ' R' H' → Rep K R' H' S' φ' → EnvR K R' H' φ' σ' env' → D.bk σ' H'
  | .cnt env' S' => ∀ σ' φ' R' H', Step keep φ R H φ' R' H' → Rep K R' H' S' φ' → EnvR K R' H' φ' σ' env' → D.ct σ' H'
  | .ret w S' => ∀ v φ' R' H', Step keep φ R H φ' R' H' → Rep K R' H' S' φ' → WR K R' H' φ' w v → (∀ o, w = .nw o → ∀ a, v = .ref a → H a = none) → D.rt v H'
theorem Fin.step {D : Ends} {o : Out} (r : Rep K R H S φ) (s : Step keep φ R H φ1 R1 H1) (f : Fin K keep φ R H D o) : Fin K keep φ1 R1 H1 D o := by
  cases o with
  | nx env' S' => exact fun σ' φ' R' H' s2 r2 e2 => f σ' φ' R' H' (s.trans s2 r.own) r2 e2
  | brk env' S' => exact fun σ' φ' R' H' s2 r2 e2 => f σ' φ' R' H' (s.trans s2 r.own) r2 e2
  | cnt env' S' => exact fun σ' φ' R' H' s2 r2 e2 => f σ' φ' R' H' (s.trans s2 r.own) r2 e2
  | ret w S' => exact fun v φ' R' H' s2 r2 e2 fr => f v φ' R' H' (s.trans s2 r.own) r2 e2 fun o eo a ea => s.none (fr o eo a ea)
def tS (K : PySem.W.Frag) (G : Glob) (keep : List Nat) (s : VI.S) : TS := fun D σ H => ∃ env S φ R o, Rep K R H S φ ∧ EnvR K R H φ σ env ∧ ex G s keep env S = some o ∧ Fin K keep φ R H D o
def tSs (K : PySem.W.Frag) (G : Glob) (keep : List Nat) (s : VI.Ss) : TS := fun D σ H => ∃ env S φ R o, Rep K R H S φ ∧ EnvR K R H φ σ env ∧ exs G s keep env S = some o ∧ Fin K keep φ R H D o
variable {st : Stmt} {sts : List Stmt} {s : VI.S} {ss : VI.Ss}
theorem s_nil : PSs X [] (tSs X.K G keep .nil) := pss_nil.imp fun D σ H ⟨env, S, φ, R, o, rep, er, he, f⟩ => by
  simp only [exs, Option.some.injEq] at he
  subst he
  exact f σ φ R H .refl rep er
theorem s_cons (h1 : PS X st (tS X.K G keep s)) (h2 : PSs X sts (tSs X.K G keep ss)) : PSs X (st :: sts) (tSs X.K G keep (.cons s ss)) :=
  (pss_cons h1 h2).imp fun D σ H ⟨env, S, φ, R, o, rep, er, he, f⟩ => by
    simp only [exs, Option.bind_eq_bind, Option.bind_eq_some_iff] at he
    obtain ⟨o1, h1, h2⟩ := he
    refine ⟨env, S, φ, R, o1, rep, er, h1, ?_⟩
    cases o1 with
    | nx env1 S1 => exact fun σ' φ' R' H' s' r' e' => ⟨env1, S1, φ', R', o, r', e', h2, f.step rep s'⟩
    | brk env1 S1 => cases h2; exact f
    | cnt env1 S1 => cases h2; exact f
    | ret w S1 => cases h2; exact f
/-- a step that no statement makes: what is not needed any more is forgotten -/
theorem sweepGo_get (k : Nat → Bool) : ∀ (S : Store) (n m : Nat), (sweepGo k n S)[m]? = (S[m]?).map fun o => if k (n + m) then o else .no
  | [], n, m => by simp [sweepGo]
  | o :: r, n, 0 => by simp [sweepGo]
  | o :: r, n, m + 1 => by
    simp only [sweepGo, List.getElem?_cons_succ]
    rw [sweepGo_get k r (n + 1) m, show n + 1 + m = n + (m + 1) by omega]
theorem lastK_lt (k : Nat → Bool) : ∀ (n m : Nat), m < n → k m = true → m < lastK k n
  | n + 1, m, h, hk => by
    unfold lastK
    split
    · omega
    · rename_i q
      by_cases e : m = n
      · subst e; exact absurd hk q
      · exact lastK_lt k n m (by omega) hk
theorem lastK_le (k : Nat → Bool) : ∀ n, lastK k n ≤ n
  | 0 => Nat.le_refl _
  | n + 1 => by
    unfold lastK
    split
    · exact Nat.le_refl _
    · exact Nat.le_succ_of_le (lastK_le k n)
theorem uses_of {env : Env} {i n : Nat} (h : env[i]? = some (some (.loc n))) : uses env n = true :=
  List.any_eq_true.mpr ⟨_, List.mem_of_getElem? h, by simp [isLoc]⟩
theorem EnvR.forget {σ : Sl} {env : Env} (h : EnvR K R H φ σ env) (is : List Nat) : EnvR K R H φ σ (wipeE env is) := by
  have hl : ∀ vs : List Nat, (wipeE env vs).length = env.length := fun vs => by
    induction vs with
    | nil => rfl
    | cons x vs ih => simp [wipeE, ih]
  refine ⟨by rw [hl]; exact h.len, fun j u hu => ?_⟩
  have key : env[j]? = some (some u) := by
    clear h
    induction is with
    | nil => exact hu
    | cons x vs ih =>
      simp only [wipeE] at hu
      by_cases hj : x = j
      · subst hj
        by_cases hx : x < (wipeE env vs).length
        · rw [List.getElem?_set_self hx] at hu; cases hu
        · rw [List.getElem?_eq_none (by rw [List.length_set]; omega)] at hu; cases hu
      · rw [List.getElem?_set_ne hj] at hu
        exact ih hu
  exact h.val j u key
theorem s_kill {is : List Nat} (h2 : PSs X sts (tSs X.K G keep ss)) : PSs X sts (tSs X.K G keep (.cons (.kill is) ss)) :=
  h2.imp fun D σ H ⟨env, S, φ, R, o, rep, er, he, f⟩ => by
    simp only [exs, ex, Option.bind_eq_bind, Option.bind_some] at he
    generalize hk : kept keep (wipeE env is) = k at he
    have hm : lastK k S.length ≤ S.length := lastK_le k S.length
    have lS : (sweep keep (wipeE env is) S).length = lastK k S.length := by
      unfold sweep
      rw [hk]
      have : ∀ (T : Store) n, (sweepGo k n T).length = T.length := fun T => by
        induction T with
        | nil => intro n; rfl
        | cons o r ih => intro n; simp [sweepGo, ih]
      rw [this, List.length_take]; omega
    have st : Step keep φ R H (φ.take (lastK k S.length)) R H := ⟨fun _ _ h _ => h, fun _ h => h, fun _ h => .inl h, fun b hb => .inl (List.mem_of_mem_take hb), fun n hn hl => by
      have : k n = true := by rw [← hk]; simp [kept, hn]
      have := lastK_lt k S.length n (by rw [← rep.len]; exact hl) this
      rw [List.getElem?_take_of_lt this], fun _ h => h⟩
    have er' := er.forget is
    refine ⟨wipeE env is, sweep keep (wipeE env is) S, φ.take (lastK k S.length), R, o, ⟨?_, rep.nd.sublist (List.take_sublist _ _), fun b hb => rep.own b (List.mem_of_mem_take hb), rep.trk, fun n ob p e1 e2 => ?_⟩, ⟨er'.len, fun i w hw => ?_⟩, he, f.step rep st⟩
    · rw [lS, List.length_take, rep.len]; omega
    · have hn : n < lastK k S.length := by rw [← lS]; exact (List.getElem?_eq_some_iff.mp e1).1
      rw [List.getElem?_take_of_lt hn] at e2
      unfold sweep at e1
      rw [hk, sweepGo_get, List.getElem?_take_of_lt hn] at e1
      rw [Option.map_eq_some_iff] at e1
      obtain ⟨o', q1, q2⟩ := e1
      have ho := rep.obj n o' p q1 e2
      split at q2
      · subst q2; exact ho
      · subst q2; exact ho.lst
    · obtain ⟨q1, v, q2, q3⟩ := er'.val i w hw
      refine ⟨q1, v, q2, ?_⟩
      cases w with
      | p d => exact q3
      | nw o => exact absurd rfl (q1 o)
      | loc n =>
        obtain ⟨p, hp, rfl⟩ := q3
        have : k n = true := by rw [← hk]; unfold kept; rw [uses_of hw, Bool.or_true]
        have hl : n < S.length := by rw [← rep.len]; exact (List.getElem?_eq_some_iff.mp hp).1
        have := lastK_lt k S.length n hl this
        exact ⟨p, by rw [List.getElem?_take_of_lt this]; exact hp, rfl⟩
/-! ### assignments -/
/-- a value comes to a slot -/
theorem setW_ok {σ : Sl} {env : Env} {i : Nat} (rep : Rep K R H S φ) (er : EnvR K R H φ σ env) (hw : WR K R H φ w v) (hf : ∀ o, w = .nw o → ∀ a, v = .ref a → H1 a = none) (s1 : Step keep φ R1 H1 φ R H) :
    ∃ φ', Step keep φ R1 H1 φ' R H ∧ Rep K R H (setW keep i w env S).2 φ' ∧ EnvR K R H φ' (σ.set i (some v)) (setW keep i w env S).1 := by
  cases w with
  | p d => exact ⟨φ, s1, rep, er.set hw (fun o e => nomatch e)⟩
  | loc n => exact ⟨φ, s1, rep, er.set hw (fun o e => nomatch e)⟩
  | nw o =>
    obtain ⟨p, rfl, h1, h2, h3⟩ := hw
    have hp := hf o rfl p rfl
    -- put behind all others
    have app : spot keep env i S = S.length → ∃ φ', Step keep φ R1 H1 φ' R H ∧ Rep K R H (setW keep i (.nw o) env S).2 φ' ∧ EnvR K R H φ' (σ.set i (some (.ref p))) (setW keep i (.nw o) env S).1 := fun hs => by
      have hput : put S S.length o = S ++ [o] := by unfold put; rw [if_neg (Nat.lt_irrefl _)]
      have old : ∀ (n : Nat) (x : Addr), φ[n]? = some x → (φ ++ [p])[n]? = some x := fun n x e => by
        rw [List.getElem?_append_left (List.getElem?_eq_some_iff.mp e).1]; exact e
      refine ⟨φ ++ [p], ⟨s1.fr, s1.up, s1.dn, fun b hb => ?_, fun n hn hl => ?_, s1.tr⟩, ?_, ?_⟩
      · rcases List.mem_append.mp hb with q | q
        · exact s1.ph b q
        · rw [List.mem_singleton] at q; subst q; exact .inr hp
      · rw [List.getElem?_append_left hl]
      · show Rep K R H (put S (spot keep env i S) o) (φ ++ [p])
        rw [hs, hput]
        refine ⟨by simp [rep.len], ?_, fun b hb => ?_, rep.trk, fun n o' x e1 e2 => ?_⟩
        · rw [List.nodup_append]
          exact ⟨rep.nd, by simp, fun a ha b hb e => by rw [List.mem_singleton] at hb; subst hb; subst e; exact h2 ha⟩
        · rcases List.mem_append.mp hb with q | q
          · exact rep.own b q
          · rw [List.mem_singleton] at q; subst q; exact h1
        · by_cases hn : n < S.length
          · rw [List.getElem?_append_left hn] at e1
            rw [List.getElem?_append_left (by rw [rep.len]; exact hn)] at e2
            exact rep.obj n o' x e1 e2
          · have hn' : n = S.length := by
              have := (List.getElem?_eq_some_iff.mp e1).1
              simp at this; omega
            subst hn'
            rw [List.getElem?_append_right (Nat.le_refl _)] at e1
            rw [List.getElem?_append_right (Nat.le_of_eq rep.len)] at e2
            simp at e1
            simp [rep.len] at e2
            subst e1; subst e2
            exact h3
      · show EnvR K R H (φ ++ [p]) (σ.set i (some (.ref p))) (env.set i (some (.loc (spot keep env i S))))
        rw [hs]
        have er2 : EnvR K R H (φ ++ [p]) σ env := ⟨er.len, fun j u hu => by
          obtain ⟨q1, v, q2, q3⟩ := er.val j u hu
          refine ⟨q1, v, q2, ?_⟩
          cases u with
          | p d => exact q3
          | nw o => exact absurd rfl (q1 o)
          | loc n => obtain ⟨x, e, rfl⟩ := q3; exact ⟨x, old n x e, rfl⟩⟩
        exact er2.set ⟨p, by rw [← rep.len, List.getElem?_append_right (Nat.le_refl _)]; simp, rfl⟩ (fun o e => nomatch e)
    -- in the place of the last one
    unfold setW at *
    simp only at *
    cases hc : env[i]? with
    | none => exact app (by simp [spot, hc])
    | some u =>
      cases u with
      | none => exact app (by simp [spot, hc])
      | some u =>
        cases u with
        | p d => exact app (by simp [spot, hc])
        | nw o => exact app (by simp [spot, hc])
        | loc n =>
          by_cases hk : (keep.contains n || uses (env.set i none) n || decide (S.length ≤ n)) = true
          · exact app (by simp only [spot, hc]; rw [if_pos hk])
          · have hs : spot keep env i S = n := by simp only [spot, hc]; rw [if_neg hk]
            simp only [Bool.or_eq_true, not_or, decide_eq_true_eq, Nat.not_le] at hk
            obtain ⟨⟨k1, k2⟩, k3⟩ := hk
            have hl : n < φ.length := by rw [rep.len]; exact k3
            rw [hs]
            refine ⟨φ.set n p, ⟨s1.fr, s1.up, s1.dn, fun b hb => ?_, fun m hm hl' => ?_, s1.tr⟩, ?_, ?_⟩
            · rcases List.mem_or_eq_of_mem_set hb with q | q
              · exact s1.ph b q
              · subst q; exact .inr hp
            · rw [List.getElem?_set_ne (fun z => k1 (by rw [z]; simpa using hm))]
            · have hput : put S n o = S.set n o := by unfold put; rw [if_pos k3]
              rw [hput]
              refine ⟨by simp [rep.len], ?_, fun b hb => ?_, rep.trk, fun m o' x e1 e2 => ?_⟩
              · rw [List.nodup_iff_pairwise_ne, List.pairwise_iff_getElem]
                intro i1 j1 hi hj hij e
                have hi' : i1 < φ.length := by simpa using hi
                have hj' : j1 < φ.length := by simpa using hj
                rw [List.getElem_set, List.getElem_set] at e
                split at e
                · split at e
                  · omega
                  · exact h2 (e ▸ List.getElem_mem hj')
                · split at e
                  · exact h2 (e ▸ List.getElem_mem hi')
                  · exact absurd ((List.getElem_inj rep.nd).mp e) (by omega)
              · rcases List.mem_or_eq_of_mem_set hb with q | q
                · exact rep.own b q
                · subst q; exact h1
              · by_cases hm : m = n
                · subst hm
                  rw [List.getElem?_set_self k3] at e1
                  rw [List.getElem?_set_self hl] at e2
                  cases e1; cases e2
                  exact h3
                · rw [List.getElem?_set_ne (Ne.symm hm)] at e1 e2
                  exact rep.obj m o' x e1 e2
            · refine ⟨by rw [List.length_set, List.length_set]; exact er.len, fun j u hu => ?_⟩
              by_cases hj : i = j
              · subst hj
                have hi : i < env.length := (List.getElem?_eq_some_iff.mp hc).1
                rw [List.getElem?_set_self hi] at hu
                cases hu
                exact ⟨(fun o e => nomatch e), .ref p, by rw [List.getElem?_set_self (by rw [← er.len]; exact hi)], p, List.getElem?_set_self hl, rfl⟩
              · rw [List.getElem?_set_ne hj] at hu ⊢
                obtain ⟨q1, v, q2, q3⟩ := er.val j u hu
                refine ⟨q1, v, q2, ?_⟩
                cases u with
                | p d => exact q3
                | nw o => exact absurd rfl (q1 o)
                | loc m =>
                  obtain ⟨x, e, rfl⟩ := q3
                  have hmn : n ≠ m := fun z => by
                    subst z
                    exact k2 (uses_of (i := j) (by rw [List.getElem?_set_ne hj]; exact hu))
                  exact ⟨x, by rw [List.getElem?_set_ne hmn]; exact e, rfl⟩
/-- name = a term -/
theorem asg_imp {i : Nat} {t : TE} (ht : ∀ σ H Q, tE X.K G ea σ H Q → t σ H Q) : ∀ D σ H, tS X.K G keep (.asg (.nm i) ea) D σ H → tAsg t (gName i) D σ H := fun D σ H ⟨env, S, φ, R, o, rep, er, he, f⟩ => by
  simp only [ex, Option.bind_eq_bind, Option.bind_eq_some_iff] at he
  obtain ⟨⟨w, S1⟩, h1, h2⟩ := he
  cases h2
  refine ht _ _ _ ⟨env, S, φ, R, w, S1, rep, er, h1, fun v R' H' p => ?_⟩
  obtain ⟨φ', s', r', e'⟩ := setW_ok (i := i) (keep := keep) p.rep (er.ext p.ext rep) p.val p.fresh (p.ext.step p.rep)
  exact f _ _ _ _ s' r' e'
theorem s_set {i : Nat} {x : Str} {pos' : Pos} (hN : X.N.Nodup) (hi : X.N[i]? = some x) (hx : Loc X.env.scope x) (he : PE X a (tE X.K G ea)) (hs : swapsWith a (some (.Name x pos')) pos.line X.env = pure false) (hf : X.fn x = true ∨ X.env.scope.names.lookup x = some .local) :
    PS X (.Assign [.Name x pos'] a pos) (tS X.K G keep (.asg (.nm i) ea)) := (ps_set hN hi hx he hs hf).imp (asg_imp fun _ _ _ h => h)
theorem s_asg {ts : Ts} {tg : Expr} (he : PE X a (tE X.K G ea)) (hg : PG X tg (tG X.K (.tp ts))) (hs : swapsWithSole [tg] a pos.line X.env = pure false) (hw : swappedStores [tg] a X.env = pure none) (h1 : (assignEach [tg] X.env).map (·.2) = [assign tg X.env]) :
    PS X (.Assign [tg] a pos) (tS X.K G keep (.asg (.tp ts) ea)) := (ps_asg he hg hs hw h1).imp fun D σ H ⟨env, S, φ, R, o, rep, er, he, f⟩ => by
  simp only [ex, Option.bind_eq_bind, Option.bind_eq_some_iff] at he
  obtain ⟨⟨w, S1⟩, h1, d, h2, env1, h3, h4⟩ := he
  cases h4
  refine ⟨env, S, φ, R, w, _, rep, er, h1, fun v R' H' p => ?_⟩
  obtain ⟨R2, q1, q2, q3, q4⟩ := p.fz rep h2
  exact ⟨R2, _, φ, env, d, env1, q2, er.ext q1 rep, q3, h3, fun σ' e' _ => f _ _ _ _ (q1.step q2) q2 e'⟩
end VI
set_option Elab.async false
set_option linter.all false
set_option maxRecDepth 100000
set_option maxHeartbeats 400000
namespace VI
open PySem PySem.Spec PyProof.Rows L2
variable {K : PySem.W.Frag} {R R' R1 R2 : Addr → Prop} {H H' H1 H2 : Hp} {S S' S1 : Store} {φ φ' φ1 φ2 : List Addr} {w : W} {v : V} {d : D} {keep : List Nat}
variable {X : Cx} {G : Glob} {a b c : Expr} {ea eb ec : E} {pos : Pos} {es : List Expr} {ess : Es} {st : Stmt} {sts : List Stmt} {s : VI.S} {ss sa sb : VI.Ss}
theorem s_ret (he : PE X a (tE X.K G ea)) : PS X (.Return (some a) pos) (tS X.K G keep (.ret ea)) := (ps_ret he).imp fun D σ H ⟨env, S, φ, R, o, rep, er, he, f⟩ => by
  simp only [ex, Option.bind_eq_bind, Option.bind_eq_some_iff] at he
  obtain ⟨⟨w, S1⟩, h1, h2⟩ := he
  cases h2
  exact ⟨env, S, φ, R, w, _, rep, er, h1, fun v R' H' p => f v φ R' H' (p.ext.step p.rep) p.rep p.val p.fresh⟩
theorem s_retn : PS X (.Return none pos) (tS X.K G keep .retn) := ps_retN.imp fun D σ H ⟨env, S, φ, R, o, rep, er, he, f⟩ => by
  simp only [ex, Option.some.injEq] at he
  subst he
  exact f _ _ _ _ .refl rep .non (fun o e => nomatch e)
theorem s_brk : PS X (.Break pos) (tS X.K G keep .brk) := ps_break.imp fun D σ H ⟨env, S, φ, R, o, rep, er, he, f⟩ => by
  simp only [ex, Option.some.injEq] at he
  subst he
  exact f _ _ _ _ .refl rep er
theorem s_cnt : PS X (.Continue pos) (tS X.K G keep .cnt) := ps_continue.imp fun D σ H ⟨env, S, φ, R, o, rep, er, he, f⟩ => by
  simp only [ex, Option.some.injEq] at he
  subst he
  exact f _ _ _ _ .refl rep er
theorem s_pass : PS X (.Pass pos) (tS X.K G keep .pass) := ps_pass.imp fun D σ H ⟨env, S, φ, R, o, rep, er, he, f⟩ => by
  simp only [ex, Option.some.injEq] at he
  subst he
  exact f _ _ _ _ .refl rep er
theorem s_expr (he : PE X a (tE X.K G ea)) (hs : swapsWith a none pos.line X.env = pure false) : PS X (.Expr a pos) (tS X.K G keep (.expr ea)) := (ps_expr he hs).imp fun D σ H ⟨env, S, φ, R, o, rep, er, he, f⟩ => by
  simp only [ex, Option.bind_eq_bind, Option.bind_eq_some_iff] at he
  obtain ⟨⟨w, S1⟩, h1, h2⟩ := he
  cases h2
  exact ⟨env, S, φ, R, w, _, rep, er, h1, fun v R' H' p => f _ φ R' H' (p.ext.step p.rep) p.rep (er.ext p.ext rep)⟩
theorem s_doc {x : Str} {j : Nat} {pos' : Pos} (h : PSs X sts (tSs X.K G keep ss)) : PSs X (.Expr (.Constant (.str x) j pos) pos' :: sts) (tSs X.K G keep ss) := (pss_cons ps_doc h).imp fun D σ H h => h
theorem s_ite {cc : C} (hc : PT X c (tC X.K G cc)) (ha : PSs X sts (tSs X.K G keep sa)) {sts' : List Stmt} (hb : PSs X sts' (tSs X.K G keep sb)) : PS X (.If c sts sts' pos) (tS X.K G keep (.ite cc sa sb)) :=
  (ps_if hc ha hb).imp fun D σ H ⟨env, S, φ, R, o, rep, er, he, f⟩ => by
    simp only [ex, Option.bind_eq_bind, Option.bind_eq_some_iff] at he
    obtain ⟨⟨t, S1⟩, h1, h2⟩ := he
    refine ⟨env, S, φ, R, t, S1, rep, er, h1, fun R1 H1 e1 r1 => ?_⟩
    cases t with
    | true =>
      simp only [if_true] at h2 ⊢
      exact ⟨env, S1, φ, R1, o, r1, er.ext e1 rep, h2, f.step rep (e1.step r1)⟩
    | false =>
      simp only [Bool.false_eq_true, if_false] at h2 ⊢
      exact ⟨env, S1, φ, R1, o, r1, er.ext e1 rep, h2, f.step rep (e1.step r1)⟩
theorem s_never : PS X st (fun _ _ _ => False) := ps_never
/-! ### loops -/
theorem s_for {tg iter : Expr} {t : T} {it : I} (hp : PassesOwn (model X.prog X.w) X.A X.env X.xe) (hc : X.calm = true) (hi : PI X tg iter (tIt X.K G it)) (hg : PG X tg (tG X.K t)) (hb : ∀ k, PSs X sts (tSs X.K G k sa)) (hs : ∀ x, foldedSetIterable iter X.env x = pure x) :
    PS X (.For tg iter sts [] pos) (tS X.K G keep (.for_ t it sa)) := by
  refine ⟨fun pins s σ H D I ⟨env, S, φ, R, o, rep, er, he, f⟩ => ?_⟩
  simp only [ex, Option.bind_eq_bind, Option.bind_eq_some_iff] at he
  obtain ⟨⟨src, S1⟩, h1, h2⟩ := he
  refine (ps_for hp hc hi hg (hb (src.keep keep)) hs).run pins s σ H D I ?_
  refine ⟨env, S, φ, R, src, S1, rep, er, h1, fun J R1 H1 e1 r1 hsrc => ?_⟩
  have f1 := f.step rep (e1.step r1)
  have hsub : ∀ n ∈ keep, n ∈ src.keep keep := fun n hn => by cases src <;> simp [Src.keep, hn]
  refine ⟨fun i m σ H => ∃ env S φ2 R, Step (src.keep keep) φ R1 H1 φ2 R H ∧ Rep X.K R H S φ2 ∧ EnvR X.K R H φ2 σ env ∧ forGo src t (exs G sa (src.keep keep)) m i env S = some o, ⟨_, env, S1, φ, R1, .refl, r1, er.ext e1 rep, h2⟩, fun i m σ2 H2 ⟨env2, S2, φ2, R2, st, r2, er2, hgo⟩ => ?_⟩
  cases m with
  | zero => simp [forGo] at hgo
  | succ m =>
    simp only [forGo, Option.bind_eq_bind, Option.bind_eq_some_iff] at hgo
    obtain ⟨oi, g1, g2⟩ := hgo
    have hlive : ∀ n, src = .live n ∨ src = .liveE n → φ2[n]? = φ[n]? := fun n e => by
      rcases e with rfl | rfl
      · obtain ⟨p, hp, _⟩ := hsrc
        exact st.kp n (by simp [Src.keep]) (List.getElem?_eq_some_iff.mp hp).1
      · obtain ⟨p, hp, _⟩ := hsrc
        exact st.kp n (by simp [Src.keep]) (List.getElem?_eq_some_iff.mp hp).1
    have turn := src_turn hsrc (st.stay r1) hlive r2 g1
    cases oi with
    | none =>
      cases g2
      exact .inl ⟨turn, f1 _ _ _ _ (st.less hsub) r2 er2⟩
    | some d =>
      simp only [Option.bind_eq_some_iff] at g2
      obtain ⟨env3, b1, ob, b2, b3⟩ := g2
      refine .inr ⟨turn.1, fun σ' H' => ∃ env S φ2 R, Step (src.keep keep) φ R1 H1 φ2 R H' ∧ Rep X.K R H' S φ2 ∧ EnvR X.K R H' φ2 σ' env ∧ forGo src t (exs G sa (src.keep keep)) m (i + 1) env S = some o, fun σ' H' hN => ⟨m, Nat.lt_succ_self m, hN⟩, fun x H' y => ?_⟩
      obtain ⟨t1, t2, t3, t4⟩ := turn.2 x H' y
      have st' := st.trans (t1.step t2) r1.own
      refine ⟨R2, S2, φ2, env2, d, env3, t2, er2.ext t1 r2, t3, b1, fun σ3 er3 _ => ⟨env3, S2, φ2, R2, ob, t2, er3, b2, ?_⟩⟩
      cases ob with
      | nx env4 S4 => exact fun σ' φ' R' H'' s' r' e' => ⟨env4, S4, φ', R', st'.trans s' r1.own, r', e', b3⟩
      | cnt env4 S4 => exact fun σ' φ' R' H'' s' r' e' => ⟨env4, S4, φ', R', st'.trans s' r1.own, r', e', b3⟩
      | brk env4 S4 =>
        cases b3
        exact fun σ' φ' R' H'' s' r' e' => f1 _ _ _ _ ((st'.trans s' r1.own).less hsub) r' e'
      | ret w S4 =>
        cases b3
        exact fun v φ' R' H'' s' r' e' fr => f1 _ _ _ _ ((st'.trans s' r1.own).less hsub) r' e' fun o eo a ea => st'.none (fr o eo a ea)
theorem s_whl {cc : C} (hp : PassesOwn (model X.prog X.w) X.A X.env X.xe) (hc : PT X c (tC X.K G cc)) (hb : PSs X sts (tSs X.K G keep sa)) : PS X (.While c sts [] pos) (tS X.K G keep (.whl cc sa)) :=
  (ps_while hp hc hb).imp fun D σ H ⟨env, S, φ, R, o, rep, er, he, f⟩ => by
    simp only [ex] at he
    refine ⟨fun m σ2 H2 => ∃ env S φ2 R2, Step keep φ R H φ2 R2 H2 ∧ Rep X.K R2 H2 S φ2 ∧ EnvR X.K R2 H2 φ2 σ2 env ∧ whlGo (evT G cc) (exs G sa keep) m env S = some o, ⟨_, env, S, φ, R, .refl, rep, er, he⟩, fun m σ2 H2 ⟨env2, S2, φ2, R2, st, r2, er2, hgo⟩ => ?_⟩
    cases m with
    | zero => simp [whlGo] at hgo
    | succ m =>
      simp only [whlGo, Option.bind_eq_bind, Option.bind_eq_some_iff] at hgo
      obtain ⟨⟨t, S3⟩, g1, g2⟩ := hgo
      refine ⟨env2, S2, φ2, R2, t, S3, r2, er2, g1, fun R3 H3 e3 r3 => ?_⟩
      have st' := st.trans (e3.step r3) rep.own
      cases t with
      | false =>
        simp only [Bool.false_eq_true, if_false] at g2 ⊢
        cases g2
        exact f _ _ _ _ st' r3 (er2.ext e3 r2)
      | true =>
        simp only [if_true, Option.bind_eq_some_iff] at g2 ⊢
        obtain ⟨ob, b2, b3⟩ := g2
        refine ⟨fun σ' H' => ∃ env S φ2 R2, Step keep φ R H φ2 R2 H' ∧ Rep X.K R2 H' S φ2 ∧ EnvR X.K R2 H' φ2 σ' env ∧ whlGo (evT G cc) (exs G sa keep) m env S = some o, fun σ' H' hN => ⟨m, Nat.lt_succ_self m, hN⟩, env2, S3, φ2, R3, ob, r3, er2.ext e3 r2, b2, ?_⟩
        cases ob with
        | nx env4 S4 => exact fun σ' φ' R' H'' s' r' e' => ⟨env4, S4, φ', R', st'.trans s' rep.own, r', e', b3⟩
        | cnt env4 S4 => exact fun σ' φ' R' H'' s' r' e' => ⟨env4, S4, φ', R', st'.trans s' rep.own, r', e', b3⟩
        | brk env4 S4 =>
          cases b3
          exact fun σ' φ' R' H'' s' r' e' => f _ _ _ _ (st'.trans s' rep.own) r' e'
        | ret w S4 =>
          cases b3
          exact fun v φ' R' H'' s' r' e' fr => f _ _ _ _ (st'.trans s' rep.own) r' e' fun o eo a ea => st'.none (fr o eo a ea)
/-! ### stores -/
theorem s_setix {p1 : Pos} (ha : PE X a (tE X.K G ea)) (hb : PE X b (tE X.K G eb)) (hc : PE X c (tE X.K G ec)) (hpl : ∀ v, assign (.Subscript a b p1) X.env v = (do
      let ov ← holding [v] (eval a X.env)
      let iv ← holding [v, ov] (eval b X.env)
      standAt p1
      holding [v, ov, iv] (setItem ov iv v)
      release [v, ov, iv] [])) (hs : swapsWithSole [.Subscript a b p1] c pos.line X.env = pure false) (hw : swappedStores [.Subscript a b p1] c X.env = pure none) : PS X (.Assign [.Subscript a b p1] c pos) (tS X.K G keep (.setix ea eb ec)) :=
  (ps_asg hc (pg_sub ha hb set_list hpl) hs hw rfl).imp fun D σ H ⟨env, S, φ, R, o, rep, er, he, f⟩ => by
    simp only [ex, Option.bind_eq_bind, Option.bind_eq_some_iff] at he
    obtain ⟨⟨w, S1⟩, h1, d, h2, ⟨x, S2⟩, h3, ⟨y, S3⟩, h4, h5⟩ := he
    refine ⟨env, S, φ, R, w, S1, rep, er, h1, fun v R1 H1 p1 => ?_⟩
    obtain ⟨R1', q1, q2, q3, q4⟩ := p1.fz rep h2
    refine ⟨env, S1, φ, R1', x, S2, q2, er.ext q1 rep, h3, fun v2 R2 H2 p2 => ?_⟩
    have e12 := q1.trans p2.ext rep.own
    refine ⟨env, S2, φ, R2, y, S3, p2.rep, er.ext e12 rep, h4, fun v3 R3 H3 p3 => ?_⟩
    have e13 := e12.trans p3.ext rep.own
    simp only at h5
    split at h5
    · rename_i n k
      obtain ⟨p, hp, rfl⟩ := p2.val.loc_at
      have hv3 : Dq X.K R3 H3 v3 (.int k) := p3.val
      cases hv3
      split at h5
      · rename_i ds hS
        rw [Option.bind_eq_some_iff] at h5
        obtain ⟨j, hj, h6⟩ := h5
        cases h6
        obtain ⟨vs, hv, hd⟩ := p3.rep.obj n _ p hS hp
        have dv : Dq X.K R3 H3 v d := (q3.ext p2.ext q2).ext p3.ext p2.rep
        refine ⟨p, vs, k, j, rfl, rfl, hv, by rw [hd.len]; exact hj, ?_⟩
        have r' := p3.rep.set hp (hd.set dv j)
        have e' := e13.trans (ext_set (vs := vs.set j v) p3.rep hp) rep.own
        exact f _ _ _ _ (e'.step r') r' (er.ext e' rep)
      · cases h5
    · cases h5
theorem stI_of {x y : W} {T T' : Store} {d : D} (h : stI x y T d = some T') : ∃ n k ds p, x = .loc n ∧ y = .p (.int k) ∧ T[n]? = some (.pl ds) ∧ ixN ds.length k = some p ∧ T' = T.set n (.pl (ds.set p d)) := by
  match x, y, h with
  | .loc n, .p (.int k), h =>
    simp only [stI] at h
    split at h
    · rename_i ds hS
      rw [Option.map_eq_some_iff] at h
      obtain ⟨p, hp, e⟩ := h
      exact ⟨n, k, ds, p, rfl, rfl, hS, hp, e.symm⟩
    · cases h
theorem dqa2 {vs : List V} {d1 d2 : D} (h : DqA K R H vs [d1, d2]) : ∃ v1 v2, vs = [v1, v2] ∧ Dq K R H v1 d1 ∧ Dq K R H v2 d2 := by
  cases h with
  | cons a b =>
    cases b with
    | cons c e =>
      cases e
      exact ⟨_, _, rfl, a, c⟩
/-- a[i], b[j] = .. -/
theorem s_set2 {a2 b2 : Expr} {ea2 eb2 : E} {p1 p2 pt : Pos} {kt : Nat} (hcalm : X.calm = true) (ha : PE X a (tE X.K G ea)) (hb : PE X b (tE X.K G eb)) (ha2 : PE X a2 (tE X.K G ea2)) (hb2 : PE X b2 (tE X.K G eb2)) (hc : PE X c (tE X.K G ec))
    (hpl : ∀ v, assign (.Subscript a b p1) X.env v = (do
      let ov ← holding [v] (eval a X.env)
      let iv ← holding [v, ov] (eval b X.env)
      standAt p1
      holding [v, ov, iv] (setItem ov iv v)
      release [v, ov, iv] []))
    (hpl2 : ∀ v, assign (.Subscript a2 b2 p2) X.env v = (do
      let ov ← holding [v] (eval a2 X.env)
      let iv ← holding [v, ov] (eval b2 X.env)
      standAt p2
      holding [v, ov, iv] (setItem ov iv v)
      release [v, ov, iv] []))
    (hs : swapsWithSole [.Tuple [.Subscript a b p1, .Subscript a2 b2 p2] kt pt] c pos.line X.env = pure false) (hw : swappedStores [.Tuple [.Subscript a b p1, .Subscript a2 b2 p2] kt pt] c X.env = pure none) :
    PS X (.Assign [.Tuple [.Subscript a b p1, .Subscript a2 b2 p2] kt pt] c pos) (tS X.K G keep (.set2 ea eb ea2 eb2 ec)) :=
  (ps_asg hc (pg_tup hcalm (pgs_cons (pg_sub ha hb set_list hpl) (pgs_cons (pg_sub ha2 hb2 set_list hpl2) pgs_nil rfl) rfl) rfl rfl) hs hw rfl).imp fun D σ H ⟨env, S, φ, R, o, rep, er, he, f⟩ => by
    simp only [ex, Option.bind_eq_bind, Option.bind_eq_some_iff] at he
    obtain ⟨⟨w, S1⟩, h1, d, h2, ⟨d1, d2⟩, h3, ⟨x, S2⟩, h4, ⟨y, S3⟩, h5, S4, h6, ⟨x', S5⟩, h7, ⟨y', S6⟩, h8, S7, h9, h10⟩ := he
    cases h10
    refine ⟨env, S, φ, R, w, S1, rep, er, h1, fun v R1 H1 p1 => ?_⟩
    obtain ⟨R1', q1, q2, q3, q4⟩ := p1.fz rep h2
    obtain rfl : d = .tuple [d1, d2] := by
      unfold as2 at h3
      split at h3
      · cases h3; rfl
      · cases h3
    cases q3 with
    | tup t1 t2 =>
      obtain ⟨v1, v2, rfl, u1, u2⟩ := dqa2 t2
      obtain ⟨n, k, ds, j, rfl, rfl, hS, hj, rfl⟩ := stI_of h6
      obtain ⟨n', k', ds', j', rfl, rfl, hS', hj', rfl⟩ := stI_of h9
      refine ⟨_, _, rfl, t1, rfl, v1, [v2], rfl, env, S1, φ, R1', .loc n, S2, q2, er.ext q1 rep, h4, fun v3 R2 H2 p2 => ?_⟩
      have e12 := q1.trans p2.ext rep.own
      refine ⟨env, S2, φ, R2, .p (.int k), S3, p2.rep, er.ext e12 rep, h5, fun v4 R3 H3 p3 => ?_⟩
      have e13 := e12.trans p3.ext rep.own
      obtain ⟨p, hp, rfl⟩ := p2.val.loc_at
      have hv4 : Dq X.K R3 H3 v4 (.int k) := p3.val
      cases hv4
      obtain ⟨vs, hv, hd⟩ := p3.rep.obj n _ p hS hp
      have dv : Dq X.K R3 H3 v1 d1 := (u1.ext p2.ext q2).ext p3.ext p2.rep
      have dv2 : Dq X.K R3 H3 v2 d2 := (u2.ext p2.ext q2).ext p3.ext p2.rep
      refine ⟨p, vs, k, j, rfl, rfl, hv, by rw [hd.len]; exact hj, ?_⟩
      have r' := p3.rep.set hp (hd.set dv j)
      have x' := ext_set (vs := vs.set j v1) p3.rep hp
      have e14 := e13.trans x' rep.own
      have dv3 := dv2.ext x' p3.rep
      refine ⟨v2, [], rfl, env, _, φ, R3, .loc n', S5, r', er.ext e14 rep, h7, fun v5 R5 H5 p5 => ?_⟩
      have e15 := e14.trans p5.ext rep.own
      refine ⟨env, S5, φ, R5, .p (.int k'), S6, p5.rep, er.ext e15 rep, h8, fun v6 R6 H6 p6 => ?_⟩
      have e16 := e15.trans p6.ext rep.own
      obtain ⟨p', hp', rfl⟩ := p5.val.loc_at
      have hv6 : Dq X.K R6 H6 v6 (.int k') := p6.val
      cases hv6
      obtain ⟨vs', hv', hd'⟩ := p6.rep.obj n' _ p' hS' hp'
      have dv4 : Dq X.K R6 H6 v2 d2 := (dv3.ext p5.ext r').ext p6.ext p5.rep
      refine ⟨p', vs', k', j', rfl, rfl, hv', by rw [hd'.len]; exact hj', ?_⟩
      have r7 := p6.rep.set hp' (hd'.set dv4 j')
      have e17 := e16.trans (ext_set (vs := vs'.set j' v2) p6.rep hp') rep.own
      exact ⟨rfl, f _ _ _ _ (e17.step r7) r7 (er.ext e17 rep)⟩
theorem get_list : PGet X (fun o i H Q => ∃ p xs k v, o = .ref p ∧ i = .int k ∧ H p = some (.lst xs) ∧ L2.atI xs k = some v ∧ Q v H) := by
  intro pins s σ H o i ov iv Q I ro ri h
  obtain ⟨p, xs, k, z, rfl, rfl, hp, he, q⟩ := h
  cases ro
  obtain ⟨t, rfl⟩ := ri
  obtain ⟨its, r, pl, hz⟩ := I.list (SqL.of hp)
  obtain ⟨j, h1, h2, h3, h4, h5⟩ := atI_get he
  obtain ⟨w, ew, rw'⟩ := r.get h2
  have hl := r.length
  have hn := line63
  have fin : EP X pins σ Q w s := ⟨z, H, I, rw', q⟩
  by_cases h0 : 0 ≤ k
  · have hj : k.toNat = j := by
      rw [seqIndex_of h0 h5] at h1
      exact Option.some.inj h1
    exact wpAny_getItem_list pl.isList h0 (by omega) (by rw [hj]; simpa using ew) fin
  · have hj : (k + (its.toArray.size : Int)).toNat = j := by
      rw [seqIndex_neg (by omega) h4] at h1
      rw [List.size_toArray, ← hl]
      exact Option.some.inj h1
    exact wpAny_getItem_list_neg pl.isList (by omega) (by rw [List.size_toArray] <;> omega) (by omega) (by rw [hj]; simpa using ew) fin
theorem ob_iop (o : Bop) : OpR X (inplaceOp (opO o)) (rB X.K (iop o)) := by
  intro pins s σ H x y v u Q I rx ry h
  obtain ⟨R, S, φ, d, e, w, rep, dx, dy, he, q⟩ := h
  unfold iop at he
  split at he
  · cases he
    obtain rfl := dx.int
    obtain rfl := dy.int
    exact iop_add pins s σ H _ _ v u Q I rx ry ⟨_, _, rfl, rfl, q _ _ _ (.same rep (.int _))⟩
  · cases he
    obtain rfl := dx.int
    obtain rfl := dy.int
    exact iop_sub pins s σ H _ _ v u Q I rx ry ⟨_, _, rfl, rfl, q _ _ _ (.same rep (.int _))⟩
  · split at he
    · rename_i hl
      cases he
      obtain rfl := dx.int
      obtain rfl := dy.int
      refine iop_mul pins s σ H _ _ v u Q I rx ry ⟨_, _, rfl, rfl, ?_, q _ _ _ (.same rep (.int _))⟩
      rw [Bool.or_eq_true] at hl
      exact hl.imp small_of small_of
    · cases he
  · split at he
    · rename_i hl
      cases he
      obtain rfl := dx.int
      obtain rfl := dy.int
      simp only [Bool.and_eq_true, decide_eq_true_eq] at hl
      exact iop_fdiv pins s σ H _ _ v u Q I rx ry ⟨_, _, rfl, rfl, hl, q _ _ _ (.same rep (.int _))⟩
    · cases he
  · split at he
    · rename_i hl
      cases he
      obtain rfl := dx.int
      obtain rfl := dy.int
      simp only [decide_eq_true_eq] at hl
      exact iop_mod pins s σ H _ _ v u Q I rx ry ⟨_, _, rfl, rfl, hl, q _ _ _ (.same rep (.int _))⟩
    · cases he
  · split at he
    · rename_i hl
      cases he
      obtain rfl := dx.str
      obtain rfl := dy.str
      exact iop_add_str pins s σ H _ _ v u Q I rx ry ⟨_, _, rfl, rfl, le_line hl, q _ _ _ (.same rep (.str _))⟩
    · cases he
  · cases he
theorem iop_p {o : Bop} {d e : D} {w : W} (h : iop o d e = some w) : ∃ r, w = .p r ∧ ((∃ i, r = .int i) ∨ ∃ i, r = .str i) := by
  unfold iop at h
  split at h
  all_goals first
    | (cases h; done)
    | (cases h; exact ⟨_, rfl, .inl ⟨_, rfl⟩⟩)
    | (cases h; exact ⟨_, rfl, .inr ⟨_, rfl⟩⟩)
    | (split at h <;> first | (cases h; done) | (cases h; first | exact ⟨_, rfl, .inl ⟨_, rfl⟩⟩ | exact ⟨_, rfl, .inr ⟨_, rfl⟩⟩))
theorem s_aug {i : Nat} {x : Str} {o : Bop} {pos' : Pos} (hN : X.N.Nodup) (hi : X.N[i]? = some x) (hx : Loc X.env.scope x) (ha : PE X a (tE X.K G ea)) (hf : X.fn x = true ∨ X.env.scope.names.lookup x = some .local) :
    PS X (.AugAssign (.Name x pos') (opO o) a pos) (tS X.K G keep (.aug i o ea)) :=
  (ps_aug hN hi hx ha (ob_iop o) hf).imp fun D σ H ⟨env, S, φ, R, out, rep, er, he, f⟩ => by
    simp only [ex] at he
    split at he
    · rename_i d hd
      simp only [Option.bind_eq_bind, Option.bind_eq_some_iff] at he
      obtain ⟨⟨w, S1⟩, h1, d', h2, r, h3, h4⟩ := he
      obtain ⟨q1, v, q2, q3⟩ := er.val i _ hd
      refine ⟨v, q2, env, S, φ, R, w, S1, rep, er, h1, fun v1 R1 H1 p1 => ?_⟩
      have q3' : Dq X.K R1 H1 v d := Dq.ext q3 p1.ext rep
      refine ⟨R1, S1, φ, d, d', r, p1.rep, .d q3', rd_ok p1.rep p1.val h2, h3, fun v2 R2 H2 p2 => ?_⟩
      obtain ⟨r', rfl, _⟩ := iop_p h3
      cases h4
      have e2 := p1.ext.trans p2.ext rep.own
      exact f _ _ _ _ (e2.step p2.rep) p2.rep ((er.ext e2 rep).set p2.val (fun o e => nomatch e))
    · cases he
theorem s_augix {o : Bop} {p1 : Pos} (ha : PE X a (tE X.K G ea)) (hb : PE X b (tE X.K G eb)) (hc : PE X c (tE X.K G ec)) (hpl : ∀ ov iv new, augStore b ov iv new = (do holding [new, ov, iv] (setItem ov iv new); release [new, ov, iv] []; pure .next)) :
    PS X (.AugAssign (.Subscript a b p1) (opO o) c pos) (tS X.K G keep (.augix ea eb o ec)) :=
  (ps_augS ha hb get_list hc (ob_iop o) set_list hpl).imp fun D σ H ⟨env, S, φ, R, out, rep, er, he, f⟩ => by
    simp only [ex, Option.bind_eq_bind, Option.bind_eq_some_iff] at he
    obtain ⟨⟨x, S1⟩, h1, ⟨y, S2⟩, h2, h3⟩ := he
    refine ⟨env, S, φ, R, x, S1, rep, er, h1, fun v1 R1 H1 p1 => ⟨env, S1, φ, R1, y, S2, p1.rep, er.ext p1.ext rep, h2, fun v2 R2 H2 p2 => ?_⟩⟩
    have e12 := p1.ext.trans p2.ext rep.own
    simp only at h3
    split at h3
    · rename_i n k
      obtain ⟨p, hp, rfl⟩ := p1.val.loc_at
      have hv2 : Dq X.K R2 H2 v2 (.int k) := p2.val
      cases hv2
      split at h3
      · rename_i ds hS
        simp only [Option.bind_eq_some_iff] at h3
        obtain ⟨old, h4, ⟨w, S3⟩, h5, d', h6, r, h7, h8⟩ := h3
        obtain ⟨vs, hv, hd⟩ := p2.rep.obj n _ p hS hp
        obtain ⟨z, z1, z2⟩ := atI_dq hd h4
        refine ⟨p, vs, k, z, rfl, rfl, hv, z1, env, S2, φ, R2, w, S3, p2.rep, er.ext e12 rep, h5, fun v3 R3 H3 p3 => ?_⟩
        have e13 := e12.trans p3.ext rep.own
        refine ⟨R3, S3, φ, old, d', r, p3.rep, .d (z2.ext p3.ext p2.rep), rd_ok p3.rep p3.val h6, h7, fun v4 R4 H4 p4 => ?_⟩
        obtain ⟨r', rfl, _⟩ := iop_p h7
        have e14 := e13.trans p4.ext rep.own
        simp only at h8
        split at h8
        · rename_i ds' hS'
          rw [Option.bind_eq_some_iff] at h8
          obtain ⟨j, hj, h9⟩ := h8
          cases h9
          obtain ⟨vs', hv', hd'⟩ := p4.rep.obj n _ p hS' hp
          refine ⟨p, vs', k, j, rfl, rfl, hv', by rw [hd'.len]; exact hj, ?_⟩
          have r' := p4.rep.set hp (hd'.set p4.val j)
          have e' := e14.trans (ext_set (vs := vs'.set j v4) p4.rep hp) rep.own
          exact f _ _ _ _ (e'.step r') r' (er.ext e' rep)
        · cases h8
      · cases h3
    · cases h3
end VI
set_option Elab.async false
set_option linter.all false
set_option maxRecDepth 100000
set_option maxHeartbeats 1000000
namespace VI
open PySem PySem.Spec PyProof.Rows L2
/-! ### the check of the row's terms against ours -/
structure Nm where
  fn : List Str
  con : List Str
def bNames : List Str := ["len", "sum", "max", "min", "abs", "int", "str", "list", "tuple", "sorted", "all", "any", "isinstance", "bool", "range", "enumerate", "zip"]
abbrev eqS (a b : Str) : Bool := decide (a = b)
def slotB (N : List Str) (i : Nat) (x : Str) : Bool := decide (N[i]? = some x)
def kindB (sc : Scope) (x : Str) : Option NameKind := sc.names.lookup x
def visB (sc : Scope) (x : Str) : Bool := match sc.names.lookup x with
  | some .local => true | some .cell => true | some .free => true | _ => false
def locB (sc : Scope) (x : Str) : Bool := match sc.names.lookup x with
  | some .local => true | some .cell => true | _ => false
def globB (sc : Scope) (x : Str) : Bool := match sc.names.lookup x with
  | some .globalImplicit => true | _ => false
def dbgB (x : Str) : Bool := !(x == ("__debug__" : Str))
def ownIn (scope : Scope) (x : Str) : Bool := locB scope x
def plainX : Expr → Bool
  | .Slice _ _ _ _ => false
  | _ => true
def plainT : Expr → Bool
  | .UnaryOp .Not _ _ => false
  | .BoolOp _ _ _ => false
  | .IfExp _ _ _ _ => false
  | .Compare _ _ _ _ => false
  | _ => true
def isSetX : Expr → Bool
  | .Set _ _ _ => true
  | _ => false
def isComp : Expr → Bool
  | .ListComp _ _ _ _ => true
  | .SetComp _ _ _ _ => true
  | .DictComp _ _ _ _ _ => true
  | _ => false
def isTup : Expr → Bool
  | .Tuple _ _ _ => true
  | _ => false
def ownL (N : List Str) (is : List Nat) : List (Str × Nat) := is.map fun i => (N.getD i "", i)
mutual
def ckT (N : List Str) (sc : Scope) (own : Str → Bool) : T → Expr → Bool
  | .nm i, x => match x with
    | .Name n _ => slotB N i n && locB sc n && own n
    | _ => false
  | .tp ts, x => match x with
    | .Tuple xs _ _ => xs.all noSt && ckTs N sc own ts xs
    | _ => false
def ckTs (N : List Str) (sc : Scope) (own : Str → Bool) : Ts → List Expr → Bool
  | .nil, xs => match xs with
    | [] => true
    | _ => false
  | .cons t ts, xs => match xs with
    | x :: r => ckT N sc own t x && ckTs N sc own ts r
    | _ => false
end
mutual
def ckE (P : Nm) (N : List Str) : E → Scope → (Str → Bool) → Expr → Bool
  | .k d, sc, own, x => match x with
    | .Constant c _ _ => match d, c with
      | .int i, .int j => decide (i = j)
      | .str i, .str j => decide (i = j)
      | .bool i, .bool j => decide (i = j)
      | .none, .none => true
      | _, _ => false
    | _ => false
  | .v i, sc, own, x => match x with
    | .Name n _ => slotB N i n && visB sc n && dbgB n && !(n == ("__classdict__" : Str))
    | _ => false
  | .g i, sc, own, x => match x with
    | .Name n _ => decide (P.con[i]? = some n) && globB sc n && dbgB n
    | _ => false
  | .bin o a b, sc, own, x => match x with
    | .BinOp l op r _ => decide (op = opO o) && ckE P N a sc own l && ckE P N b sc own r
    | _ => false
  | .neg a, sc, own, x => match x with
    | .UnaryOp .USub l _ => ckE P N a sc own l
    | _ => false
  | .cmp o a b, sc, own, x => match x with
    | .Compare l [op] [r] _ => decide (op = opC o) && !behindInMarks op r && ckE P N a sc own l && ckE P N b sc own r
    | _ => false
  | .cmp2 o o' a b c, sc, own, x => match x with
    | .Compare l [op, op'] [r, r'] _ => decide (op = opC o) && decide (op' = opC o') && !lastMarks [op, op'] [r, r'] && ckE P N a sc own l && ckE P N b sc own r && ckE P N c sc own r'
    | _ => false
  | .and a b, sc, own, x => match x with
    | .BoolOp .And (l :: r :: rest) p => ckE P N a sc own l && (match rest with
      | [] => ckE P N b sc own r
      | _ => ckE P N b sc own (.BoolOp .And (r :: rest) p))
    | _ => false
  | .or a b, sc, own, x => match x with
    | .BoolOp .Or (l :: r :: rest) p => ckE P N a sc own l && (match rest with
      | [] => ckE P N b sc own r
      | _ => ckE P N b sc own (.BoolOp .Or (r :: rest) p))
    | _ => false
  | .not a, sc, own, x => match x with
    | .UnaryOp .Not l _ => ckE P N a sc own l
    | _ => false
  | .ite c a b, sc, own, x => match x with
    | .IfExp t l r _ => ckC P N c sc own t && ckE P N a sc own l && ckE P N b sc own r
    | _ => false
  | .tup es, sc, own, x => match x with
    | .Tuple xs _ _ => xs.all noSt && ckEs P N es sc own xs
    | _ => false
  | .lst es, sc, own, x => match x with
    | .List xs _ => xs.all noSt && ckEs P N es sc own xs
    | _ => false
  | .ix a i, sc, own, x => match x with
    | .Subscript l r _ => plainX r && ckE P N a sc own l && ckE P N i sc own r
    | _ => false
  | .sl a lo hi, sc, own, x => match x with
    | .Subscript l (.Slice x1 x2 none _) _ => ckE P N a sc own l && ckO P N lo sc own x1 && ckO P N hi sc own x2
    | _ => false
  | .call f es, sc, own, x => match x with
    | .Call (.Name n _) (y :: ys) [] _ => decide (P.fn[f]? = some n) && globB sc n && dbgB n && (y :: ys).all noSt && ckEs P N es sc own (y :: ys)
    | _ => false
  | .bi f es, sc, own, x => match x with
    | .Call (.Name n _) (y :: ys) [] _ => decide (n = biN f) && decide (n ∈ bNames) && globB sc n && (y :: ys).all noSt && ckEs P N es sc own (y :: ys)
    | _ => false
  | .isi a t, sc, own, x => match x with
    | .Call (.Name n _) [y, .Name m _] [] _ => decide (n = "isinstance") && decide (m = tyS t) && decide (m ∈ bNames) && globB sc n && globB sc m && noSt y && ckE P N a sc own y
    | _ => false
  | .mt f a e, sc, own, x => match x with
    | .Call (.Attribute o n apos) [y] [] cpos => (match f with | .join => decide (n = "join") | .index => decide (n = "index")) && noCall o && noSt y && (apos.endLine == cpos.line) && ckE P N a sc own o && ckE P N e sc own y
    | _ => false
  | .app a e, sc, own, x => match x with
    | .Call (.Attribute o n apos) [y] [] cpos => decide (n = "append") && noCall o && noSt y && (apos.endLine == cpos.line) && ckE P N a sc own o && ckE P N e sc own y
    | _ => false
  | .pop a, sc, own, x => match x with
    | .Call (.Attribute o n apos) [] [] cpos => decide (n = "pop") && noCall o && (apos.endLine == cpos.line) && ckE P N a sc own o
    | _ => false
  | .popi a e, sc, own, x => match x with
    | .Call (.Attribute o n apos) [y] [] cpos => decide (n = "pop") && noCall o && noSt y && (apos.endLine == cpos.line) && ckE P N a sc own o && ckE P N e sc own y
    | _ => false
  | .nv, _, _, _ => true
  | .lrg a, sc, own, x => match x with
    | .Call (.Name m _) [.Call (.Name n _) [y] [] _] [] _ => decide (m = "list") && globB sc m && decide (n = "range") && globB sc n && noSt y && ckE P N a sc own y
    | _ => false
  | .lrg2 a b, sc, own, x => match x with
    | .Call (.Name m _) [.Call (.Name n _) [y, z] [] _] [] _ => decide (m = "list") && globB sc m && decide (n = "range") && globB sc n && noSt y && noSt z && ckE P N a sc own y && ckE P N b sc own z
    | _ => false
  | .trg a, sc, own, x => match x with
    | .Call (.Name m _) [.Call (.Name n _) [y] [] _] [] _ => decide (m = "tuple") && globB sc m && decide (n = "range") && globB sc n && noSt y && ckE P N a sc own y
    | _ => false
  | .lc elt tg it cd is, sc, own, x => match x with
    | .ListComp el [⟨t, i, ifs, asy⟩] scope _ => decide (asy = 0) && blkC N sc scope (ownL N is) && !isSetX i && decide (∀ j ∈ slotsT tg, j ∈ is) && ckI P N it sc own t i &&
      ckT N (relS scope sc) (ownIn scope) tg t && ckOc P N cd (relS scope sc) (ownIn scope) ifs && ckE P N elt (relS scope sc) (ownIn scope) el
    | _ => false
  | .lc2 elt tg it cd tg1 it1 cd1 is is1, sc, own, x => match x with
    | .ListComp el [⟨t, i, ifs, asy⟩, ⟨t1, i1, ifs1, asy1⟩] scope _ => decide (asy = 0) && decide (asy1 = 0) && blkC N sc scope (ownL N is) && !isSetX i && !isSetX i1 && decide (∀ j ∈ slotsT tg, j ∈ is) && decide (∀ j ∈ is1, j ∈ is) && decide (∀ j ∈ slotsT tg1, j ∈ is1) && ckI P N it sc own t i &&
      ckT N (relS scope sc) (ownIn scope) tg t && ckOc P N cd (relS scope sc) (ownIn scope) ifs && ckI P N it1 (relS scope sc) (ownIn scope) t1 i1 && ckT N (relS scope sc) (ownIn scope) tg1 t1 && ckOc P N cd1 (relS scope sc) (ownIn scope) ifs1 && ckE P N elt (relS scope sc) (ownIn scope) el
    | _ => false
def ckC (P : Nm) (N : List Str) : C → Scope → (Str → Bool) → Expr → Bool
  | .e a, sc, own, x => ckE P N a sc own x && (plainT x || (match a with | .cmp _ _ _ => true | .cmp2 _ _ _ _ _ => true | _ => false))
  | .and a b, sc, own, x => match x with
    | .BoolOp .And (l :: r :: rest) p => ckC P N a sc own l && (match rest with
      | [] => ckC P N b sc own r
      | _ => ckC P N b sc own (.BoolOp .And (r :: rest) p))
    | _ => false
  | .or a b, sc, own, x => match x with
    | .BoolOp .Or (l :: r :: rest) p => ckC P N a sc own l && (match rest with
      | [] => ckC P N b sc own r
      | _ => ckC P N b sc own (.BoolOp .Or (r :: rest) p))
    | _ => false
  | .not a, sc, own, x => match x with
    | .UnaryOp .Not l _ => ckC P N a sc own l
    | _ => false
def ckOc (P : Nm) (N : List Str) : Oc → Scope → (Str → Bool) → List Expr → Bool
  | .no, sc, own, xs => match xs with
    | [] => true
    | _ => false
  | .so c, sc, own, xs => match xs with
    | [x] => ckC P N c sc own x
    | _ => false
def ckO (P : Nm) (N : List Str) : Oe → Scope → (Str → Bool) → Option Expr → Bool
  | .no, sc, own, x => match x with
    | none => true
    | _ => false
  | .so e, sc, own, x => match x with
    | some y => ckE P N e sc own y
    | _ => false
def ckEs (P : Nm) (N : List Str) : Es → Scope → (Str → Bool) → List Expr → Bool
  | .nil, sc, own, xs => match xs with
    | [] => true
    | _ => false
  | .cons e es, sc, own, xs => match xs with
    | x :: r => ckE P N e sc own x && ckEs P N es sc own r
    | _ => false
def ckI (P : Nm) (N : List Str) : I → Scope → (Str → Bool) → Expr → Expr → Bool
  | .sq e, sc, own, _, x => ckE P N e sc own x
  | .rng a, sc, own, _, x => match x with
    | .Call (.Name n _) [y] [] _ => decide (n = "range") && globB sc n && noSt y && ckE P N a sc own y
    | _ => false
  | .rng2 a b, sc, own, _, x => match x with
    | .Call (.Name n _) [y, z] [] _ => decide (n = "range") && globB sc n && noSt y && noSt z && ckE P N a sc own y && ckE P N b sc own z
    | _ => false
  | .rng3 a b c, sc, own, _, x => match x with
    | .Call (.Name n _) [y, z, u] [] _ => decide (n = "range") && globB sc n && noSt y && noSt z && noSt u && ckE P N a sc own y && ckE P N b sc own z && ckE P N c sc own u
    | _ => false
  | .enu a, sc, own, tg, x => match tg, x with
    | .Tuple _ _ _, .Call (.Name n _) [y] [] _ => decide (n = "enumerate") && globB sc n && noSt y && ckE P N a sc own y
    | _, _ => false
  | .zip a b, sc, own, tg, x => match tg, x with
    | .Tuple _ _ _, .Call (.Name n _) [y, z] [] _ => decide (n = "zip") && globB sc n && noSt y && noSt z && ckE P N a sc own y && ckE P N b sc own z
    | _, _ => false
end
/-! ### what is known around a term -/
structure CxOk (P : Nm) (G : Glob) (N : List Str) (sc : Scope) (own : Str → Bool) (X : Cx) : Prop where
  hN : X.N = N
  nd : N.Nodup
  hsc : X.env.scope = sc
  kind : sc.kind = .function
  calm : X.calm = true
  xe : X.xe = fun _ _ => False
  un : X.A.units + 65 < cLine
  fns : ∀ (i : Nat) (x : Str), P.fn[i]? = some x → ∃ np k sem fa fd ps, FnOk X.prog X.w X.K X.mg X.base CX0 k fa fd ps (spI X.K np sem) ∧ Room k X.A ∧ X.mg x = some (.ref fa) ∧ PySem.W.keepIn X.K (.ref fa) = true ∧ Binds X.K fd ps [] ∧ ∀ ws S, G.call i ws S = callW np sem ws S
  cons : ∀ (i : Nat) (x : Str), P.con[i]? = some x → ∃ d v u, G.con i = some d ∧ X.mg x = some u ∧ RelV v u ∧ ∀ R H, Dq X.K R H v d
  blt : ∀ x ∈ bNames, X.mg x = none
  hfn : ∀ x, own x = true → Loc sc x → X.fn x = true ∨ sc.names.lookup x = some .local
section
variable {P : Nm} {G : Glob} {N : List Str} {sc : Scope} {own : Str → Bool} {X : Cx}
theorem slot_of {i : Nat} {x : Str} (h : slotB N i x = true) : N[i]? = some x := of_decide_eq_true h
theorem vis_of {x : Str} (h : visB sc x = true) : Vis sc x := by
  unfold visB at h
  split at h
  · exact .inl (by assumption)
  · exact .inr (.inl (by assumption))
  · exact .inr (.inr (by assumption))
  · cases h
theorem loc_of {x : Str} (h : locB sc x = true) : Loc sc x := by
  unfold locB at h
  split at h
  · exact .inl (by assumption)
  · exact .inr (by assumption)
  · cases h
theorem CxOk.gl (ok : CxOk P G N sc own X) {x : Str} (h : globB sc x = true) : Gl X x := by
  unfold globB at h
  split at h
  · show X.env.scope.names.lookup x = _
    rw [ok.hsc]; assumption
  · cases h
theorem dbg_of {x : Str} (h : dbgB x = true) : (x == ("__debug__" : Str)) = false := by
  unfold dbgB at h
  simpa using h
theorem lookup_blk {scope : Scope} {x : Str} (h : scope.names.lookup x = some .local) : (relS scope sc).names.lookup x = some .local := lookup_relS_keep (by decide) h
theorem ownL_snd (is : List Nat) : (ownL N is).map (·.2) = is := by
  unfold ownL
  rw [List.map_map]
  show is.map (fun i => i) = is
  exact List.map_id _
theorem CxOk.blk (ok : CxOk P G N sc own X) {scope : Scope} {is : List Nat} (hb : blkC N sc scope (ownL N is) = true) (s : Shared) (H : Hp) (C : Addr) (cl : List (Str × Addr)) (fp : List Addr) :
    CxOk P G N (relS scope sc) (ownIn scope) (X.blk s H scope (compEnvC scope cl C X.env) fp) where
  hN := ok.hN
  nd := ok.nd
  hsc := by show relS scope X.env.scope = _; rw [ok.hsc]
  kind := (blkOk_by hb).kind
  calm := ok.calm
  xe := rfl
  un := ok.un
  fns := ok.fns
  cons := ok.cons
  blt := ok.blt
  hfn := fun x ho hl => by
    rcases loc_of ho with h | h
    · exact .inr (lookup_blk h)
    · refine .inl ?_
      show (scope.names.lookup x == some .cell) = true
      rw [h]; rfl
end
/-! ### a checked term yields what ours does -/
section
variable {P : Nm} {G : Glob} {N : List Str}
mutual
theorem sndT : ∀ (t : T) (sc : Scope) (own : Str → Bool) (X : Cx) (x : Expr), CxOk P G N sc own X → ckT N sc own t x = true → PG X x (tG X.K t)
  | .nm i, sc, own, X, x, ok, h => by
    simp only [ckT] at h
    split at h
    · simp only [Bool.and_eq_true] at h
      obtain ⟨⟨h1, h2⟩, h3⟩ := h
      exact g_name (by rw [ok.hN]; exact ok.nd) (by rw [ok.hN]; exact slot_of h1) (by rw [ok.hsc]; exact loc_of h2) (by rw [ok.hsc]; exact ok.hfn _ h3 (loc_of h2))
    · cases h
  | .tp ts, sc, own, X, x, ok, h => by
    simp only [ckT] at h
    split at h
    · simp only [Bool.and_eq_true] at h
      exact g_tup ok.calm (sndTs ts sc own X _ ok h.2) (by rw [as_len]; exact ckTs_len ts _ h.2) (as_none _ _ h.1)
    · cases h
theorem sndTs : ∀ (t : Ts) (sc : Scope) (own : Str → Bool) (X : Cx) (xs : List Expr), CxOk P G N sc own X → ckTs N sc own t xs = true → PGs X xs (tGs X.K t)
  | .nil, sc, own, X, xs, ok, h => by
    simp only [ckTs] at h
    split at h
    · exact g_nil
    · cases h
  | .cons t ts, sc, own, X, xs, ok, h => by
    simp only [ckTs] at h
    split at h
    · simp only [Bool.and_eq_true] at h
      refine g_cons (sndT t sc own X _ ok h.1) (sndTs ts sc own X _ ok h.2) ?_
      rename_i x r
      have hn : noSt x = true := by
        cases x <;> first | rfl | (cases t <;> simp [ckT] at h)
      rw [noSt_as hn]; rfl
    · cases h
theorem ckTs_len {sc : Scope} {own : Str → Bool} : ∀ (t : Ts) (xs : List Expr), ckTs N sc own t xs = true → xs.length = lenT t
  | .nil, xs, h => by
    simp only [ckTs] at h
    split at h
    · rfl
    · cases h
  | .cons t ts, xs, h => by
    simp only [ckTs] at h
    split at h
    · simp only [Bool.and_eq_true] at h
      simp [lenT, ckTs_len ts _ h.2]
    · cases h
end
theorem plainX_ok {b : Expr} (h : plainX b = true) : PlainIx b := by
  intro o i
  cases b <;> first | rfl | cases h
theorem plainT_ok {a : Expr} {X : Cx} (h : plainT a = true) : ∀ whole, isTrue a X.env whole = (do let v ← whole; standAt a.pos; holding [v] (truthy v)) := by
  intro whole
  cases a with
  | UnaryOp op _ _ => cases op <;> first | rfl | cases h
  | _ => first | rfl | cases h
theorem isSetX_ok {i : Expr} {env : PySem.Env} (h : isSetX i = false) : ∀ x, foldedSetIterable i env x = pure x := by
  intro x
  cases i <;> first | rfl | cases h
theorem cmp_bool {G : Glob} {o : Cop} {a b : E} {env : Env} {S : Store} {w : W} {S' : Store} (h : ev G (.cmp o a b) env S = some (w, S')) : ∃ k, w = .p (.bool k) := by
  simp only [ev, Option.bind_eq_bind, Option.bind_eq_some_iff] at h
  obtain ⟨_, _, _, _, _, _, _, _, c, _, h⟩ := h
  cases h
  exact ⟨c, rfl⟩
theorem cmp2_bool {G : Glob} {o o' : Cop} {a b c : E} {env : Env} {S : Store} {w : W} {S' : Store} (h : ev G (.cmp2 o o' a b c) env S = some (w, S')) : ∃ k, w = .p (.bool k) := by
  simp only [ev, Option.bind_eq_bind, Option.bind_eq_some_iff] at h
  obtain ⟨_, _, _, _, _, _, _, _, r, _, h⟩ := h
  split at h
  · simp only [Option.bind_eq_some_iff] at h
    obtain ⟨_, _, _, _, _, _, r', _, h⟩ := h
    cases h
    exact ⟨_, rfl⟩
  · cases h
    exact ⟨_, rfl⟩
def isBool : Expr → Bool
  | .BoolOp _ _ _ => true
  | _ => false
/-- a test, and where it is and, or: whatever stands around -/
structure TOk (X : Cx) (x : Expr) (t : TT) : Prop where
  pt : PT X x t
  pw : isBool x = true → PW X x t
theorem TOk.of {X : Cx} {x : Expr} {t : TT} (z : PW X x t) : TOk X x t := ⟨z.pt, fun _ => z⟩
theorem chain_imp {X : Cx} {G : Glob} {o o' : Cop} {ea eb ec : E} : ∀ σ H Q, tE X.K G (.cmp2 o o' ea eb ec) σ H Q → tChain (rC X.K (cop o)) (rC X.K (cop o')) (tE X.K G ea) (tE X.K G eb) (tE X.K G ec) σ H Q := fun σ H Q ⟨env, S, φ, R, w, S', rep, er, he, q⟩ => by
  simp only [ev, Option.bind_eq_bind, Option.bind_eq_some_iff] at he
  obtain ⟨⟨x, S1⟩, h1, ⟨y, S2⟩, h2, d, h3, e, h4, r, h5, h6⟩ := he
  refine ⟨env, S, φ, R, x, S1, rep, er, h1, fun v1 R1 H1 p1 => ⟨env, S1, φ, R1, y, S2, p1.rep, er.ext p1.ext rep, h2, fun v2 R2 H2 p2 => ?_⟩⟩
  have e12 := p1.ext.trans p2.ext rep.own
  refine ⟨R2, S2, φ, d, e, r, p2.rep, rd_ok p2.rep (p1.val.ext p2.ext p1.rep) h3, rd_ok p2.rep p2.val h4, h5, r, rfl, ?_⟩
  cases r with
  | false =>
    simp only [Bool.false_eq_true, if_false] at h6 ⊢
    cases h6
    exact q _ _ _ ((Post.same p2.rep (.bl _)).trans e12 rep p2.rep)
  | true =>
    simp only [if_true, Option.bind_eq_some_iff] at h6 ⊢
    obtain ⟨⟨z, S3⟩, h7, e', h8, f, h9, r', h10, h11⟩ := h6
    cases h11
    refine ⟨env, S2, φ, R2, z, S3, p2.rep, er.ext e12 rep, h7, fun v3 R3 H3 p3 => ?_⟩
    exact ⟨R3, S3, φ, e', f, r', p3.rep, rd_ok p3.rep (p2.val.ext p3.ext p2.rep) h8, rd_ok p3.rep p3.val h9, h10, q _ _ _ ((Post.same p3.rep (.bl _)).trans (e12.trans p3.ext rep.own) rep p3.rep)⟩
theorem e_lc_is {X : Cx} {G : Glob} {pos : Pos} {is : List Nat} {elt tg iter : Expr} {ifs : List Expr} {scope : Scope} {own : List (Str × Nat)} {ee : E} {t : T} {it : I} {cd : Oc} (hi' : own.map (·.2) = is) (hc : X.calm = true) (hN : X.N.Nodup) (hi : PI X tg iter (tIt X.K G it)) (ok : BlkOk X.N X.env.scope scope own)
    (hg : ∀ (s : Shared) (H : Hp) (C : Addr) (cl : List (Str × Addr)) (fp : List Addr), PG (X.blk s H scope (compEnvC scope cl C X.env) fp) tg (tG X.K t)) (ht : ∀ (s : Shared) (H : Hp) (C : Addr) (cl : List (Str × Addr)) (fp : List Addr), PTs (X.blk s H scope (compEnvC scope cl C X.env) fp) ifs (tCo X.K G cd))
    (he : ∀ (s : Shared) (H : Hp) (C : Addr) (cl : List (Str × Addr)) (fp : List Addr), PE (X.blk s H scope (compEnvC scope cl C X.env) fp) elt (tE X.K G ee)) (hs : ∀ x, foldedSetIterable iter X.env x = pure x)
    (hsl : ∀ i ∈ slotsT t, i ∈ is) : PE X (.ListComp elt [⟨tg, iter, ifs, 0⟩] scope pos) (tE X.K G (.lc ee t it cd is)) := by
  subst hi'
  exact e_lc hc hN hi ok hg ht he hs hsl
mutual
theorem sndE : ∀ (e : E) (sc : Scope) (own : Str → Bool) (X : Cx) (x : Expr), CxOk P G N sc own X → ckE P N e sc own x = true → PE X x (tE X.K G e)
  | .k d, sc, own, X, x, ok, h => by
    simp only [ckE] at h
    split at h
    · split at h
      · cases of_decide_eq_true h; exact e_int
      · cases of_decide_eq_true h; exact e_str
      · cases of_decide_eq_true h; exact e_bl
      · exact e_non
      · cases h
    · cases h
  | .v i, sc, own, X, x, ok, h => by
    simp only [ckE] at h
    split at h
    · simp only [Bool.and_eq_true] at h
      obtain ⟨⟨⟨h1, h2⟩, h3⟩, h4⟩ := h
      exact e_var (by rw [ok.hN]; exact slot_of h1) (by rw [ok.hsc]; exact vis_of h2) (dbg_of h3) (by simpa using h4)
    · cases h
  | .g i, sc, own, X, x, ok, h => by
    simp only [ckE] at h
    split at h
    · simp only [Bool.and_eq_true] at h
      obtain ⟨⟨h1, h2⟩, h3⟩ := h
      obtain ⟨d, v, u, q1, q2, q3, q4⟩ := ok.cons i _ (of_decide_eq_true h1)
      exact e_glob (ok.gl h2) q2 q3 q1 q4 (dbg_of h3)
    · cases h
  | .bin o a b, sc, own, X, x, ok, h => by
    simp only [ckE] at h
    split at h
    · simp only [Bool.and_eq_true] at h
      obtain ⟨⟨h1, h2⟩, h3⟩ := h
      cases of_decide_eq_true h1
      exact e_bin (sndE a sc own X _ ok h2) (sndE b sc own X _ ok h3)
    · cases h
  | .neg a, sc, own, X, x, ok, h => by
    simp only [ckE] at h
    split at h
    · exact e_neg (sndE a sc own X _ ok h)
    · cases h
  | .cmp o a b, sc, own, X, x, ok, h => by
    simp only [ckE] at h
    split at h
    · simp only [Bool.and_eq_true] at h
      obtain ⟨⟨⟨h1, h4⟩, h2⟩, h3⟩ := h
      cases of_decide_eq_true h1
      exact e_cmp ok.un (sndE a sc own X _ ok h2) (sndE b sc own X _ ok h3) (by simpa using h4)
    · cases h
  | .cmp2 o o' a b c, sc, own, X, x, ok, h => by
    simp only [ckE] at h
    split at h
    · simp only [Bool.and_eq_true] at h
      obtain ⟨⟨⟨⟨⟨h1, h2⟩, h3⟩, h4⟩, h5⟩, h6⟩ := h
      cases of_decide_eq_true h1
      cases of_decide_eq_true h2
      exact e_cmp2 ok.un (sndE a sc own X _ ok h4) (sndE b sc own X _ ok h5) (sndE c sc own X _ ok h6) (by simpa using h3)
    · cases h
  | .and a b, sc, own, X, x, ok, h => by
    simp only [ckE] at h
    split at h
    · simp only [Bool.and_eq_true] at h
      obtain ⟨h1, h2⟩ := h
      split at h2
      · exact e_and (sndE a sc own X _ ok h1) (pe_one (sndE b sc own X _ ok h2))
      · exact e_and (sndE a sc own X _ ok h1) (sndE b sc own X _ ok h2)
    · cases h
  | .or a b, sc, own, X, x, ok, h => by
    simp only [ckE] at h
    split at h
    · simp only [Bool.and_eq_true] at h
      obtain ⟨h1, h2⟩ := h
      split at h2
      · exact e_or (sndE a sc own X _ ok h1) (pe_one (sndE b sc own X _ ok h2))
      · exact e_or (sndE a sc own X _ ok h1) (sndE b sc own X _ ok h2)
    · cases h
  | .not a, sc, own, X, x, ok, h => by
    simp only [ckE] at h
    split at h
    · exact e_not (sndE a sc own X _ ok h)
    · cases h
  | .ite c a b, sc, own, X, x, ok, h => by
    simp only [ckE] at h
    split at h
    · simp only [Bool.and_eq_true] at h
      obtain ⟨⟨h1, h2⟩, h3⟩ := h
      exact e_ite (sndC c sc own X _ ok h1).pt (sndE a sc own X _ ok h2) (sndE b sc own X _ ok h3)
    · cases h
  | .tup es, sc, own, X, x, ok, h => by
    simp only [ckE] at h
    split at h
    · simp only [Bool.and_eq_true] at h
      exact e_tup (sndF es sc own X _ ok h.1 h.2)
    · cases h
  | .lst es, sc, own, X, x, ok, h => by
    simp only [ckE] at h
    split at h
    · simp only [Bool.and_eq_true] at h
      exact e_lst (sndF es sc own X _ ok h.1 h.2)
    · cases h
  | .ix a i, sc, own, X, x, ok, h => by
    simp only [ckE] at h
    split at h
    · simp only [Bool.and_eq_true] at h
      obtain ⟨⟨h1, h2⟩, h3⟩ := h
      exact e_ix (sndE a sc own X _ ok h2) (sndE i sc own X _ ok h3) (plainX_ok h1)
    · cases h
  | .sl a lo hi, sc, own, X, x, ok, h => by
    simp only [ckE] at h
    split at h
    · simp only [Bool.and_eq_true] at h
      obtain ⟨⟨h1, h2⟩, h3⟩ := h
      exact e_sl (sndE a sc own X _ ok h1) (sndO lo sc own X _ ok h2) (sndO hi sc own X _ ok h3)
    · cases h
  | .call f es, sc, own, X, x, ok, h => by
    simp only [ckE] at h
    split at h
    · simp only [Bool.and_eq_true] at h
      obtain ⟨⟨⟨⟨h1, h2⟩, h3⟩, h4⟩, h5⟩ := h
      obtain ⟨np, k, sem, fa, fd, ps, q1, q2, q3, q4, q5, q6⟩ := ok.fns f _ (of_decide_eq_true h1)
      exact e_call q1 q2 (ok.gl h2) q3 q4 q5 q6 (sndL es sc own X _ ok h4 h5) (dbg_of h3) h4
    · cases h
  | .bi f es, sc, own, X, x, ok, h => by
    simp only [ckE] at h
    split at h
    · simp only [Bool.and_eq_true] at h
      obtain ⟨⟨⟨⟨h1, h2⟩, h3⟩, h4⟩, h5⟩ := h
      cases of_decide_eq_true h1
      exact e_bi ok.calm (by have := ok.un; omega) (ok.gl h3) (ok.blt _ (of_decide_eq_true h2)) (sndL es sc own X _ ok h4 h5) h4
    · cases h
  | .isi a t, sc, own, X, x, ok, h => by
    simp only [ckE] at h
    split at h
    · simp only [Bool.and_eq_true] at h
      obtain ⟨⟨⟨⟨⟨⟨h1, h2⟩, h3⟩, h4⟩, h5⟩, h6⟩, h7⟩ := h
      cases of_decide_eq_true h1
      cases of_decide_eq_true h2
      exact e_isi (ok.gl h4) (ok.blt _ (by decide +kernel)) (ok.gl h5) (ok.blt _ (of_decide_eq_true h3)) (sndE a sc own X _ ok h7) h6
    · cases h
  | .mt f a e, sc, own, X, x, ok, h => by
    simp only [ckE] at h
    split at h
    · simp only [Bool.and_eq_true] at h
      obtain ⟨⟨⟨⟨⟨h1, h2⟩, h3⟩, h4⟩, h5⟩, h6⟩ := h
      split at h1
      · cases of_decide_eq_true h1
        exact e_join (sndE a sc own X _ ok h5) (sndE e sc own X _ ok h6) h2 h3 h4
      · cases of_decide_eq_true h1
        exact e_idx ok.un (sndE a sc own X _ ok h5) (sndE e sc own X _ ok h6) h2 h3 h4
    · cases h
  | .app a e, sc, own, X, x, ok, h => by
    simp only [ckE] at h
    split at h
    · simp only [Bool.and_eq_true] at h
      obtain ⟨⟨⟨⟨⟨h1, h2⟩, h3⟩, h4⟩, h5⟩, h6⟩ := h
      cases of_decide_eq_true h1
      exact e_app (sndE a sc own X _ ok h5) (sndE e sc own X _ ok h6) h2 h3 h4
    · cases h
  | .pop a, sc, own, X, x, ok, h => by
    simp only [ckE] at h
    split at h
    · simp only [Bool.and_eq_true] at h
      obtain ⟨⟨⟨h1, h2⟩, h4⟩, h5⟩ := h
      cases of_decide_eq_true h1
      exact e_pop (sndE a sc own X _ ok h5) h2 h4
    · cases h
  | .popi a e, sc, own, X, x, ok, h => by
    simp only [ckE] at h
    split at h
    · simp only [Bool.and_eq_true] at h
      obtain ⟨⟨⟨⟨⟨h1, h2⟩, h3⟩, h4⟩, h5⟩, h6⟩ := h
      cases of_decide_eq_true h1
      exact e_popi (sndE a sc own X _ ok h5) (sndE e sc own X _ ok h6) h2 h3 h4
    · cases h
  | .nv, sc, own, X, x, ok, h => ⟨fun pins s σ H Q I ⟨env, S, φ, R, w, S', rep, er, he, q⟩ => by simp only [ev] at he; cases he⟩
  | .lrg a, sc, own, X, x, ok, h => by
    simp only [ckE] at h
    split at h
    · simp only [Bool.and_eq_true] at h
      obtain ⟨⟨⟨⟨⟨h1, h2⟩, h3⟩, h4⟩, h5⟩, h6⟩ := h
      cases of_decide_eq_true h1
      cases of_decide_eq_true h3
      exact e_lrg1 ok.calm (ok.gl h2) (ok.blt _ (by decide +kernel)) (ok.gl h4) (ok.blt _ (by decide +kernel)) (sndE _ sc own X _ ok h6) h5
    · cases h
  | .lrg2 a b, sc, own, X, x, ok, h => by
    simp only [ckE] at h
    split at h
    · simp only [Bool.and_eq_true] at h
      obtain ⟨⟨⟨⟨⟨⟨⟨h1, h2⟩, h3⟩, h4⟩, h5⟩, h6⟩, h7⟩, h8⟩ := h
      cases of_decide_eq_true h1
      cases of_decide_eq_true h3
      exact e_lrg2 ok.calm (ok.gl h2) (ok.blt _ (by decide +kernel)) (ok.gl h4) (ok.blt _ (by decide +kernel)) (sndE _ sc own X _ ok h7) (sndE _ sc own X _ ok h8) h5 h6
    · cases h
  | .trg a, sc, own, X, x, ok, h => by
    simp only [ckE] at h
    split at h
    · simp only [Bool.and_eq_true] at h
      obtain ⟨⟨⟨⟨⟨h1, h2⟩, h3⟩, h4⟩, h5⟩, h6⟩ := h
      cases of_decide_eq_true h1
      cases of_decide_eq_true h3
      exact e_trg1 ok.calm (ok.gl h2) (ok.blt _ (by decide +kernel)) (ok.gl h4) (ok.blt _ (by decide +kernel)) (sndE _ sc own X _ ok h6) h5
    · cases h
  | .lc elt tg it cd is, sc, own, X, x, ok, h => by
    simp only [ckE] at h
    split at h
    · simp only [Bool.and_eq_true] at h
      obtain ⟨⟨⟨⟨⟨⟨⟨h1, h2⟩, h3⟩, h4⟩, h5⟩, h6⟩, h7⟩, h8⟩ := h
      cases of_decide_eq_true h1
      have hb := blkOk_by h2
      exact e_lc_is (ownL_snd is) ok.calm (by rw [ok.hN]; exact ok.nd) (sndI it sc own X _ _ ok h5) (by rw [ok.hN, ok.hsc]; exact hb)
        (fun s H C cl fp => sndT tg _ _ _ _ (ok.blk h2 s H C cl fp) h6) (fun s H C cl fp => sndOc cd _ _ _ _ (ok.blk h2 s H C cl fp) h7) (fun s H C cl fp => sndE elt _ _ _ _ (ok.blk h2 s H C cl fp) h8)
        (isSetX_ok (by simpa using h3)) (of_decide_eq_true h4)
    · cases h
  | .lc2 elt tg it cd tg1 it1 cd1 is is1, sc, own, X, x, ok, h => by
    simp only [ckE] at h
    split at h
    · simp only [Bool.and_eq_true] at h
      obtain ⟨⟨⟨⟨⟨⟨⟨⟨⟨⟨⟨⟨⟨⟨h1, h1b⟩, h2⟩, h3⟩, h3b⟩, h4⟩, h4b⟩, h4c⟩, h5⟩, h6⟩, h7⟩, h8⟩, h9⟩, h10⟩, h11⟩ := h
      cases of_decide_eq_true h1
      cases of_decide_eq_true h1b
      have hb := blkOk_by h2
      exact e_lc2 (ownL_snd is) ok.calm (by rw [ok.hN]; exact ok.nd) (sndI it sc own X _ _ ok h5) (by rw [ok.hN, ok.hsc]; exact hb) (of_decide_eq_true h4b)
        (fun s H C cl fp => sndT tg _ _ _ _ (ok.blk h2 s H C cl fp) h6) (fun s H C cl fp => sndOc cd _ _ _ _ (ok.blk h2 s H C cl fp) h7) (fun s H C cl fp => sndI it1 _ _ _ _ _ (ok.blk h2 s H C cl fp) h8)
        (fun s H C cl fp => sndT tg1 _ _ _ _ (ok.blk h2 s H C cl fp) h9) (fun s H C cl fp => sndOc cd1 _ _ _ _ (ok.blk h2 s H C cl fp) h10) (fun s H C cl fp => sndE elt _ _ _ _ (ok.blk h2 s H C cl fp) h11)
        (isSetX_ok (by simpa using h3)) (fun env => isSetX_ok (by simpa using h3b)) (of_decide_eq_true h4) (of_decide_eq_true h4c)
    · cases h
theorem sndC : ∀ (c : C) (sc : Scope) (own : Str → Bool) (X : Cx) (x : Expr), CxOk P G N sc own X → ckC P N c sc own x = true → TOk X x (tC X.K G c)
  | .e a, sc, own, X, x, ok, h => by
    simp only [ckC, Bool.and_eq_true] at h
    obtain ⟨h1, h2⟩ := h
    have hE := sndE a sc own X x ok h1
    by_cases hp : plainT x = true
    · exact ⟨c_e hE (plainT_ok hp), fun hb => by cases x <;> cases hb; cases hp⟩
    · rw [Bool.or_eq_true] at h2
      rcases h2 with h2 | h2
      · exact absurd h2 hp
      · split at h2
        · rename_i o a b
          simp only [ckE] at h1
          split at h1
          · simp only [Bool.and_eq_true] at h1
            obtain ⟨⟨⟨q1, q4⟩, q2⟩, q3⟩ := h1
            cases of_decide_eq_true q1
            refine ⟨c_cmp (t := tOp (rC X.K (cop o)) (tE X.K G a) (tE X.K G b)) (pt_cmpR (ob_cmp o ok.un) (sndE a sc own X _ ok q2) (sndE b sc own X _ ok q3) (by simpa using q4)) (fun env S w S' h => cmp_bool h) (fun σ H Q h => ?_), fun hb => by cases hb⟩
            obtain ⟨env, S, φ, R, w, S', rep, er, he, q⟩ := h
            simp only [ev, Option.bind_eq_bind, Option.bind_eq_some_iff] at he
            obtain ⟨⟨x, S1⟩, h1, ⟨y, S2⟩, h2, d, h3, e, h4, w', h5, h6⟩ := he
            cases h6
            exact two_rd rep er h1 h2 h3 h4 fun v1 v2 R2 H2 e2 r2 d1 d2 => ⟨R2, _, φ, d, e, _, r2, d1, d2, h5, q _ _ _ ((Post.same r2 (.bl _)).trans e2 rep r2)⟩
          · cases h1
        · rename_i o o' a b c
          simp only [ckE] at h1
          split at h1
          · simp only [Bool.and_eq_true] at h1
            obtain ⟨⟨⟨⟨⟨q1, q2⟩, q3⟩, q4⟩, q5⟩, q6⟩ := h1
            cases of_decide_eq_true q1
            cases of_decide_eq_true q2
            refine ⟨c_cmp (t := tChain (rC X.K (cop o)) (rC X.K (cop o')) (tE X.K G a) (tE X.K G b) (tE X.K G c)) (pt_chain (ob_cmp o ok.un) (ob_cmp o' ok.un) (sndE a sc own X _ ok q4) (sndE b sc own X _ ok q5) (sndE c sc own X _ ok q6) (by simpa using q3)) (fun env S w S' h => cmp2_bool h) (fun σ H Q h => ?_), fun hb => by cases hb⟩
            exact chain_imp σ H Q h
          · cases h1
        · cases h2
  | .and a b, sc, own, X, x, ok, h => by
    simp only [ckC] at h
    split at h
    · simp only [Bool.and_eq_true] at h
      obtain ⟨h1, h2⟩ := h
      have ha := (sndC a sc own X _ ok h1).pt
      split at h2
      · have hb := (sndC b sc own X _ ok h2).pt
        exact TOk.of (c_and ha (pw_and1 hb))
      · have hb := (sndC b sc own X _ ok h2).pw rfl
        exact TOk.of (c_and ha hb)
    · cases h
  | .or a b, sc, own, X, x, ok, h => by
    simp only [ckC] at h
    split at h
    · simp only [Bool.and_eq_true] at h
      obtain ⟨h1, h2⟩ := h
      have ha := (sndC a sc own X _ ok h1).pt
      split at h2
      · have hb := (sndC b sc own X _ ok h2).pt
        exact TOk.of (c_or ha (pw_or1 hb))
      · have hb := (sndC b sc own X _ ok h2).pw rfl
        exact TOk.of (c_or ha hb)
    · cases h
  | .not a, sc, own, X, x, ok, h => by
    simp only [ckC] at h
    split at h
    · exact ⟨c_not (sndC a sc own X _ ok h).pt, fun hb => by cases hb⟩
    · cases h
theorem sndOc : ∀ (c : Oc) (sc : Scope) (own : Str → Bool) (X : Cx) (xs : List Expr), CxOk P G N sc own X → ckOc P N c sc own xs = true → PTs X xs (tCo X.K G c)
  | .no, sc, own, X, xs, ok, h => by
    simp only [ckOc] at h
    split at h
    · exact co_no
    · cases h
  | .so c, sc, own, X, xs, ok, h => by
    simp only [ckOc] at h
    split at h
    · exact co_so (sndC c sc own X _ ok h).pt
    · cases h
theorem sndO : ∀ (o : Oe) (sc : Scope) (own : Str → Bool) (X : Cx) (x : Option Expr), CxOk P G N sc own X → ckO P N o sc own x = true → PO X x (tO X.K G o)
  | .no, sc, own, X, x, ok, h => by
    simp only [ckO] at h
    split at h
    · exact o_no
    · cases h
  | .so e, sc, own, X, x, ok, h => by
    simp only [ckO] at h
    split at h
    · exact o_so (sndE e sc own X _ ok h)
    · cases h
theorem sndF : ∀ (es : Es) (sc : Scope) (own : Str → Bool) (X : Cx) (xs : List Expr), CxOk P G N sc own X → xs.all noSt = true → ckEs P N es sc own xs = true → PA X xs (tF X.K G es)
  | .nil, sc, own, X, xs, ok, hs, h => by
    simp only [ckEs] at h
    split at h
    · exact f_nil
    · cases h
  | .cons e es, sc, own, X, xs, ok, hs, h => by
    simp only [ckEs] at h
    split at h
    · rw [List.all_cons, Bool.and_eq_true] at hs
      simp only [Bool.and_eq_true] at h
      exact f_cons (sndE e sc own X _ ok h.1) (sndF es sc own X _ ok hs.2 h.2) (noSt_ev hs.1 _ _)
    · cases h
theorem sndL : ∀ (es : Es) (sc : Scope) (own : Str → Bool) (X : Cx) (xs : List Expr), CxOk P G N sc own X → xs.all noSt = true → ckEs P N es sc own xs = true → PA X xs (tL X.K G es)
  | .nil, sc, own, X, xs, ok, hs, h => by
    simp only [ckEs] at h
    split at h
    · exact l_nil
    · cases h
  | .cons e es, sc, own, X, xs, ok, hs, h => by
    simp only [ckEs] at h
    split at h
    · rw [List.all_cons, Bool.and_eq_true] at hs
      simp only [Bool.and_eq_true] at h
      exact l_cons (sndE e sc own X _ ok h.1) (sndL es sc own X _ ok hs.2 h.2) (noSt_ev hs.1 _ _)
    · cases h
theorem sndI : ∀ (it : I) (sc : Scope) (own : Str → Bool) (X : Cx) (tg x : Expr), CxOk P G N sc own X → ckI P N it sc own tg x = true → PI X tg x (tIt X.K G it)
  | .sq e, sc, own, X, tg, x, ok, h => by
    simp only [ckI] at h
    exact i_sq (sndE e sc own X _ ok h)
  | .rng a, sc, own, X, tg, x, ok, h => by
    simp only [ckI] at h
    split at h
    · simp only [Bool.and_eq_true] at h
      obtain ⟨⟨⟨h1, h2⟩, h3⟩, h4⟩ := h
      cases of_decide_eq_true h1
      exact i_rng (ok.gl h2) (ok.blt _ (by decide +kernel)) (sndE a sc own X _ ok h4) h3
    · cases h
  | .rng2 a b, sc, own, X, tg, x, ok, h => by
    simp only [ckI] at h
    split at h
    · simp only [Bool.and_eq_true] at h
      obtain ⟨⟨⟨⟨⟨h1, h2⟩, h3⟩, h4⟩, h5⟩, h6⟩ := h
      cases of_decide_eq_true h1
      exact i_rng2 (ok.gl h2) (ok.blt _ (by decide +kernel)) (sndE a sc own X _ ok h5) (sndE b sc own X _ ok h6) h3 h4
    · cases h
  | .rng3 a b c, sc, own, X, tg, x, ok, h => by
    simp only [ckI] at h
    split at h
    · simp only [Bool.and_eq_true] at h
      obtain ⟨⟨⟨⟨⟨⟨⟨h1, h2⟩, h3⟩, h4⟩, h5⟩, h6⟩, h7⟩, h8⟩ := h
      cases of_decide_eq_true h1
      exact i_rng3 (ok.gl h2) (ok.blt _ (by decide +kernel)) (sndE a sc own X _ ok h6) (sndE b sc own X _ ok h7) (sndE c sc own X _ ok h8) h3 h4 h5
    · cases h
  | .enu a, sc, own, X, tg, x, ok, h => by
    simp only [ckI] at h
    split at h
    · simp only [Bool.and_eq_true] at h
      obtain ⟨⟨⟨h1, h2⟩, h3⟩, h4⟩ := h
      cases of_decide_eq_true h1
      exact i_enu (ok.gl h2) (ok.blt _ (by decide +kernel)) (sndE a sc own X _ ok h4) h3
    · cases h
  | .zip a b, sc, own, X, tg, x, ok, h => by
    simp only [ckI] at h
    split at h
    · simp only [Bool.and_eq_true] at h
      obtain ⟨⟨⟨⟨⟨h1, h2⟩, h3⟩, h4⟩, h5⟩, h6⟩ := h
      cases of_decide_eq_true h1
      exact i_zip (ok.gl h2) (ok.blt _ (by decide +kernel)) (sndE a sc own X _ ok h5) (sndE b sc own X _ ok h6) h3 h4
    · cases h
end
end
end VI
set_option Elab.async false
set_option linter.all false
set_option maxRecDepth 100000
set_option maxHeartbeats 1000000
namespace VI
open PySem PySem.Spec PyProof.Rows L2
variable {K : PySem.W.Frag} {R R' R1 R2 : Addr → Prop} {H H' H1 H2 : Hp} {S S' S1 : Store} {φ φ' φ1 φ2 : List Addr} {w : W} {v : V} {d : D} {keep : List Nat}
variable {X : Cx} {G : Glob} {a b c : Expr} {ea eb ec : E} {pos : Pos} {es : List Expr} {ess : Es} {st : Stmt} {sts : List Stmt} {s : VI.S} {ss sa sb : VI.Ss}
/-! ### a, b = .. -/
theorem push_ok {σ : Sl} {env : Env} {i : Nat} {o : VI.Obj} {p : Addr} (rep : Rep K R H S φ) (er : EnvR K R H φ σ env) (h1 : R p) (h2 : p ∉ φ) (h3 : ObjR K R H p o) (hp : H1 p = none) (s1 : Step keep φ1 R1 H1 φ R H) :
    Step keep φ1 R1 H1 (φ ++ [p]) R H ∧ Rep K R H (S ++ [o]) (φ ++ [p]) ∧ EnvR K R H (φ ++ [p]) (σ.set i (some (.ref p))) (env.set i (some (.loc S.length))) := by
  have old : ∀ (n : Nat) (x : Addr), φ[n]? = some x → (φ ++ [p])[n]? = some x := fun n x e => by
    rw [List.getElem?_append_left (List.getElem?_eq_some_iff.mp e).1]; exact e
  refine ⟨⟨s1.fr, s1.up, s1.dn, fun b hb => ?_, fun n hn hl' => ?_, s1.tr⟩, ?_, ?_⟩
  · rcases List.mem_append.mp hb with q | q
    · exact s1.ph b q
    · rw [List.mem_singleton] at q; subst q; exact .inr hp
  · have e := s1.kp n hn hl'
    rw [List.getElem?_eq_getElem hl'] at e ⊢
    exact old _ _ e
  · refine ⟨by simp [rep.len], ?_, fun b hb => ?_, rep.trk, fun n o' x e1 e2 => ?_⟩
    · rw [List.nodup_append]
      exact ⟨rep.nd, by simp, fun a ha b hb e => by rw [List.mem_singleton] at hb; subst hb; subst e; exact h2 ha⟩
    · rcases List.mem_append.mp hb with q | q
      · exact rep.own b q
      · rw [List.mem_singleton] at q; subst q; exact h1
    · by_cases hn : n < S.length
      · rw [List.getElem?_append_left hn] at e1
        rw [List.getElem?_append_left (by rw [rep.len]; exact hn)] at e2
        exact rep.obj n o' x e1 e2
      · have hn' : n = S.length := by
          have := (List.getElem?_eq_some_iff.mp e1).1
          simp at this; omega
        subst hn'
        rw [List.getElem?_append_right (Nat.le_refl _)] at e1
        rw [List.getElem?_append_right (Nat.le_of_eq rep.len)] at e2
        simp at e1
        simp [rep.len] at e2
        subst e1; subst e2
        exact h3
  · have er2 : EnvR K R H (φ ++ [p]) σ env := ⟨er.len, fun j u hu => by
      obtain ⟨q1, v, q2, q3⟩ := er.val j u hu
      refine ⟨q1, v, q2, ?_⟩
      cases u with
      | p d => exact q3
      | nw o => exact absurd rfl (q1 o)
      | loc n => obtain ⟨x, e, rfl⟩ := q3; exact ⟨x, old n x e, rfl⟩⟩
    exact er2.set ⟨p, by rw [← rep.len, List.getElem?_append_right (Nat.le_refl _)]; simp, rfl⟩ (fun o e => nomatch e)
/-- fresh ones' addresses -/
def NwIn (p : Addr) : List V → List W → Prop
  | v :: vs, .nw _ :: ws => v = .ref p ∨ NwIn p vs ws
  | _ :: vs, _ :: ws => NwIn p vs ws
  | _, _ => False
/-- values as they come: fresh objects are apart -/
inductive NewR (K : PySem.W.Frag) (φ : List Addr) (H0 : Hp) (R : Addr → Prop) (H : Hp) : List V → List W → Prop
  | nil : NewR K φ H0 R H [] []
  | cons {v : V} {w : W} {vs : List V} {ws : List W} : WR K R H φ w v → (∀ o, w = .nw o → ∀ p, v = .ref p → H0 p = none ∧ ¬ NwIn p vs ws) → NewR K φ H0 R H vs ws → NewR K φ H0 R H (v :: vs) (w :: ws)
theorem NewR.fresh {H0 : Hp} {p : Addr} : ∀ {vs : List V} {ws : List W}, NewR K φ H0 R H vs ws → NwIn p vs ws → H0 p = none
  | _, _, .nil, h => by cases h
  | v :: vs, w :: ws, .cons h1 h2 h3, h => by
    cases w with
    | p d => exact NewR.fresh h3 h
    | loc n => exact NewR.fresh h3 h
    | nw o =>
      rcases h with h | h
      · exact (h2 o rfl p h).1
      · exact NewR.fresh h3 h
theorem NewR.back {H0 : Hp} (hh : ∀ p, H1 p = none → H0 p = none) : ∀ {vs : List V} {ws : List W}, NewR K φ H1 R H vs ws → NewR K φ H0 R H vs ws
  | _, _, .nil => .nil
  | _, _, .cons h1 h2 h3 => .cons h1 (fun o e p ep => ⟨hh _ (h2 o e p ep).1, (h2 o e p ep).2⟩) (NewR.back hh h3)
theorem NewR.push {H0 : Hp} {p : Addr} : ∀ {vs : List V} {ws : List W}, NewR K φ H0 R H vs ws → ¬ NwIn p vs ws → NewR K (φ ++ [p]) H0 R H vs ws
  | _, _, .nil, _ => .nil
  | v :: vs, w :: ws, .cons h1 h2 h3, hn => by
    refine .cons ?_ h2 (NewR.push h3 fun z => hn ?_)
    · cases w with
      | p d => exact h1
      | loc n =>
        obtain ⟨x, e, rfl⟩ := h1
        exact ⟨x, by rw [List.getElem?_append_left (List.getElem?_eq_some_iff.mp e).1]; exact e, rfl⟩
      | nw o =>
        obtain ⟨x, rfl, q1, q2, q3⟩ := h1
        refine ⟨x, rfl, q1, fun z => ?_, q3⟩
        rcases List.mem_append.mp z with z | z
        · exact q2 z
        · rw [List.mem_singleton] at z
          exact hn (.inl (by rw [z]))
    · cases w with
      | p d => exact z
      | loc n => exact z
      | nw o => exact .inr z
def tN (K : PySem.W.Frag) (G : Glob) (es : Es) : TA := fun σ H Q => ∃ env S φ R ws S', Rep K R H S φ ∧ EnvR K R H φ σ env ∧ evN G es env S = some (ws, S') ∧ ∀ vs R' H', Ext φ R H R' H' → Rep K R' H' S' φ → NewR K φ H R' H' vs ws → Q vs H'
theorem n_nil : PA X [] (tN X.K G .nil) := pa_nil.imp fun σ H Q ⟨env, S, φ, R, ds, S', rep, er, he, q⟩ => by
  simp only [evN] at he; cases he; exact q [] R H .refl rep .nil
theorem n_cons (ha : PE X a (tE X.K G ea)) (hr : PA X es (tN X.K G ess)) (hs : starEach (a :: es) X.env = (false, eval a X.env) :: starEach es X.env) : PA X (a :: es) (tN X.K G (.cons ea ess)) :=
  (pa_cons ha hr hs).imp fun σ H Q ⟨env, S, φ, R, ds, S', rep, er, he, q⟩ => by
    simp only [evN, Option.bind_eq_bind, Option.bind_eq_some_iff] at he
    obtain ⟨⟨x, S1⟩, h1, ⟨ws', S2⟩, h3, h4⟩ := he
    cases h4
    refine ⟨env, S, φ, R, x, S1, rep, er, h1, fun v1 R1 H1 p1 => ?_⟩
    refine ⟨env, S1, φ, R1, ws', _, p1.rep, er.ext p1.ext rep, h3, fun vs R3 H3 e3 r3 d3 => ?_⟩
    refine q _ _ _ (p1.ext.trans e3 rep.own) r3 (.cons (p1.val.ext e3 p1.rep) (fun o e p ep => ⟨p1.fresh o e p ep, fun z => ?_⟩) (d3.back fun p hp => p1.ext.none rep p1.rep hp))
    have hp := d3.fresh z
    subst e; subst ep
    obtain ⟨x, e1, q1, q2, q3⟩ := p1.val
    cases e1
    obtain ⟨us, hu⟩ := q3.lst
    rw [hp] at hu; cases hu
theorem setWs_ok : ∀ {is : List Nat} {vs : List V} {ws : List W} {σ : Sl} {env env' : Env} {S S' : Store} {φ : List Addr}, Rep K R H S φ → EnvR K R H φ σ env → NewR K φ H1 R H vs ws → Step keep φ1 R1 H1 φ R H → setWs is ws env S = some (env', S') →
    ∃ φ', Step keep φ1 R1 H1 φ' R H ∧ Rep K R H S' φ' ∧ EnvR K R H φ' ((is.zip vs).foldl (fun σ x => σ.set x.1 (some x.2)) σ) env' ∧ vs.length = is.length
  | [], _, [], σ, env, env', S, S', φ, rep, er, nr, s1, h => by
    cases nr
    simp only [setWs, Option.some.injEq, Prod.mk.injEq] at h
    obtain ⟨rfl, rfl⟩ := h
    exact ⟨φ, s1, rep, er, rfl⟩
  | [], _, w :: ws, σ, env, env', S, S', φ, rep, er, nr, s1, h => by cases w <;> cases h
  | i :: is, _, [], σ, env, env', S, S', φ, rep, er, nr, s1, h => by cases h
  | i :: is, v :: vs, w :: ws, σ, env, env', S, S', φ, rep, er, .cons h1 h2 h3, s1, h => by
    cases w with
    | p d =>
      simp only [setWs] at h
      obtain ⟨φ', q1, q2, q3, q4⟩ := setWs_ok rep (er.set h1 (fun o e => nomatch e)) h3 s1 h
      exact ⟨φ', q1, q2, q3, by simp [q4]⟩
    | loc n =>
      simp only [setWs] at h
      obtain ⟨φ', q1, q2, q3, q4⟩ := setWs_ok rep (er.set h1 (fun o e => nomatch e)) h3 s1 h
      exact ⟨φ', q1, q2, q3, by simp [q4]⟩
    | nw o =>
      simp only [setWs] at h
      obtain ⟨p, rfl, q1, q2, q3⟩ := h1
      obtain ⟨f1, f2⟩ := h2 o rfl p rfl
      obtain ⟨z1, z2, z3⟩ := push_ok (i := i) rep er q1 q2 q3 f1 s1
      obtain ⟨φ', q1, q2, q3, q4⟩ := setWs_ok z2 z3 (h3.push f2) z1 h
      exact ⟨φ', q1, q2, q3, by simp [q4]⟩
def kindL (sc : Scope) (x : Str) : Bool := decide (sc.names.lookup x = some .local)
theorem noSt_any {es : List Expr} (hs : es.all noSt = true) (f : Expr → Bool) (hf : ∀ e, noSt e = true → f e = false) : es.any f = false := by
  rw [List.any_eq_false]
  intro e he
  rw [hf e (List.all_eq_true.mp hs e he)]
  decide
/-- two or three names of one line take what stands right -/
theorem sw_stores2 {x y : Str} {px py pt : Pos} {kt : Nat} {k2 : Nat} {pt2 : Pos} {env : PySem.Env} {a b : Expr} (hk : env.scope.kind = .function) (hx : env.scope.names.lookup x = some .local) (hy : env.scope.names.lookup y = some .local) (hl : py.line = px.line) (hxy : x ≠ y)
    (hs : [a, b].all noSt = true) (hf : [a, b].all (foldedForSure 8) = false) (hc : [a, b].all (constantsAlone 8) = false) : swappedStores [.Tuple [.Name x px, .Name y py] kt pt] (.Tuple [a, b] k2 pt2) env = pure (some [x, y]) := by
  have kx : env.kindOf x = some .local := hx
  have ky : env.kindOf y = some .local := hy
  have hb : env.blockKind = .function := by unfold Env.blockKind; rw [hk]; rfl
  have hxy' : (y == x) = false := by simpa using Ne.symm hxy
  unfold swappedStores
  simp only [hb]
  rw [if_neg (by exact Bool.false_ne_true), noSt_any hs _ (fun e he => by cases e <;> first | rfl | cases he)]
  simp only [hf, hc, kx, ky, hl, List.length_cons, List.length_nil, List.filterMap_cons, List.filterMap_nil, List.head?_cons, Option.map_some, Option.getD_some, Expr.pos, beq_self_eq_true, Bool.and_true, if_true, List.eraseDups_cons, List.eraseDups_nil, List.filter_cons, List.filter_nil, hxy', Bool.not_false]
  rfl
theorem sw_stores3 {x y z : Str} {px py pz pt : Pos} {kt : Nat} {k2 : Nat} {pt2 : Pos} {env : PySem.Env} {a b c : Expr} (hk : env.scope.kind = .function) (hx : env.scope.names.lookup x = some .local) (hy : env.scope.names.lookup y = some .local) (hz : env.scope.names.lookup z = some .local) (hl : py.line = px.line) (hl2 : pz.line = px.line) (hxy : x ≠ y) (hxz : x ≠ z) (hyz : y ≠ z)
    (hs : [a, b, c].all noSt = true) (hf : [a, b, c].all (foldedForSure 8) = false) (hc : [a, b, c].all (constantsAlone 8) = false) : swappedStores [.Tuple [.Name x px, .Name y py, .Name z pz] kt pt] (.Tuple [a, b, c] k2 pt2) env = pure (some [x, y, z]) := by
  have kx : env.kindOf x = some .local := hx
  have ky : env.kindOf y = some .local := hy
  have kz : env.kindOf z = some .local := hz
  have hb : env.blockKind = .function := by unfold Env.blockKind; rw [hk]; rfl
  have hxy' : (y == x) = false := by simpa using Ne.symm hxy
  have hxz' : (z == x) = false := by simpa using Ne.symm hxz
  have hyz' : (z == y) = false := by simpa using Ne.symm hyz
  unfold swappedStores
  simp only [hb]
  rw [if_neg (by exact Bool.false_ne_true), noSt_any hs _ (fun e he => by cases e <;> first | rfl | cases he)]
  simp only [hf, hc, kx, ky, kz, hl, hl2, List.length_cons, List.length_nil, List.filterMap_cons, List.filterMap_nil, List.head?_cons, Option.map_some, Option.getD_some, Expr.pos, beq_self_eq_true, Bool.and_true, if_true, List.eraseDups_cons, List.eraseDups_nil, List.filter_cons, List.filter_nil, hxy', hxz', hyz', Bool.not_false]
  rfl
/-- no pair of names takes a pair: the stores go from the left -/
theorem sw_none {tg v : Expr} {env : PySem.Env} (h : match v with | .Tuple es _ _ => es.all (foldedForSure 8) = true | _ => True) : swappedStores [tg] v env = pure none := by
  unfold swappedStores
  split
  · rename_i ts vs heq
    have hv : vs.all (foldedForSure 8) = true := by
      split at heq <;> first | (cases heq; exact h) | cases heq
    simp only [hv, if_true]
    repeat' split
    all_goals rfl
  · rfl
/-- a target that is no plain local name -/
def notLocT (sc : Scope) : Expr → Bool
  | .Name n _ => !kindL sc n
  | _ => true
theorem fm_short {f : Expr → Option Str} : ∀ {xs : List Expr}, (∃ x ∈ xs, f x = none) → (xs.filterMap f).length < xs.length
  | [], ⟨x, hx, _⟩ => by cases hx
  | y :: r, ⟨x, hx, e⟩ => by
    cases hy : f y with
    | none =>
      rw [List.filterMap_cons_none hy, List.length_cons]
      exact Nat.lt_succ_of_le (List.length_filterMap_le f r)
    | some z =>
      rw [List.filterMap_cons_some hy, List.length_cons, List.length_cons]
      rcases List.mem_cons.mp hx with rfl | hx
      · rw [hy] at e; cases e
      · exact Nat.succ_lt_succ (fm_short ⟨x, hx, e⟩)
theorem sw_cell {xs : List Expr} {k : Nat} {p : Pos} {v : Expr} {env : PySem.Env} (h : xs.any (notLocT env.scope) = true) : swappedStores [.Tuple xs k p] v env = pure none := by
  obtain ⟨x, hx, hn⟩ := List.any_eq_true.mp h
  unfold swappedStores
  split
  · rename_i ts vs heq
    have ht : ts = xs := by
      cases v with
      | Tuple es _ _ => cases heq; rfl
      | _ => cases heq
    subst ht
    have key := fm_short (f := fun e => match e with
      | .Name id pos => if (env.kindOf id == some NameKind.local && pos.line == (ts.head?.map (·.pos.line)).getD 0) = true then some id else none
      | _ => none) ⟨x, hx, by
        cases x with
        | Name n p =>
          have hk : (env.kindOf n == some NameKind.local) = false := by
            unfold notLocT kindL at hn
            unfold Env.kindOf
            have : ¬ env.scope.names.lookup n = some .local := by simpa using hn
            cases hq : env.scope.names.lookup n with
            | none => rfl
            | some kd =>
              cases kd <;> first | rfl | (rw [hq] at this; exact absurd rfl this)
          simp [hk]
        | _ => rfl⟩
    have key' := Nat.ne_of_lt key
    have hne : ((ts.filterMap fun e => match e with
      | .Name id pos => if (env.kindOf id == some NameKind.local && pos.line == (ts.head?.map (·.pos.line)).getD 0) = true then some id else none
      | _ => none).length != ts.length) = true := by simpa using key'
    simp only
    repeat' split
    all_goals first
      | rfl
      | (rename_i a1 a2 a3 a4 a5; exact absurd ((Bool.or_eq_true _ _).mpr (.inl hne)) a3)
      | (rename_i a1 a2 a3 a4; exact absurd ((Bool.or_eq_true _ _).mpr (.inl hne)) a3)
  · rfl
theorem s_par2 {i j : Nat} {x y : Str} {px py pt pos : Pos} {kt : Nat} {k2 : Nat} {pt2 : Pos} {a b : Expr} (hc : X.calm = true) (hN : X.N.Nodup) (hi : X.N[i]? = some x) (hj : X.N[j]? = some y) (hij : i ≠ j) (hxy : x ≠ y) (hk : X.env.scope.kind = .function) (hx : X.env.scope.names.lookup x = some .local) (hy : X.env.scope.names.lookup y = some .local)
    (ha : PA X [a, b] (tN X.K G ess)) (hl : py.line = px.line) (hs : [a, b].all noSt = true) (hf : [a, b].all (foldedForSure 8) = false) (hco : [a, b].all (constantsAlone 8) = false) : PS X (.Assign [.Tuple [.Name x px, .Name y py] kt pt] (.Tuple [a, b] k2 pt2) pos) (tS X.K G keep (.par [i, j] ess)) :=
  (ps_par hc hN hi hj hij hx hy ha (sw_stores2 hk hx hy hl hxy hs hf hco)).imp fun D σ H ⟨env, S, φ, R, o, rep, er, he, f⟩ => by
    simp only [ex, Option.bind_eq_bind, Option.bind_eq_some_iff] at he
    obtain ⟨⟨ws, S1⟩, h1, ⟨env2, S2⟩, h2, h3⟩ := he
    cases h3
    refine ⟨env, S, φ, R, ws, S1, rep, er, h1, fun vs R' H' e1 r1 nr => ?_⟩
    obtain ⟨φ', q1, q2, q3, q4⟩ := setWs_ok r1 (er.ext e1 rep) nr (e1.step r1) h2
    match vs, q3, q4 with
    | [v, w], q3, _ => exact ⟨v, w, rfl, f _ _ _ _ q1 q2 q3⟩
theorem s_par3 {i j l : Nat} {x y z : Str} {px py pz pt pos : Pos} {kt : Nat} {k2 : Nat} {pt2 : Pos} {a b c : Expr} (hc : X.calm = true) (hN : X.N.Nodup) (hi : X.N[i]? = some x) (hj : X.N[j]? = some y) (hl' : X.N[l]? = some z) (hij : i ≠ j) (hil : i ≠ l) (hjl : j ≠ l) (hxy : x ≠ y) (hxz : x ≠ z) (hyz : y ≠ z) (hk : X.env.scope.kind = .function) (hx : X.env.scope.names.lookup x = some .local) (hy : X.env.scope.names.lookup y = some .local) (hz : X.env.scope.names.lookup z = some .local)
    (ha : PA X [a, b, c] (tN X.K G ess)) (hl : py.line = px.line) (hl2 : pz.line = px.line) (hs : [a, b, c].all noSt = true) (hf : [a, b, c].all (foldedForSure 8) = false) (hco : [a, b, c].all (constantsAlone 8) = false) : PS X (.Assign [.Tuple [.Name x px, .Name y py, .Name z pz] kt pt] (.Tuple [a, b, c] k2 pt2) pos) (tS X.K G keep (.par [i, j, l] ess)) :=
  (ps_par3 hc hN hi hj hl' hij hil hjl hx hy hz ha (sw_stores3 hk hx hy hz hl hl2 hxy hxz hyz hs hf hco)).imp fun D σ H ⟨env, S, φ, R, o, rep, er, he, f⟩ => by
    simp only [ex, Option.bind_eq_bind, Option.bind_eq_some_iff] at he
    obtain ⟨⟨ws, S1⟩, h1, ⟨env2, S2⟩, h2, h3⟩ := he
    cases h3
    refine ⟨env, S, φ, R, ws, S1, rep, er, h1, fun vs R' H' e1 r1 nr => ?_⟩
    obtain ⟨φ', q1, q2, q3, q4⟩ := setWs_ok r1 (er.ext e1 rep) nr (e1.step r1) h2
    match vs, q3, q4 with
    | [v, w, u], q3, _ => exact ⟨v, w, u, rfl, f _ _ _ _ q1 q2 q3⟩
end VI
set_option Elab.async false
set_option linter.all false
set_option maxRecDepth 100000
set_option maxHeartbeats 1000000
namespace VI
open PySem PySem.Spec PyProof.Rows L2
/-! ### the check of statements -/
def anyO : Str → Bool := fun _ => true
def swB (sc : Scope) (n : Str) (p : Pos) : Expr → Bool
  | .ListComp _ _ scope vp => kindL sc n && (p.line == vp.line) && !(scope.names.any fun (m, k) => m == n && (k == .local || k == .cell))
  | _ => false
def oddC : Expr → Bool
  | .SetComp _ _ _ _ => true
  | .DictComp _ _ _ _ _ => true
  | _ => false
def isNv : E → Bool
  | .nv => true
  | _ => false
def foldT : Expr → Bool
  | .Tuple es _ _ => es.all (foldedForSure 8)
  | _ => true
mutual
def ckS (P : Nm) (N : List Str) : VI.S → Scope → Stmt → Bool
  | .asg t e, sc, st => match st with
    | .Assign [tg] v _ => (match t, tg with
      | .nm i, .Name n p => slotB N i n && locB sc n && !oddC v && ckE P N e sc anyO v
      | .tp ts, .Tuple xs k p => ckT N sc anyO (.tp ts) (.Tuple xs k p) && !isComp v && (foldT v || xs.any (notLocT sc)) && ckE P N e sc anyO v
      | _, _ => false)
    | _ => false
  | .par is es, sc, st => match st with
    | .Assign [.Tuple [.Name x px, .Name y py] _ _] (.Tuple [a, b] _ _) _ => (match is with
      | [i, j] => slotB N i x && slotB N j y && decide (i ≠ j) && decide (x ≠ y) && kindL sc x && kindL sc y && decide (py.line = px.line) && [a, b].all noSt && !([a, b].all (foldedForSure 8)) && !([a, b].all (constantsAlone 8)) && ckEs P N es sc anyO [a, b]
      | _ => false)
    | .Assign [.Tuple [.Name x px, .Name y py, .Name z pz] _ _] (.Tuple [a, b, c] _ _) _ => (match is with
      | [i, j, l] => slotB N i x && slotB N j y && slotB N l z && decide (i ≠ j) && decide (i ≠ l) && decide (j ≠ l) && decide (x ≠ y) && decide (x ≠ z) && decide (y ≠ z) && kindL sc x && kindL sc y && kindL sc z && decide (py.line = px.line) && decide (pz.line = px.line) && [a, b, c].all noSt && !([a, b, c].all (foldedForSure 8)) && !([a, b, c].all (constantsAlone 8)) && ckEs P N es sc anyO [a, b, c]
      | _ => false)
    | _ => false
  | .aug i o e, sc, st => match st with
    | .AugAssign (.Name n _) op v _ => slotB N i n && locB sc n && decide (op = opO o) && ckE P N e sc anyO v
    | _ => false
  | .setix a i e, sc, st => match st with
    | .Assign [.Subscript x y _] v _ => plainX y && !isComp v && ckE P N a sc anyO x && ckE P N i sc anyO y && ckE P N e sc anyO v
    | _ => false
  | .set2 a i b j e, sc, st => match st with
    | .Assign [.Tuple [.Subscript x y p1, .Subscript x2 y2 p2] _ _] v _ => plainX y && plainX y2 && !isComp v && ckE P N a sc anyO x && ckE P N i sc anyO y && ckE P N b sc anyO x2 && ckE P N j sc anyO y2 && ckE P N e sc anyO v
    | _ => false
  | .augix a i o e, sc, st => match st with
    | .AugAssign (.Subscript x y _) op v _ => decide (op = opO o) && plainX y && ckE P N a sc anyO x && ckE P N i sc anyO y && ckE P N e sc anyO v
    | _ => false
  | .ret e, sc, st => match st with
    | .Return (some v) _ => ckE P N e sc anyO v
    | _ => false
  | .retn, sc, st => match st with
    | .Return none _ => true
    | _ => false
  | .ite c a b, sc, st => match st with
    | .If t xs ys _ => ckC P N c sc anyO t && ckSs P N a sc xs && ckSs P N b sc ys
    | _ => false
  | .for_ t it b, sc, st => match st with
    | .For tg i xs [] _ => !isSetX i && ckI P N it sc anyO tg i && ckT N sc anyO t tg && ckSs P N b sc xs
    | _ => false
  | .whl c b, sc, st => match st with
    | .While t xs [] _ => ckC P N c sc anyO t && ckSs P N b sc xs
    | _ => false
  | .brk, sc, st => match st with
    | .Break _ => true
    | _ => false
  | .cnt, sc, st => match st with
    | .Continue _ => true
    | _ => false
  | .pass, sc, st => match st with
    | .Pass _ => true
    | .Expr (.Constant (.str _) _ _) _ => true
    | _ => false
  | .expr e, sc, st => match st with
    | .Expr v _ => !isComp v && ckE P N e sc anyO v
    | _ => false
  | .kill _, _, _ => false
  | .nv, _, _ => true
def ckSs (P : Nm) (N : List Str) : VI.Ss → Scope → List Stmt → Bool
  | .nil, _, xs => match xs with
    | [] => true
    | _ => false
  | .cons s ss, sc, xs => match s with
    | .kill _ => ckSs P N ss sc xs
    | _ => match xs with
      | x :: r => ckS P N s sc x && ckSs P N ss sc r
      | _ => false
end
section
variable {P : Nm} {G : Glob} {N : List Str} {X : Cx} {keep : List Nat} {pos : Pos}
theorem sw_no {v : Expr} {t : Option Expr} {l : Nat} {env : PySem.Env} (h : isComp v = false) : swapsWith v t l env = pure false := by
  cases v <;> first | rfl | cases h
theorem sw_sole {v t : Expr} {l : Nat} {env : PySem.Env} (h : isComp v = false) : swapsWithSole [t] v l env = pure false := by
  unfold swapsWithSole
  exact sw_no h
theorem sw_lc {elt : Expr} {gs : List Comprehension} {scope : Scope} {vp p : Pos} {n : Str} {l : Nat} {env : PySem.Env} : swapsWith (.ListComp elt gs scope vp) (some (.Name n p)) l env = pure (env.blockKind == .function && env.kindOf n == some .local && p.line == vp.line && !(scope.names.any fun (m, k) => m == n && (k == .local || k == .cell))) := rfl
theorem sw_swB {v : Expr} {p : Pos} {n : Str} {l : Nat} {env : PySem.Env} (hk : env.scope.kind = .function) (ho : oddC v = false) : swapsWith v (some (.Name n p)) l env = pure (swB env.scope n p v) := by
  by_cases hc : isComp v = false
  · rw [sw_no hc]
    cases v <;> first | rfl | cases hc
  · cases v with
    | ListComp elt gs scope vp =>
      rw [sw_lc]
      have hb : env.blockKind = .function := by unfold Env.blockKind; rw [hk]; rfl
      have hq : (env.kindOf n == some NameKind.local) = kindL env.scope n := by
        unfold kindL Env.kindOf
        by_cases e : env.scope.names.lookup n = some .local
        · rw [e, decide_eq_true rfl]; rfl
        · rw [decide_eq_false e]
          rw [beq_eq_false_iff_ne]
          exact e
      rw [hb, hq]
      rfl
    | SetComp _ _ _ _ => cases ho
    | DictComp _ _ _ _ _ => cases ho
    | _ => exact absurd rfl hc
theorem s_nv {st : Stmt} : PS X st (tS X.K G keep .nv) := ps_never.imp fun D σ H ⟨env, S, φ, R, o, rep, er, he, f⟩ => by
  simp only [ex] at he; cases he
theorem s_doc1 {x : Str} {j : Nat} {pos' : Pos} : PS X (.Expr (.Constant (.str x) j pos) pos') (tS X.K G keep .pass) := ps_doc.imp fun D σ H ⟨env, S, φ, R, o, rep, er, he, f⟩ => by
  simp only [ex, Option.some.injEq] at he
  subst he
  exact f _ _ _ _ .refl rep er
theorem asg_nv {st : Stmt} {t : T} : PS X st (tS X.K G keep (.asg t .nv)) := ps_never.imp fun D σ H ⟨env, S, φ, R, o, rep, er, he, f⟩ => by
  simp only [ex, ev, Option.bind_eq_bind, Option.bind_none] at he; cases he
/-- name = a term, whatever the term -/
theorem s_name {e : E} {i : Nat} {n : Str} {p : Pos} {v : Expr} {sc : Scope} (ok : CxOk P G N sc anyO X) (h1 : slotB N i n = true) (h2 : locB sc n = true) (ho : oddC v = false) (h : ckE P N e sc anyO v = true) (hfn : X.fn n = true ∨ X.env.scope.names.lookup n = some .local) :
    PS X (.Assign [.Name n p] v pos) (tS X.K G keep (.asg (.nm i) e)) := by
  have hNd : X.N.Nodup := by rw [ok.hN]; exact ok.nd
  have hi : X.N[i]? = some n := by rw [ok.hN]; exact slot_of h1
  have hsw := sw_swB (v := v) (n := n) (p := p) (l := pos.line) (env := X.env) (by rw [ok.hsc]; exact ok.kind) ho
  by_cases hb : swB X.env.scope n p v = true
  · rw [hb] at hsw
    cases v with
    | ListComp el gs scope vp =>
      have hyl : X.env.scope.names.lookup n = some .local := by
        unfold swB kindL at hb
        simp only [Bool.and_eq_true] at hb
        exact of_decide_eq_true hb.1.1
      cases e with
      | nv => exact asg_nv
      | lc elt tg it cd is =>
        simp only [ckE] at h
        split at h
        · rename_i heq
          cases heq
          simp only [Bool.and_eq_true] at h
          obtain ⟨⟨⟨⟨⟨⟨⟨h1, h2⟩, h3⟩, h4⟩, h5⟩, h6⟩, h7⟩, h8⟩ := h
          cases of_decide_eq_true h1
          have hb' := blkOk_by h2
          have := (ps_setLc (spos := pos) (py := p) (g := tG X.K tg) (tt := tCo X.K G cd) (te := tE X.K G elt) ok.calm hNd hi hyl hsw (sndI it sc anyO X _ _ ok h5) (by rw [ok.hN, ok.hsc]; exact hb')
            (fun s H C cl fp => sndT tg _ _ _ _ (ok.blk h2 s H C cl fp) h6) (fun s H C cl fp => sndOc cd _ _ _ _ (ok.blk h2 s H C cl fp) h7) (fun s H C cl fp => sndE elt _ _ _ _ (ok.blk h2 s H C cl fp) h8)
            (isSetX_ok (by simpa using h3)))
          rw [ownL_snd] at this
          exact this.imp (asg_imp (keep := keep) (lc_imp (of_decide_eq_true h4)))
        · cases h
      | lc2 elt tg it cd tg1 it1 cd1 is is1 =>
        simp only [ckE] at h
        split at h
        · rename_i heq
          cases heq
          simp only [Bool.and_eq_true] at h
          obtain ⟨⟨⟨⟨⟨⟨⟨⟨⟨⟨⟨⟨⟨⟨h1, h1b⟩, h2⟩, h3⟩, h3b⟩, h4⟩, h4b⟩, h4c⟩, h5⟩, h6⟩, h7⟩, h8⟩, h9⟩, h10⟩, h11⟩ := h
          cases of_decide_eq_true h1
          cases of_decide_eq_true h1b
          have hb' := blkOk_by h2
          have := (ps_setLc2 (spos := pos) (py := p) (vs1 := is1) (g := tG X.K tg) (tt := tCo X.K G cd) (wi1 := tIt X.K G it1) (g1 := tG X.K tg1) (tt1 := tCo X.K G cd1) (te := tE X.K G elt) ok.calm hNd hi hyl hsw (sndI it sc anyO X _ _ ok h5) (by rw [ok.hN, ok.hsc]; exact hb') (by rw [ownL_snd]; exact of_decide_eq_true h4b)
            (fun s H C cl fp => sndT tg _ _ _ _ (ok.blk h2 s H C cl fp) h6) (fun s H C cl fp => sndOc cd _ _ _ _ (ok.blk h2 s H C cl fp) h7) (fun s H C cl fp => sndI it1 _ _ _ _ _ (ok.blk h2 s H C cl fp) h8)
            (fun s H C cl fp => sndT tg1 _ _ _ _ (ok.blk h2 s H C cl fp) h9) (fun s H C cl fp => sndOc cd1 _ _ _ _ (ok.blk h2 s H C cl fp) h10) (fun s H C cl fp => sndE elt _ _ _ _ (ok.blk h2 s H C cl fp) h11)
            (isSetX_ok (by simpa using h3)) (fun env => isSetX_ok (by simpa using h3b)))
          rw [ownL_snd] at this
          exact this.imp (asg_imp (keep := keep) (lc2_imp (of_decide_eq_true h4) (of_decide_eq_true h4c)))
        · cases h
      | k d => simp only [ckE] at h; cases h
      | cmp o a b => simp only [ckE] at h; cases h
      | cmp2 o o' a b c => simp only [ckE] at h; cases h
      | _ => simp only [ckE] at h; first | cases h | (split at h <;> first | (rename_i heq; cases heq) | cases h)
    | _ => cases hb
  · have hb' : swB X.env.scope n p v = false := by simpa using hb
    rw [hb'] at hsw
    exact s_set hNd hi (by rw [ok.hsc]; exact loc_of h2) (sndE e sc anyO X _ ok h) hsw hfn
theorem ckT_as {xs : List Expr} {sc : Scope} {own : Str → Bool} {t : T} {tg : Expr} {N : List Str} (h : ckT N sc own t tg = true) (env : PySem.Env) : (assignEach [tg] env).map (·.2) = [assign tg env] := by
  have : noSt tg = true := by
    cases tg <;> first | rfl | (cases t <;> simp only [ckT] at h <;> cases h)
  rw [noSt_as this]; rfl
theorem plainX_asg {x y : Expr} {p : Pos} {env : PySem.Env} (h : plainX y = true) (v : Value) : assign (.Subscript x y p) env v = (do
      let ov ← holding [v] (eval x env)
      let iv ← holding [v, ov] (eval y env)
      standAt p
      holding [v, ov, iv] (setItem ov iv v)
      release [v, ov, iv] []) := by
  cases y <;> first | rfl | cases h
theorem sub_as {x y : Expr} {p : Pos} {v : Expr} {env : PySem.Env} : swappedStores [.Subscript x y p] v env = pure none := by
  unfold swappedStores
  cases v <;> rfl
mutual
theorem sndS : ∀ (s : VI.S) (sc : Scope) (X : Cx) (keep : List Nat) (st : Stmt), CxOk P G N sc anyO X → X.fn = anyO → ckS P N s sc st = true → PS X st (tS X.K G keep s)
  | .asg t e, sc, X, keep, st, ok, hf, h => by
    simp only [ckS] at h
    split at h
    · split at h
      · simp only [Bool.and_eq_true, Bool.not_eq_true'] at h
        obtain ⟨⟨⟨h1, h2⟩, h3⟩, h4⟩ := h
        exact s_name ok h1 h2 h3 h4 (.inl (by rw [hf]; rfl))
      · simp only [Bool.and_eq_true, Bool.not_eq_true'] at h
        obtain ⟨⟨⟨h1, h2⟩, h3⟩, h4⟩ := h
        refine s_asg (sndE e sc anyO X _ ok h4) (sndT _ sc anyO X _ ok h1) (sw_sole h2) ?_ (ckT_as (xs := []) h1 _)
        rw [Bool.or_eq_true] at h3
        rcases h3 with h3 | h3
        · exact sw_none (by
            rename_i v _ _ _ _ _ _ _
            cases v <;> first | trivial | exact h3)
        · exact sw_cell (by rw [ok.hsc]; exact h3)
      · cases h
    · cases h
  | .par is es, sc, X, keep, st, ok, hf, h => by
    simp only [ckS] at h
    split at h
    · split at h
      · simp only [Bool.and_eq_true, Bool.not_eq_true'] at h
        obtain ⟨⟨⟨⟨⟨⟨⟨⟨⟨⟨h1, h2⟩, h3⟩, h4⟩, h5⟩, h6⟩, h7⟩, h8⟩, h9⟩, h10⟩, h11⟩ := h
        exact s_par2 ok.calm (by rw [ok.hN]; exact ok.nd) (by rw [ok.hN]; exact slot_of h1) (by rw [ok.hN]; exact slot_of h2) (of_decide_eq_true h3) (of_decide_eq_true h4) (by rw [ok.hsc]; exact ok.kind) (by rw [ok.hsc]; exact of_decide_eq_true h5) (by rw [ok.hsc]; exact of_decide_eq_true h6)
          (sndN es sc anyO X _ ok h8 h11) (of_decide_eq_true h7) h8 h9 h10
      · cases h
    · split at h
      · simp only [Bool.and_eq_true, Bool.not_eq_true'] at h
        obtain ⟨⟨⟨⟨⟨⟨⟨⟨⟨⟨⟨⟨⟨⟨⟨⟨⟨h1, h2⟩, h3⟩, h4⟩, h5⟩, h6⟩, h7⟩, h8⟩, h9⟩, h10⟩, h11⟩, h12⟩, h13⟩, h14⟩, h15⟩, h16⟩, h17⟩, h18⟩ := h
        exact s_par3 ok.calm (by rw [ok.hN]; exact ok.nd) (by rw [ok.hN]; exact slot_of h1) (by rw [ok.hN]; exact slot_of h2) (by rw [ok.hN]; exact slot_of h3) (of_decide_eq_true h4) (of_decide_eq_true h5) (of_decide_eq_true h6) (of_decide_eq_true h7) (of_decide_eq_true h8) (of_decide_eq_true h9) (by rw [ok.hsc]; exact ok.kind) (by rw [ok.hsc]; exact of_decide_eq_true h10) (by rw [ok.hsc]; exact of_decide_eq_true h11) (by rw [ok.hsc]; exact of_decide_eq_true h12)
          (sndN es sc anyO X _ ok h15 h18) (of_decide_eq_true h13) (of_decide_eq_true h14) h15 h16 h17
      · cases h
    · cases h
  | .aug i o e, sc, X, keep, st, ok, hf, h => by
    simp only [ckS] at h
    split at h
    · simp only [Bool.and_eq_true] at h
      obtain ⟨⟨⟨h1, h2⟩, h3⟩, h4⟩ := h
      cases of_decide_eq_true h3
      exact s_aug (by rw [ok.hN]; exact ok.nd) (by rw [ok.hN]; exact slot_of h1) (by rw [ok.hsc]; exact loc_of h2) (sndE e sc anyO X _ ok h4) (.inl (by rw [hf]; rfl))
    · cases h
  | .setix a i e, sc, X, keep, st, ok, hf, h => by
    simp only [ckS] at h
    split at h
    · simp only [Bool.and_eq_true, Bool.not_eq_true'] at h
      obtain ⟨⟨⟨⟨h1, h2⟩, h3⟩, h4⟩, h5⟩ := h
      refine s_setix (sndE a sc anyO X _ ok h3) (sndE i sc anyO X _ ok h4) (sndE e sc anyO X _ ok h5) (fun v => ?_) (sw_sole h2) sub_as
      rename_i y _ _ _
      cases y <;> first | rfl | cases h1
    · cases h
  | .set2 a i b j e, sc, X, keep, st, ok, hf, h => by
    simp only [ckS] at h
    split at h
    · simp only [Bool.and_eq_true, Bool.not_eq_true'] at h
      obtain ⟨⟨⟨⟨⟨⟨⟨h1, h2⟩, h3⟩, h4⟩, h5⟩, h6⟩, h7⟩, h8⟩ := h
      refine s_set2 ok.calm (sndE a sc anyO X _ ok h4) (sndE i sc anyO X _ ok h5) (sndE b sc anyO X _ ok h6) (sndE j sc anyO X _ ok h7) (sndE e sc anyO X _ ok h8) (plainX_asg h1) (plainX_asg h2) (sw_sole h3) (sw_cell rfl)
    · cases h
  | .augix a i o e, sc, X, keep, st, ok, hf, h => by
    simp only [ckS] at h
    split at h
    · simp only [Bool.and_eq_true] at h
      obtain ⟨⟨⟨⟨h1, h2⟩, h3⟩, h4⟩, h5⟩ := h
      cases of_decide_eq_true h1
      refine s_augix (sndE a sc anyO X _ ok h3) (sndE i sc anyO X _ ok h4) (sndE e sc anyO X _ ok h5) (fun ov iv new => ?_)
      rename_i y _ _ _
      cases y <;> first | rfl | cases h2
    · cases h
  | .ret e, sc, X, keep, st, ok, hf, h => by
    simp only [ckS] at h
    split at h
    · exact s_ret (sndE e sc anyO X _ ok h)
    · cases h
  | .retn, sc, X, keep, st, ok, hf, h => by
    simp only [ckS] at h
    split at h
    · exact s_retn
    · cases h
  | .ite c a b, sc, X, keep, st, ok, hf, h => by
    simp only [ckS] at h
    split at h
    · simp only [Bool.and_eq_true] at h
      exact s_ite (sndC c sc anyO X _ ok h.1.1).pt (sndSs a sc X keep _ ok hf h.1.2) (sndSs b sc X keep _ ok hf h.2)
    · cases h
  | .for_ t it b, sc, X, keep, st, ok, hf, h => by
    simp only [ckS] at h
    split at h
    · simp only [Bool.and_eq_true, Bool.not_eq_true'] at h
      obtain ⟨⟨⟨h1, h2⟩, h3⟩, h4⟩ := h
      exact s_for (by rw [ok.xe]; exact .never) ok.calm (sndI it sc anyO X _ _ ok h2) (sndT t sc anyO X _ ok h3) (fun k => sndSs b sc X k _ ok hf h4) (isSetX_ok h1)
    · cases h
  | .whl c b, sc, X, keep, st, ok, hf, h => by
    simp only [ckS] at h
    split at h
    · simp only [Bool.and_eq_true] at h
      exact s_whl (by rw [ok.xe]; exact .never) (sndC c sc anyO X _ ok h.1).pt (sndSs b sc X keep _ ok hf h.2)
    · cases h
  | .brk, sc, X, keep, st, ok, hf, h => by
    simp only [ckS] at h
    split at h
    · exact s_brk
    · cases h
  | .cnt, sc, X, keep, st, ok, hf, h => by
    simp only [ckS] at h
    split at h
    · exact s_cnt
    · cases h
  | .pass, sc, X, keep, st, ok, hf, h => by
    simp only [ckS] at h
    split at h
    · exact s_pass
    · exact s_doc1
    · cases h
  | .expr e, sc, X, keep, st, ok, hf, h => by
    simp only [ckS] at h
    split at h
    · simp only [Bool.and_eq_true, Bool.not_eq_true'] at h
      exact s_expr (sndE e sc anyO X _ ok h.2) (sw_no h.1)
    · cases h
  | .kill _, sc, X, keep, st, ok, hf, h => by cases h
  | .nv, sc, X, keep, st, ok, hf, h => s_nv
theorem sndSs : ∀ (ss : VI.Ss) (sc : Scope) (X : Cx) (keep : List Nat) (xs : List Stmt), CxOk P G N sc anyO X → X.fn = anyO → ckSs P N ss sc xs = true → PSs X xs (tSs X.K G keep ss)
  | .nil, sc, X, keep, xs, ok, hf, h => by
    simp only [ckSs] at h
    split at h
    · exact s_nil
    · cases h
  | .cons s ss, sc, X, keep, xs, ok, hf, h => by
    simp only [ckSs] at h
    split at h
    · exact s_kill (sndSs ss sc X keep _ ok hf h)
    · split at h
      · rw [Bool.and_eq_true] at h
        exact s_cons (sndS s sc X keep _ ok hf h.1) (sndSs ss sc X keep _ ok hf h.2)
      · cases h
theorem sndN : ∀ (es : Es) (sc : Scope) (own : Str → Bool) (X : Cx) (xs : List Expr), CxOk P G N sc own X → xs.all noSt = true → ckEs P N es sc own xs = true → PA X xs (tN X.K G es)
  | .nil, sc, own, X, xs, ok, hs, h => by
    simp only [ckEs] at h
    split at h
    · exact n_nil
    · cases h
  | .cons e es, sc, own, X, xs, ok, hs, h => by
    simp only [ckEs] at h
    split at h
    · rw [List.all_cons, Bool.and_eq_true] at hs
      simp only [Bool.and_eq_true] at h
      exact n_cons (sndE e sc own X _ ok h.1) (sndN es sc own X _ ok hs.2 h.2) (noSt_ev hs.1 _ _)
    · cases h
end
end
end VI
set_option Elab.async false
set_option linter.all false
set_option maxRecDepth 100000
set_option maxHeartbeats 1000000
namespace VI
open PySem PySem.Spec PyProof.Rows L2
section
variable {Pg : Program} {w : World} {K : PySem.W.Frag} {mg : Str → Option Value} {base : Heap} {P : Nm} {G : Glob}
variable {R R' : Addr → Prop} {H H' : Hp} {S S' : Store} {φ φ' : List Addr}
theorem env_start {N : List Str} {vs : List V} {ws : List W} {np nv : Nat} (hl : vs.length = np) (hn : nv = N.length) (hp : Paired (fun v w => WR K R H φ w v ∧ ∀ o, w ≠ .nw o) vs ws) : EnvR K R H φ (L2.start N vs) (ws.map some ++ List.replicate (nv - np) none) := by
  have hlen := pairedLen hp
  refine ⟨?_, fun i u hu => ?_⟩
  · simp [L2.start, ← hlen, hl, hn]
  · by_cases hi : i < ws.length
    · rw [List.getElem?_append_left (by simpa using hi), List.getElem?_map, List.getElem?_eq_getElem hi] at hu
      simp only [Option.map_some, Option.some.injEq] at hu
      subst hu
      have key : ∀ {vs : List V} {ws : List W} {i : Nat} {u : W}, Paired (fun v w => WR K R H φ w v ∧ ∀ o, w ≠ .nw o) vs ws → ws[i]? = some u → ∃ v, vs[i]? = some v ∧ WR K R H φ u v ∧ ∀ o, u ≠ .nw o := by
        intro vs ws i u hp hu
        induction hp generalizing i with
        | nil => simp at hu
        | cons h t ih =>
          cases i with
          | zero => simp at hu; subst hu; exact ⟨_, rfl, h.1, h.2⟩
          | succ i => exact ih (by simpa using hu)
      obtain ⟨v, q1, q2, q3⟩ := key hp (List.getElem?_eq_getElem hi)
      refine ⟨q3, v, ?_, q2⟩
      unfold L2.start
      have hv : i < vs.length := by rw [hlen]; exact hi
      rw [List.getElem?_append_left (by simpa using hv), List.getElem?_map, q1]; rfl
    · rw [List.getElem?_append_right (by simpa using hi)] at hu
      obtain ⟨h1, h2⟩ := List.getElem?_eq_some_iff.mp hu
      simp at h2
theorem Step.pre (s : Step (List.range φ.length) φ R H φ' R' H') : φ'.take φ.length = φ := by
  apply List.ext_getElem?
  intro n
  by_cases hn : n < φ.length
  · rw [List.getElem?_take_of_lt hn]
    exact s.kp n (List.mem_range.mpr hn) hn
  · rw [List.getElem?_eq_none (by rw [List.length_take]; omega), List.getElem?_eq_none (by omega)]
theorem Step.out (s : Step (List.range φ.length) φ R H φ' R' H') (r' : Rep K R' H' S' φ') : Ext φ R H R' H' ∧ Rep K R' H' (S'.take φ.length) φ := by
  refine ⟨⟨s.fr, s.up, s.dn⟩, ?_⟩
  have hp := s.pre
  have hle : φ.length ≤ φ'.length := by
    have := congrArg List.length hp
    rw [List.length_take] at this
    omega
  refine ⟨by rw [List.length_take, ← r'.len]; omega, by rw [← hp]; exact r'.nd.sublist (List.take_sublist _ _), fun a ha => r'.own a (by rw [← hp] at ha; exact List.mem_of_mem_take ha), r'.trk, fun n o a e1 e2 => ?_⟩
  have hn : n < φ.length := (List.getElem?_eq_some_iff.mp e2).1
  rw [List.getElem?_take_of_lt hn] at e1
  refine r'.obj n o a e1 ?_
  rw [← hp, List.getElem?_take_of_lt hn] at e2
  exact e2
theorem def_ok {x : Str} {st : Stmt} {fa : Addr} {fd : FuncData} {N ps : List Str} {k : Nat} {fn : Fn} (F : Fun K x x st fa fd) (sc : FnScope N ps (defScope st)) (hnp : fn.np = ps.length) (hnv : fn.nv = N.length)
    (hck : ckSs P N fn.body (defScope st) (defBody st) = true)
    (fns : ∀ (i : Nat) (x : Str), P.fn[i]? = some x → ∃ np sem fa fd ps, FnOk Pg w K mg base CX0 k fa fd ps (spI K np sem) ∧ mg x = some (.ref fa) ∧ PySem.W.keepIn K (.ref fa) = true ∧ Binds K fd ps [] ∧ ∀ ws S, G.call i ws S = callW np sem ws S)
    (cons : ∀ (i : Nat) (x : Str), P.con[i]? = some x → ∃ d v u, G.con i = some d ∧ mg x = some u ∧ RelV v u ∧ ∀ R H, Dq K R H v d)
    (blt : ∀ x ∈ bNames, mg x = none) : FnOk Pg w K mg base CX0 (k + 1) fa fd ps (spI K fn.np (fnRun G fn)) := by
  refine F.ok sc (fun vs H Q E ⟨R, S, φ, ws, w, S', h1, _⟩ => by rw [h1, hnp]) fun cdv A outer s H vs Q E hr ⟨R, Sc, φ, ws, w', S', hl, rep, hp, hsem, q⟩ => ?_
  refine ⟨tSs K G (List.range Sc.length) fn.body, sndSs (P := P) (G := G) (N := N) fn.body (defScope st) _ (List.range Sc.length) _ ?_ rfl hck, ?_⟩
  · exact { hN := rfl, nd := sc.nd, hsc := rfl, kind := sc.kind, calm := rfl, xe := rfl, un := by have := hr.un; show (A.deeper _).units + 65 < cLine; omega,
            fns := fun i x hx => by
              obtain ⟨np, sem, fa, fd, ps, q1, q2, q3, q4, q5⟩ := fns i x hx
              exact ⟨np, k, sem, fa, fd, ps, q1, hr, q2, q3, q4, q5⟩,
            cons := cons, blt := blt, hfn := fun x _ _ => .inl rfl }
  · unfold fnRun at hsem
    simp only [Option.bind_eq_bind, Option.bind_eq_some_iff] at hsem
    obtain ⟨o, h1, h2⟩ := hsem
    refine ⟨_, Sc, φ, R, o, rep, env_start hl hnv hp, h1, ?_⟩
    rw [← rep.len] at h2 ⊢
    cases o with
    | nx env' S1 =>
      cases h2
      intro σ' φ' R' H' st r' e'
      obtain ⟨q1, q2⟩ := st.out r'
      exact q _ _ _ ⟨q1, q2, .non, fun o e => nomatch e⟩
    | brk env' S1 => cases h2
    | cnt env' S1 => cases h2
    | ret w1 S1 =>
      intro v φ' R' H' st r' hw hf
      obtain ⟨q1, q2⟩ := st.out r'
      have pre := st.pre
      cases w1 with
      | p d =>
        cases h2
        exact q _ _ _ ⟨q1, q2, hw, fun o e => nomatch e⟩
      | loc n =>
        simp only at h2
        obtain ⟨a, ha, rfl⟩ := hw
        split at h2
        · rename_i hn
          cases h2
          refine q _ _ _ ⟨q1, q2, ⟨a, ?_, rfl⟩, fun o e => nomatch e⟩
          rw [← pre, List.getElem?_take_of_lt hn]
          exact ha
        · rename_i hn
          split at h2
          · rename_i ds hS
            cases h2
            have haφ : a ∉ φ := fun z => by
              obtain ⟨m, hm⟩ := List.getElem?_of_mem z
              have hml := (List.getElem?_eq_some_iff.mp hm).1
              rw [← pre, List.getElem?_take_of_lt hml] at hm
              have := nodup_at r'.nd hm ha
              omega
            have hfr : H a = none := (st.ph a (List.mem_of_getElem? ha)).elim (fun z => absurd z haφ) id
            exact q _ _ _ ⟨q1, q2, ⟨a, rfl, r'.own a (List.mem_of_getElem? ha), haφ, r'.obj n _ a hS ha⟩, fun o e b eb => by cases eb; exact hfr⟩
          · cases h2
      | nw o =>
        cases o with
        | no => cases h2
        | pl ds =>
          cases h2
          obtain ⟨a, rfl, z1, z2, z3⟩ := hw
          refine q _ _ _ ⟨q1, q2, ⟨a, rfl, z1, fun z => z2 ?_, z3⟩, fun o e b eb => hf _ rfl b eb⟩
          rw [← pre] at z
          exact List.mem_of_mem_take z
/-- what is to be known of a def -/
structure DefOk (Pg : Program) (K : PySem.W.Frag) (mg : Str → Option Value) (P : Nm) (x : Str) (fn : Fn) : Prop where
  ex : ∃ st N ps fa fd, Fun K x x st fa fd ∧ FnScope N ps (defScope st) ∧ fn.np = ps.length ∧ fn.nv = N.length ∧ ckSs P N fn.body (defScope st) (defBody st) = true ∧ mg x = some (.ref fa) ∧ Binds K fd ps []
theorem callW_none {np : Nat} {ws : List W} {S : Store} : callW np (fun _ _ => none) ws S = none := by
  unfold callW
  simp only [Option.bind_eq_bind]
  cases handIn (locsOf ws []) ws with
  | none => rfl
  | some a =>
    simp only [Option.bind_some]
    cases pick S (locsOf ws []) with
    | none => rfl
    | some b =>
      simp only [Option.bind_some]
      split <;> rfl
theorem prog_ok {prog : Nat → Option Fn} {con : Nat → Option D} (hd : ∀ i x, P.fn[i]? = some x → ∃ fn, prog i = some fn ∧ DefOk Pg K mg P x fn)
    (cons : ∀ (i : Nat) (x : Str), P.con[i]? = some x → ∃ d v u, con i = some d ∧ mg x = some u ∧ RelV v u ∧ ∀ R H, Dq K R H v d) (blt : ∀ x ∈ bNames, mg x = none) :
    ∀ k i x, P.fn[i]? = some x → ∃ np sem fa fd ps, FnOk Pg w K mg base CX0 k fa fd ps (spI K np sem) ∧ mg x = some (.ref fa) ∧ PySem.W.keepIn K (.ref fa) = true ∧ Binds K fd ps [] ∧ ∀ ws S, runF prog con k i ws S = callW np sem ws S
  | 0, i, x, hx => by
    obtain ⟨fn, h1, ⟨st, N, ps, fa, fd, F, sc, hnp, hnv, hck, hm, hb⟩⟩ := hd i x hx
    refine ⟨0, fun _ _ => none, fa, fd, ps, ⟨(fun vs H Q E ⟨R, S, φ, ws, w, S', _, _, _, h, _⟩ => by cases h), (fun A outer s H args us vs Q E _ _ _ _ ⟨R, S, φ, ws, w, S', _, _, _, h, _⟩ => by cases h)⟩, hm, F.kp, hb, fun ws S => ?_⟩
    rw [callW_none]; rfl
  | k + 1, i, x, hx => by
    obtain ⟨fn, h1, ⟨st, N, ps, fa, fd, F, sc, hnp, hnv, hck, hm, hb⟩⟩ := hd i x hx
    refine ⟨fn.np, fnRun ⟨runF prog con k, con⟩ fn, fa, fd, ps, def_ok F sc hnp hnv hck (prog_ok hd cons blt k) cons blt, hm, F.kp, hb, fun ws S => ?_⟩
    simp only [runF, h1]
/-- what is wanted of the law -/
def spLaw (m : Nat) (K : PySem.W.Frag) : Sp := fun vs H Q _ => ∃ (a : Addr) (ns : List Int), vs = [.ref a] ∧ Only H ∧ SqL K H a (ns.map V.int) ∧ ns.length ≤ m ∧ ∀ H', Q (.bl true) H'
theorem dq_script {a : Addr} {ns : List Int} {H : Hp} (h : Only H) (hS : SqL K H a (ns.map V.int)) : Dq K (fun _ => False) H (.ref a) (scr (ns.map .int)) := by
  rcases hS with (hS | ⟨o, hS⟩) | ⟨o, its, n, hS⟩
  · rcases h a with q | ⟨o, xs, q⟩ <;> (rw [q] at hS; cases hS)
  · exact .scr (fun z => z) hS
  · exact .scrK fun _ => .inr ⟨o, its, n, hS⟩
theorem law_ok {prog : Nat → Option Fn} {con : Nat → Option D} {k i m : Nat} {x : Str} {st : Stmt} {fa : Addr} {fd : FuncData} {N ps : List Str} {fn : Fn} (F : Fun K x x st fa fd) (sc : FnScope N ps (defScope st)) (hnp : fn.np = ps.length) (hnv : fn.nv = N.length)
    (hck : ckSs P N fn.body (defScope st) (defBody st) = true) (hd : ∀ i x, P.fn[i]? = some x → ∃ fn, prog i = some fn ∧ DefOk Pg K mg P x fn)
    (cons : ∀ (i : Nat) (x : Str), P.con[i]? = some x → ∃ d v u, con i = some d ∧ mg x = some u ∧ RelV v u ∧ ∀ R H, Dq K R H v d) (blt : ∀ x ∈ bNames, mg x = none) (hi : prog i = some fn)
    (hlaw : ∀ ns : List Int, ns.length ≤ m → ∃ S', runF prog con (k + 1) i [.p (scr (ns.map .int))] [] = some (.p (.bool true), S')) : FnOk Pg w K mg base CX0 (k + 1) fa fd ps (spLaw m K) := by
  refine (def_ok (G := ⟨runF prog con k, con⟩) F sc hnp hnv hck (prog_ok (w := w) (base := base) hd cons blt k) cons blt).imp fun vs H Q E ⟨a, ns, e, hO, hS, hl, hq⟩ => ?_
  subst e
  obtain ⟨S', h⟩ := hlaw ns hl
  simp only [runF, hi] at h
  have rep : Rep K (fun _ => False) H [] [] := ⟨rfl, .nil, (fun a h => by cases h), (fun b h => h.elim), (fun n o a e => by simp at e)⟩
  refine call_ok (ws := [.p (scr (ns.map .int))]) rep (.cons ⟨dq_script hO hS, fun o e => nomatch e⟩ .nil) h fun v R' H' p => ?_
  have hv : Dq K R' H' v (.bool true) := p.val
  cases hv
  exact hq _
end
end VI
set_option Elab.async false
set_option linter.all false
set_option maxRecDepth 100000
set_option maxHeartbeats 4000000
namespace VI
open PySem PySem.Spec PyProof.Rows L2
def topS (i : Nat) : Stmt := PySem.Challenge.pw_shoplands_k58_whole_sorters.main.body.getD i (.Pass ⟨0, 0, 0, 0⟩)
def cP : Nm := ⟨["is_whole", "is_between", "is_pair", "_is_pair_of", "is_sorter", "_sorted_by", "_in_order", "_all_rows", "sorts", "is_sorts", "depth_of", "made_sorter", "_law_cell", "_law_digits", "_law_draw", "_law_like", "_law_whole", "_law_numbers_row", "_law_other", "_law_changed", "_law_right", "_law_run", "_law_bits", "_law_fails", "law"], ["MOST_PLACES", "MOST_PAIRS"]⟩
theorem ck_is_whole : ckSs cP ["thing"] F_is_whole.body (defScope (topS 1)) (defBody (topS 1)) = true := by decide +kernel
theorem sc_is_whole : FnScope ["thing"] ["thing"] (defScope (topS 1)) := ⟨rfl, rfl, rfl, by decide +kernel, rfl, by decide +kernel, by decide +kernel⟩
theorem ck_is_between : ckSs cP ["thing", "least", "most"] (F_is_between 0).body (defScope (topS 2)) (defBody (topS 2)) = true := by decide +kernel
theorem sc_is_between : FnScope ["thing", "least", "most"] ["thing", "least", "most"] (defScope (topS 2)) := ⟨rfl, rfl, rfl, by decide +kernel, rfl, by decide +kernel, by decide +kernel⟩
theorem ck_is_pair : ckSs cP ["thing"] F_is_pair.body (defScope (topS 3)) (defBody (topS 3)) = true := by decide +kernel
theorem sc_is_pair : FnScope ["thing"] ["thing"] (defScope (topS 3)) := ⟨rfl, rfl, rfl, by decide +kernel, rfl, by decide +kernel, by decide +kernel⟩
theorem ck_p_is_pair_of : ckSs cP ["many", "thing"] (F_p_is_pair_of 2 1).body (defScope (topS 7)) (defBody (topS 7)) = true := by decide +kernel
theorem sc_p_is_pair_of : FnScope ["many", "thing"] ["many", "thing"] (defScope (topS 7)) := ⟨rfl, rfl, rfl, by decide +kernel, rfl, by decide +kernel, by decide +kernel⟩
theorem ck_is_sorter : ckSs cP ["thing", "pair"] (F_is_sorter 1 3).body (defScope (topS 8)) (defBody (topS 8)) = true := by decide +kernel
theorem sc_is_sorter : FnScope ["thing", "pair"] ["thing"] (defScope (topS 8)) := ⟨rfl, rfl, rfl, by decide +kernel, rfl, by decide +kernel, by decide +kernel⟩
theorem ck_p_sorted_by : ckSs cP ["sorter", "row", "found", "one", "other"] F_p_sorted_by.body (defScope (topS 9)) (defBody (topS 9)) = true := by decide +kernel
theorem sc_p_sorted_by : FnScope ["sorter", "row", "found", "one", "other"] ["sorter", "row"] (defScope (topS 9)) := ⟨rfl, rfl, rfl, by decide +kernel, rfl, by decide +kernel, by decide +kernel⟩
theorem ck_p_in_order : ckSs cP ["row", "at"] F_p_in_order.body (defScope (topS 10)) (defBody (topS 10)) = true := by decide +kernel
theorem sc_p_in_order : FnScope ["row", "at"] ["row"] (defScope (topS 10)) := ⟨rfl, rfl, rfl, by decide +kernel, rfl, by decide +kernel, by decide +kernel⟩
theorem ck_p_all_rows : ckSs cP ["many", "found", "_", "row", "one"] F_p_all_rows.body (defScope (topS 11)) (defBody (topS 11)) = true := by decide +kernel
theorem sc_p_all_rows : FnScope ["many", "found", "_", "row", "one"] ["many"] (defScope (topS 11)) := ⟨rfl, rfl, rfl, by decide +kernel, rfl, by decide +kernel, by decide +kernel⟩
theorem ck_sorts : ckSs cP ["sorter", "row"] (F_sorts 7 6 5).body (defScope (topS 12)) (defBody (topS 12)) = true := by decide +kernel
theorem sc_sorts : FnScope ["sorter", "row"] ["sorter"] (defScope (topS 12)) := ⟨rfl, rfl, rfl, by decide +kernel, rfl, by decide +kernel, by decide +kernel⟩
theorem ck_is_sorts : ckSs cP ["sorter", "thing", "one"] (F_is_sorts 8 1 6 5).body (defScope (topS 13)) (defBody (topS 13)) = true := by decide +kernel
theorem sc_is_sorts : FnScope ["sorter", "thing", "one"] ["sorter", "thing"] (defScope (topS 13)) := ⟨rfl, rfl, rfl, by decide +kernel, rfl, by decide +kernel, by decide +kernel⟩
theorem ck_depth_of : ckSs cP ["sorter", "turns", "one", "other", "turn"] F_depth_of.body (defScope (topS 14)) (defBody (topS 14)) = true := by decide +kernel
theorem sc_depth_of : FnScope ["sorter", "turns", "one", "other", "turn"] ["sorter"] (defScope (topS 14)) := ⟨rfl, rfl, rfl, by decide +kernel, rfl, by decide +kernel, by decide +kernel⟩
theorem ck_made_sorter : ckSs cP ["many", "pairs", "turn", "at"] F_made_sorter.body (defScope (topS 15)) (defBody (topS 15)) = true := by decide +kernel
theorem sc_made_sorter : FnScope ["many", "pairs", "turn", "at"] ["many"] (defScope (topS 15)) := ⟨rfl, rfl, rfl, by decide +kernel, rfl, by decide +kernel, by decide +kernel⟩
theorem ck_law_cell : ckSs cP ["script", "k"] F_law_cell.body (defScope (topS 17)) (defBody (topS 17)) = true := by decide +kernel
theorem sc_law_cell : FnScope ["script", "k"] ["script", "k"] (defScope (topS 17)) := ⟨rfl, rfl, rfl, by decide +kernel, rfl, by decide +kernel, by decide +kernel⟩
theorem ck_law_digits : ckSs cP ["script", "first", "last", "digits", "k", "cell", "step", "seed"] (F_law_digits 12).body (defScope (topS 18)) (defBody (topS 18)) = true := by decide +kernel
theorem sc_law_digits : FnScope ["script", "first", "last", "digits", "k", "cell", "step", "seed"] ["script", "first", "last"] (defScope (topS 18)) := ⟨rfl, rfl, rfl, by decide +kernel, rfl, by decide +kernel, by decide +kernel⟩
theorem ck_law_draw : ckSs cP ["box", "many", "at"] F_law_draw.body (defScope (topS 19)) (defBody (topS 19)) = true := by decide +kernel
theorem sc_law_draw : FnScope ["box", "many", "at"] ["box", "many"] (defScope (topS 19)) := ⟨rfl, rfl, rfl, by decide +kernel, rfl, by decide +kernel, by decide +kernel⟩
theorem ck_law_like : ckSs cP ["told", "due", "k"] (F_law_like 15).body (defScope (topS 20)) (defBody (topS 20)) = true := by decide +kernel
theorem sc_law_like : FnScope ["told", "due", "k"] ["told", "due"] (defScope (topS 20)) := ⟨rfl, rfl, rfl, by decide +kernel, rfl, by decide +kernel, by decide +kernel⟩
theorem ck_law_whole : ckSs cP ["thing", "low", "high"] F_law_whole.body (defScope (topS 21)) (defBody (topS 21)) = true := by decide +kernel
theorem sc_law_whole : FnScope ["thing", "low", "high"] ["thing", "low", "high"] (defScope (topS 21)) := ⟨rfl, rfl, rfl, by decide +kernel, rfl, by decide +kernel, by decide +kernel⟩
theorem ck_law_numbers_row : ckSs cP ["box", "many", "high", "k"] (F_law_numbers_row 14).body (defScope (topS 22)) (defBody (topS 22)) = true := by decide +kernel
theorem sc_law_numbers_row : FnScope ["box", "many", "high", "k"] ["box", "many", "high"] (defScope (topS 22)) := ⟨rfl, rfl, rfl, by decide +kernel, rfl, by decide +kernel, by decide +kernel⟩
theorem ck_law_other : ckSs cP ["box", "thing", "behind", "k"] (F_law_other 14).body (defScope (topS 23)) (defBody (topS 23)) = true := by decide +kernel
theorem sc_law_other : FnScope ["box", "thing", "behind", "k"] ["box", "thing"] (defScope (topS 23)) := ⟨rfl, rfl, rfl, by decide +kernel, rfl, by decide +kernel, by decide +kernel⟩
theorem ck_law_changed : ckSs cP ["box", "thing", "at"] (F_law_changed 18 14 19).body (defScope (topS 24)) (defBody (topS 24)) = true := by decide +kernel
theorem sc_law_changed : FnScope ["box", "thing", "at"] ["box", "thing"] (defScope (topS 24)) := ⟨rfl, rfl, rfl, by decide +kernel, rfl, by decide +kernel, by decide +kernel⟩
theorem ck_law_right : ckSs cP ["thing", "pair"] (F_law_right 15 16).body (defScope (topS 25)) (defBody (topS 25)) = true := by decide +kernel
theorem sc_law_right : FnScope ["thing", "pair"] ["thing"] (defScope (topS 25)) := ⟨rfl, rfl, rfl, by decide +kernel, rfl, by decide +kernel, by decide +kernel⟩
theorem ck_law_run : ckSs cP ["pairs", "row", "left", "one", "other"] F_law_run.body (defScope (topS 26)) (defBody (topS 26)) = true := by decide +kernel
theorem sc_law_run : FnScope ["pairs", "row", "left", "one", "other"] ["pairs", "row"] (defScope (topS 26)) := ⟨rfl, rfl, rfl, by decide +kernel, rfl, by decide +kernel, by decide +kernel⟩
theorem ck_law_bits : ckSs cP ["many", "found", "k", "row"] F_law_bits.body (defScope (topS 27)) (defBody (topS 27)) = true := by decide +kernel
theorem sc_law_bits : FnScope ["many", "found", "k", "row"] ["many"] (defScope (topS 27)) := ⟨rfl, rfl, rfl, by decide +kernel, rfl, by decide +kernel, by decide +kernel⟩
theorem ck_law_fails : ckSs cP ["sorter", "thing", "one"] (F_law_fails 16 21).body (defScope (topS 28)) (defBody (topS 28)) = true := by decide +kernel
theorem sc_law_fails : FnScope ["sorter", "thing", "one"] ["sorter", "thing"] (defScope (topS 28)) := ⟨rfl, rfl, rfl, by decide +kernel, rfl, by decide +kernel, by decide +kernel⟩
theorem ck_law : ckSs cP ["script", "box", "round_of", "k", "step", "turns", "many", "pairs", "one", "sorter", "made", "told", "wrong", "row", "other", "turn", "thing"] (F_law 13 14 11 8 22 23 15 20 17 21 10 9 19 4).body (defScope (topS 29)) (defBody (topS 29)) = true := by decide +kernel
theorem sc_law : FnScope ["script", "box", "round_of", "k", "step", "turns", "many", "pairs", "one", "sorter", "made", "told", "wrong", "row", "other", "turn", "thing"] ["script"] (defScope (topS 29)) := ⟨rfl, rfl, rfl, by decide +kernel, rfl, by decide +kernel, by decide +kernel⟩
section
variable {P : Program} {w : World} {K : PySem.W.Frag} {mg : Str → Option Value}
/-- what stands at a name -/
structure At (K : PySem.W.Frag) (mg : Str → Option Value) (x : Str) (st : Stmt) : Prop where
  ex : ∃ fa fd, L2.Fun K x x st fa fd ∧ mg x = some (.ref fa) ∧ fd.defaults = .none
theorem defs_ok (h0 : ∃ fa fd, L2.Fun K "is_whole" "is_whole" (topS 1) fa fd ∧ mg "is_whole" = some (.ref fa)) (h1 : ∃ fa fd, L2.Fun K "is_between" "is_between" (topS 2) fa fd ∧ mg "is_between" = some (.ref fa)) (h2 : ∃ fa fd, L2.Fun K "is_pair" "is_pair" (topS 3) fa fd ∧ mg "is_pair" = some (.ref fa)) (h3 : ∃ fa fd, L2.Fun K "_is_pair_of" "_is_pair_of" (topS 7) fa fd ∧ mg "_is_pair_of" = some (.ref fa)) (h4 : ∃ fa fd, L2.Fun K "is_sorter" "is_sorter" (topS 8) fa fd ∧ mg "is_sorter" = some (.ref fa)) (h5 : ∃ fa fd, L2.Fun K "_sorted_by" "_sorted_by" (topS 9) fa fd ∧ mg "_sorted_by" = some (.ref fa)) (h6 : ∃ fa fd, L2.Fun K "_in_order" "_in_order" (topS 10) fa fd ∧ mg "_in_order" = some (.ref fa)) (h7 : ∃ fa fd, L2.Fun K "_all_rows" "_all_rows" (topS 11) fa fd ∧ mg "_all_rows" = some (.ref fa)) (h8 : ∃ fa fd, L2.Fun K "sorts" "sorts" (topS 12) fa fd ∧ mg "sorts" = some (.ref fa)) (h9 : ∃ fa fd, L2.Fun K "is_sorts" "is_sorts" (topS 13) fa fd ∧ mg "is_sorts" = some (.ref fa)) (h10 : ∃ fa fd, L2.Fun K "depth_of" "depth_of" (topS 14) fa fd ∧ mg "depth_of" = some (.ref fa)) (h11 : ∃ fa fd, L2.Fun K "made_sorter" "made_sorter" (topS 15) fa fd ∧ mg "made_sorter" = some (.ref fa)) (h12 : ∃ fa fd, L2.Fun K "_law_cell" "_law_cell" (topS 17) fa fd ∧ mg "_law_cell" = some (.ref fa)) (h13 : ∃ fa fd, L2.Fun K "_law_digits" "_law_digits" (topS 18) fa fd ∧ mg "_law_digits" = some (.ref fa)) (h14 : ∃ fa fd, L2.Fun K "_law_draw" "_law_draw" (topS 19) fa fd ∧ mg "_law_draw" = some (.ref fa)) (h15 : ∃ fa fd, L2.Fun K "_law_like" "_law_like" (topS 20) fa fd ∧ mg "_law_like" = some (.ref fa)) (h16 : ∃ fa fd, L2.Fun K "_law_whole" "_law_whole" (topS 21) fa fd ∧ mg "_law_whole" = some (.ref fa)) (h17 : ∃ fa fd, L2.Fun K "_law_numbers_row" "_law_numbers_row" (topS 22) fa fd ∧ mg "_law_numbers_row" = some (.ref fa)) (h18 : ∃ fa fd, L2.Fun K "_law_other" "_law_other" (topS 23) fa fd ∧ mg "_law_other" = some (.ref fa)) (h19 : ∃ fa fd, L2.Fun K "_law_changed" "_law_changed" (topS 24) fa fd ∧ mg "_law_changed" = some (.ref fa)) (h20 : ∃ fa fd, L2.Fun K "_law_right" "_law_right" (topS 25) fa fd ∧ mg "_law_right" = some (.ref fa)) (h21 : ∃ fa fd, L2.Fun K "_law_run" "_law_run" (topS 26) fa fd ∧ mg "_law_run" = some (.ref fa)) (h22 : ∃ fa fd, L2.Fun K "_law_bits" "_law_bits" (topS 27) fa fd ∧ mg "_law_bits" = some (.ref fa)) (h23 : ∃ fa fd, L2.Fun K "_law_fails" "_law_fails" (topS 28) fa fd ∧ mg "_law_fails" = some (.ref fa)) (h24 : ∃ fa fd, L2.Fun K "law" "law" (topS 29) fa fd ∧ mg "law" = some (.ref fa)) :
    ∀ i x, cP.fn[i]? = some x → ∃ fn, cProg i = some fn ∧ DefOk P K mg cP x fn := by
  intro i x hx
  match i, hx with
  | 0, hx =>
    cases hx
    obtain ⟨fa, fd, F, m⟩ := h0
    exact ⟨_, rfl, ⟨_, _, _, fa, fd, F, sc_is_whole, rfl, rfl, ck_is_whole, m, F.binds fun _ _ _ _ _ _ us hl => match us, hl with | [_], _ => rfl⟩⟩
  | 1, hx =>
    cases hx
    obtain ⟨fa, fd, F, m⟩ := h1
    exact ⟨_, rfl, ⟨_, _, _, fa, fd, F, sc_is_between, rfl, rfl, ck_is_between, m, F.binds fun _ _ _ _ _ _ us hl => match us, hl with | [_, _, _], _ => rfl⟩⟩
  | 2, hx =>
    cases hx
    obtain ⟨fa, fd, F, m⟩ := h2
    exact ⟨_, rfl, ⟨_, _, _, fa, fd, F, sc_is_pair, rfl, rfl, ck_is_pair, m, F.binds fun _ _ _ _ _ _ us hl => match us, hl with | [_], _ => rfl⟩⟩
  | 3, hx =>
    cases hx
    obtain ⟨fa, fd, F, m⟩ := h3
    exact ⟨_, rfl, ⟨_, _, _, fa, fd, F, sc_p_is_pair_of, rfl, rfl, ck_p_is_pair_of, m, F.binds fun _ _ _ _ _ _ us hl => match us, hl with | [_, _], _ => rfl⟩⟩
  | 4, hx =>
    cases hx
    obtain ⟨fa, fd, F, m⟩ := h4
    exact ⟨_, rfl, ⟨_, _, _, fa, fd, F, sc_is_sorter, rfl, rfl, ck_is_sorter, m, F.binds fun _ _ _ _ _ _ us hl => match us, hl with | [_], _ => rfl⟩⟩
  | 5, hx =>
    cases hx
    obtain ⟨fa, fd, F, m⟩ := h5
    exact ⟨_, rfl, ⟨_, _, _, fa, fd, F, sc_p_sorted_by, rfl, rfl, ck_p_sorted_by, m, F.binds fun _ _ _ _ _ _ us hl => match us, hl with | [_, _], _ => rfl⟩⟩
  | 6, hx =>
    cases hx
    obtain ⟨fa, fd, F, m⟩ := h6
    exact ⟨_, rfl, ⟨_, _, _, fa, fd, F, sc_p_in_order, rfl, rfl, ck_p_in_order, m, F.binds fun _ _ _ _ _ _ us hl => match us, hl with | [_], _ => rfl⟩⟩
  | 7, hx =>
    cases hx
    obtain ⟨fa, fd, F, m⟩ := h7
    exact ⟨_, rfl, ⟨_, _, _, fa, fd, F, sc_p_all_rows, rfl, rfl, ck_p_all_rows, m, F.binds fun _ _ _ _ _ _ us hl => match us, hl with | [_], _ => rfl⟩⟩
  | 8, hx =>
    cases hx
    obtain ⟨fa, fd, F, m⟩ := h8
    exact ⟨_, rfl, ⟨_, _, _, fa, fd, F, sc_sorts, rfl, rfl, ck_sorts, m, F.binds fun _ _ _ _ _ _ us hl => match us, hl with | [_], _ => rfl⟩⟩
  | 9, hx =>
    cases hx
    obtain ⟨fa, fd, F, m⟩ := h9
    exact ⟨_, rfl, ⟨_, _, _, fa, fd, F, sc_is_sorts, rfl, rfl, ck_is_sorts, m, F.binds fun _ _ _ _ _ _ us hl => match us, hl with | [_, _], _ => rfl⟩⟩
  | 10, hx =>
    cases hx
    obtain ⟨fa, fd, F, m⟩ := h10
    exact ⟨_, rfl, ⟨_, _, _, fa, fd, F, sc_depth_of, rfl, rfl, ck_depth_of, m, F.binds fun _ _ _ _ _ _ us hl => match us, hl with | [_], _ => rfl⟩⟩
  | 11, hx =>
    cases hx
    obtain ⟨fa, fd, F, m⟩ := h11
    exact ⟨_, rfl, ⟨_, _, _, fa, fd, F, sc_made_sorter, rfl, rfl, ck_made_sorter, m, F.binds fun _ _ _ _ _ _ us hl => match us, hl with | [_], _ => rfl⟩⟩
  | 12, hx =>
    cases hx
    obtain ⟨fa, fd, F, m⟩ := h12
    exact ⟨_, rfl, ⟨_, _, _, fa, fd, F, sc_law_cell, rfl, rfl, ck_law_cell, m, F.binds fun _ _ _ _ _ _ us hl => match us, hl with | [_, _], _ => rfl⟩⟩
  | 13, hx =>
    cases hx
    obtain ⟨fa, fd, F, m⟩ := h13
    exact ⟨_, rfl, ⟨_, _, _, fa, fd, F, sc_law_digits, rfl, rfl, ck_law_digits, m, F.binds fun _ _ _ _ _ _ us hl => match us, hl with | [_, _, _], _ => rfl⟩⟩
  | 14, hx =>
    cases hx
    obtain ⟨fa, fd, F, m⟩ := h14
    exact ⟨_, rfl, ⟨_, _, _, fa, fd, F, sc_law_draw, rfl, rfl, ck_law_draw, m, F.binds fun _ _ _ _ _ _ us hl => match us, hl with | [_, _], _ => rfl⟩⟩
  | 15, hx =>
    cases hx
    obtain ⟨fa, fd, F, m⟩ := h15
    exact ⟨_, rfl, ⟨_, _, _, fa, fd, F, sc_law_like, rfl, rfl, ck_law_like, m, F.binds fun _ _ _ _ _ _ us hl => match us, hl with | [_, _], _ => rfl⟩⟩
  | 16, hx =>
    cases hx
    obtain ⟨fa, fd, F, m⟩ := h16
    exact ⟨_, rfl, ⟨_, _, _, fa, fd, F, sc_law_whole, rfl, rfl, ck_law_whole, m, F.binds fun _ _ _ _ _ _ us hl => match us, hl with | [_, _, _], _ => rfl⟩⟩
  | 17, hx =>
    cases hx
    obtain ⟨fa, fd, F, m⟩ := h17
    exact ⟨_, rfl, ⟨_, _, _, fa, fd, F, sc_law_numbers_row, rfl, rfl, ck_law_numbers_row, m, F.binds fun _ _ _ _ _ _ us hl => match us, hl with | [_, _, _], _ => rfl⟩⟩
  | 18, hx =>
    cases hx
    obtain ⟨fa, fd, F, m⟩ := h18
    exact ⟨_, rfl, ⟨_, _, _, fa, fd, F, sc_law_other, rfl, rfl, ck_law_other, m, F.binds fun _ _ _ _ _ _ us hl => match us, hl with | [_, _], _ => rfl⟩⟩
  | 19, hx =>
    cases hx
    obtain ⟨fa, fd, F, m⟩ := h19
    exact ⟨_, rfl, ⟨_, _, _, fa, fd, F, sc_law_changed, rfl, rfl, ck_law_changed, m, F.binds fun _ _ _ _ _ _ us hl => match us, hl with | [_, _], _ => rfl⟩⟩
  | 20, hx =>
    cases hx
    obtain ⟨fa, fd, F, m⟩ := h20
    exact ⟨_, rfl, ⟨_, _, _, fa, fd, F, sc_law_right, rfl, rfl, ck_law_right, m, F.binds fun _ _ _ _ _ _ us hl => match us, hl with | [_], _ => rfl⟩⟩
  | 21, hx =>
    cases hx
    obtain ⟨fa, fd, F, m⟩ := h21
    exact ⟨_, rfl, ⟨_, _, _, fa, fd, F, sc_law_run, rfl, rfl, ck_law_run, m, F.binds fun _ _ _ _ _ _ us hl => match us, hl with | [_, _], _ => rfl⟩⟩
  | 22, hx =>
    cases hx
    obtain ⟨fa, fd, F, m⟩ := h22
    exact ⟨_, rfl, ⟨_, _, _, fa, fd, F, sc_law_bits, rfl, rfl, ck_law_bits, m, F.binds fun _ _ _ _ _ _ us hl => match us, hl with | [_], _ => rfl⟩⟩
  | 23, hx =>
    cases hx
    obtain ⟨fa, fd, F, m⟩ := h23
    exact ⟨_, rfl, ⟨_, _, _, fa, fd, F, sc_law_fails, rfl, rfl, ck_law_fails, m, F.binds fun _ _ _ _ _ _ us hl => match us, hl with | [_, _], _ => rfl⟩⟩
  | 24, hx =>
    cases hx
    obtain ⟨fa, fd, F, m⟩ := h24
    exact ⟨_, rfl, ⟨_, _, _, fa, fd, F, sc_law, rfl, rfl, ck_law, m, F.binds fun _ _ _ _ _ _ us hl => match us, hl with | [_], _ => rfl⟩⟩
  | n + 25, hx => exact absurd hx (by intro h; cases h)
theorem all_mk {l : PySem.W.OpenLaw} {h : Heap} {fa : Addr} (X : K.In h) (G : h.Ns mainGlobals mg) (hfa : mg "law" = some (.ref fa))
    {f0 f1 f2 f3 f4 f5 f6 f7 f8 f9 f10 f11 f12 f13 f14 f15 f16 f17 f18 f19 f20 f21 f22 f23 f24 : Addr} {od0 an0 od1 an1 od2 an2 od3 an3 od4 an4 od5 an5 od6 an6 od7 an7 od8 an8 od9 an9 od10 an10 od11 an11 od12 an12 od13 an13 od14 an14 od15 an15 od16 an16 od17 an17 od18 an18 od19 an19 od20 an20 od21 an21 od22 an22 od23 an23 od24 an24 : Option Addr} {sl0 sl1 sl2 sl3 sl4 sl5 sl6 sl7 sl8 sl9 sl10 sl11 sl12 sl13 sl14 sl15 sl16 sl17 sl18 sl19 sl20 sl21 sl22 sl23 sl24 : Array (Option Value)} {oc0 kV0 dc0 pm0 cd0 ct0 oc1 kV1 dc1 pm1 cd1 ct1 oc2 kV2 dc2 pm2 cd2 ct2 oc3 kV3 dc3 pm3 cd3 ct3 oc4 kV4 dc4 pm4 cd4 ct4 oc5 kV5 dc5 pm5 cd5 ct5 oc6 kV6 dc6 pm6 cd6 ct6 oc7 kV7 dc7 pm7 cd7 ct7 oc8 kV8 dc8 pm8 cd8 ct8 oc9 kV9 dc9 pm9 cd9 ct9 oc10 kV10 dc10 pm10 cd10 ct10 oc11 kV11 dc11 pm11 cd11 ct11 oc12 kV12 dc12 pm12 cd12 ct12 oc13 kV13 dc13 pm13 cd13 ct13 oc14 kV14 dc14 pm14 cd14 ct14 oc15 kV15 dc15 pm15 cd15 ct15 oc16 kV16 dc16 pm16 cd16 ct16 oc17 kV17 dc17 pm17 cd17 ct17 oc18 kV18 dc18 pm18 cd18 ct18 oc19 kV19 dc19 pm19 cd19 ct19 oc20 kV20 dc20 pm20 cd20 ct20 oc21 kV21 dc21 pm21 cd21 ct21 oc22 kV22 dc22 pm22 cd22 ct22 oc23 kV23 dc23 pm23 cd23 ct23 oc24 kV24 dc24 pm24 cd24 ct24 : Value}
    (a0 : PySem.W.nsIn K mainGlobals "is_whole" = some (some (.ref f0))) (l0 : K.lookup f0 = some ⟨oc0, od0, .func (PySem.W.fnOf "is_whole" "is_whole" (defArgs (topS 1)) (defBody (topS 1)) (defScope (topS 1)) .none kV0 dc0 pm0 an0 cd0 ct0), sl0⟩) (c0 : PySem.W.codeIn K cd0 "is_whole" = true) (k0 : PySem.W.keepIn K (.ref f0) = true)
    (a1 : PySem.W.nsIn K mainGlobals "is_between" = some (some (.ref f1))) (l1 : K.lookup f1 = some ⟨oc1, od1, .func (PySem.W.fnOf "is_between" "is_between" (defArgs (topS 2)) (defBody (topS 2)) (defScope (topS 2)) .none kV1 dc1 pm1 an1 cd1 ct1), sl1⟩) (c1 : PySem.W.codeIn K cd1 "is_between" = true) (k1 : PySem.W.keepIn K (.ref f1) = true)
    (a2 : PySem.W.nsIn K mainGlobals "is_pair" = some (some (.ref f2))) (l2 : K.lookup f2 = some ⟨oc2, od2, .func (PySem.W.fnOf "is_pair" "is_pair" (defArgs (topS 3)) (defBody (topS 3)) (defScope (topS 3)) .none kV2 dc2 pm2 an2 cd2 ct2), sl2⟩) (c2 : PySem.W.codeIn K cd2 "is_pair" = true) (k2 : PySem.W.keepIn K (.ref f2) = true)
    (a3 : PySem.W.nsIn K mainGlobals "_is_pair_of" = some (some (.ref f3))) (l3 : K.lookup f3 = some ⟨oc3, od3, .func (PySem.W.fnOf "_is_pair_of" "_is_pair_of" (defArgs (topS 7)) (defBody (topS 7)) (defScope (topS 7)) .none kV3 dc3 pm3 an3 cd3 ct3), sl3⟩) (c3 : PySem.W.codeIn K cd3 "_is_pair_of" = true) (k3 : PySem.W.keepIn K (.ref f3) = true)
    (a4 : PySem.W.nsIn K mainGlobals "is_sorter" = some (some (.ref f4))) (l4 : K.lookup f4 = some ⟨oc4, od4, .func (PySem.W.fnOf "is_sorter" "is_sorter" (defArgs (topS 8)) (defBody (topS 8)) (defScope (topS 8)) .none kV4 dc4 pm4 an4 cd4 ct4), sl4⟩) (c4 : PySem.W.codeIn K cd4 "is_sorter" = true) (k4 : PySem.W.keepIn K (.ref f4) = true)
    (a5 : PySem.W.nsIn K mainGlobals "_sorted_by" = some (some (.ref f5))) (l5 : K.lookup f5 = some ⟨oc5, od5, .func (PySem.W.fnOf "_sorted_by" "_sorted_by" (defArgs (topS 9)) (defBody (topS 9)) (defScope (topS 9)) .none kV5 dc5 pm5 an5 cd5 ct5), sl5⟩) (c5 : PySem.W.codeIn K cd5 "_sorted_by" = true) (k5 : PySem.W.keepIn K (.ref f5) = true)
    (a6 : PySem.W.nsIn K mainGlobals "_in_order" = some (some (.ref f6))) (l6 : K.lookup f6 = some ⟨oc6, od6, .func (PySem.W.fnOf "_in_order" "_in_order" (defArgs (topS 10)) (defBody (topS 10)) (defScope (topS 10)) .none kV6 dc6 pm6 an6 cd6 ct6), sl6⟩) (c6 : PySem.W.codeIn K cd6 "_in_order" = true) (k6 : PySem.W.keepIn K (.ref f6) = true)
    (a7 : PySem.W.nsIn K mainGlobals "_all_rows" = some (some (.ref f7))) (l7 : K.lookup f7 = some ⟨oc7, od7, .func (PySem.W.fnOf "_all_rows" "_all_rows" (defArgs (topS 11)) (defBody (topS 11)) (defScope (topS 11)) .none kV7 dc7 pm7 an7 cd7 ct7), sl7⟩) (c7 : PySem.W.codeIn K cd7 "_all_rows" = true) (k7 : PySem.W.keepIn K (.ref f7) = true)
    (a8 : PySem.W.nsIn K mainGlobals "sorts" = some (some (.ref f8))) (l8 : K.lookup f8 = some ⟨oc8, od8, .func (PySem.W.fnOf "sorts" "sorts" (defArgs (topS 12)) (defBody (topS 12)) (defScope (topS 12)) .none kV8 dc8 pm8 an8 cd8 ct8), sl8⟩) (c8 : PySem.W.codeIn K cd8 "sorts" = true) (k8 : PySem.W.keepIn K (.ref f8) = true)
    (a9 : PySem.W.nsIn K mainGlobals "is_sorts" = some (some (.ref f9))) (l9 : K.lookup f9 = some ⟨oc9, od9, .func (PySem.W.fnOf "is_sorts" "is_sorts" (defArgs (topS 13)) (defBody (topS 13)) (defScope (topS 13)) .none kV9 dc9 pm9 an9 cd9 ct9), sl9⟩) (c9 : PySem.W.codeIn K cd9 "is_sorts" = true) (k9 : PySem.W.keepIn K (.ref f9) = true)
    (a10 : PySem.W.nsIn K mainGlobals "depth_of" = some (some (.ref f10))) (l10 : K.lookup f10 = some ⟨oc10, od10, .func (PySem.W.fnOf "depth_of" "depth_of" (defArgs (topS 14)) (defBody (topS 14)) (defScope (topS 14)) .none kV10 dc10 pm10 an10 cd10 ct10), sl10⟩) (c10 : PySem.W.codeIn K cd10 "depth_of" = true) (k10 : PySem.W.keepIn K (.ref f10) = true)
    (a11 : PySem.W.nsIn K mainGlobals "made_sorter" = some (some (.ref f11))) (l11 : K.lookup f11 = some ⟨oc11, od11, .func (PySem.W.fnOf "made_sorter" "made_sorter" (defArgs (topS 15)) (defBody (topS 15)) (defScope (topS 15)) .none kV11 dc11 pm11 an11 cd11 ct11), sl11⟩) (c11 : PySem.W.codeIn K cd11 "made_sorter" = true) (k11 : PySem.W.keepIn K (.ref f11) = true)
    (a12 : PySem.W.nsIn K mainGlobals "_law_cell" = some (some (.ref f12))) (l12 : K.lookup f12 = some ⟨oc12, od12, .func (PySem.W.fnOf "_law_cell" "_law_cell" (defArgs (topS 17)) (defBody (topS 17)) (defScope (topS 17)) .none kV12 dc12 pm12 an12 cd12 ct12), sl12⟩) (c12 : PySem.W.codeIn K cd12 "_law_cell" = true) (k12 : PySem.W.keepIn K (.ref f12) = true)
    (a13 : PySem.W.nsIn K mainGlobals "_law_digits" = some (some (.ref f13))) (l13 : K.lookup f13 = some ⟨oc13, od13, .func (PySem.W.fnOf "_law_digits" "_law_digits" (defArgs (topS 18)) (defBody (topS 18)) (defScope (topS 18)) .none kV13 dc13 pm13 an13 cd13 ct13), sl13⟩) (c13 : PySem.W.codeIn K cd13 "_law_digits" = true) (k13 : PySem.W.keepIn K (.ref f13) = true)
    (a14 : PySem.W.nsIn K mainGlobals "_law_draw" = some (some (.ref f14))) (l14 : K.lookup f14 = some ⟨oc14, od14, .func (PySem.W.fnOf "_law_draw" "_law_draw" (defArgs (topS 19)) (defBody (topS 19)) (defScope (topS 19)) .none kV14 dc14 pm14 an14 cd14 ct14), sl14⟩) (c14 : PySem.W.codeIn K cd14 "_law_draw" = true) (k14 : PySem.W.keepIn K (.ref f14) = true)
    (a15 : PySem.W.nsIn K mainGlobals "_law_like" = some (some (.ref f15))) (l15 : K.lookup f15 = some ⟨oc15, od15, .func (PySem.W.fnOf "_law_like" "_law_like" (defArgs (topS 20)) (defBody (topS 20)) (defScope (topS 20)) .none kV15 dc15 pm15 an15 cd15 ct15), sl15⟩) (c15 : PySem.W.codeIn K cd15 "_law_like" = true) (k15 : PySem.W.keepIn K (.ref f15) = true)
    (a16 : PySem.W.nsIn K mainGlobals "_law_whole" = some (some (.ref f16))) (l16 : K.lookup f16 = some ⟨oc16, od16, .func (PySem.W.fnOf "_law_whole" "_law_whole" (defArgs (topS 21)) (defBody (topS 21)) (defScope (topS 21)) .none kV16 dc16 pm16 an16 cd16 ct16), sl16⟩) (c16 : PySem.W.codeIn K cd16 "_law_whole" = true) (k16 : PySem.W.keepIn K (.ref f16) = true)
    (a17 : PySem.W.nsIn K mainGlobals "_law_numbers_row" = some (some (.ref f17))) (l17 : K.lookup f17 = some ⟨oc17, od17, .func (PySem.W.fnOf "_law_numbers_row" "_law_numbers_row" (defArgs (topS 22)) (defBody (topS 22)) (defScope (topS 22)) .none kV17 dc17 pm17 an17 cd17 ct17), sl17⟩) (c17 : PySem.W.codeIn K cd17 "_law_numbers_row" = true) (k17 : PySem.W.keepIn K (.ref f17) = true)
    (a18 : PySem.W.nsIn K mainGlobals "_law_other" = some (some (.ref f18))) (l18 : K.lookup f18 = some ⟨oc18, od18, .func (PySem.W.fnOf "_law_other" "_law_other" (defArgs (topS 23)) (defBody (topS 23)) (defScope (topS 23)) .none kV18 dc18 pm18 an18 cd18 ct18), sl18⟩) (c18 : PySem.W.codeIn K cd18 "_law_other" = true) (k18 : PySem.W.keepIn K (.ref f18) = true)
    (a19 : PySem.W.nsIn K mainGlobals "_law_changed" = some (some (.ref f19))) (l19 : K.lookup f19 = some ⟨oc19, od19, .func (PySem.W.fnOf "_law_changed" "_law_changed" (defArgs (topS 24)) (defBody (topS 24)) (defScope (topS 24)) .none kV19 dc19 pm19 an19 cd19 ct19), sl19⟩) (c19 : PySem.W.codeIn K cd19 "_law_changed" = true) (k19 : PySem.W.keepIn K (.ref f19) = true)
    (a20 : PySem.W.nsIn K mainGlobals "_law_right" = some (some (.ref f20))) (l20 : K.lookup f20 = some ⟨oc20, od20, .func (PySem.W.fnOf "_law_right" "_law_right" (defArgs (topS 25)) (defBody (topS 25)) (defScope (topS 25)) .none kV20 dc20 pm20 an20 cd20 ct20), sl20⟩) (c20 : PySem.W.codeIn K cd20 "_law_right" = true) (k20 : PySem.W.keepIn K (.ref f20) = true)
    (a21 : PySem.W.nsIn K mainGlobals "_law_run" = some (some (.ref f21))) (l21 : K.lookup f21 = some ⟨oc21, od21, .func (PySem.W.fnOf "_law_run" "_law_run" (defArgs (topS 26)) (defBody (topS 26)) (defScope (topS 26)) .none kV21 dc21 pm21 an21 cd21 ct21), sl21⟩) (c21 : PySem.W.codeIn K cd21 "_law_run" = true) (k21 : PySem.W.keepIn K (.ref f21) = true)
    (a22 : PySem.W.nsIn K mainGlobals "_law_bits" = some (some (.ref f22))) (l22 : K.lookup f22 = some ⟨oc22, od22, .func (PySem.W.fnOf "_law_bits" "_law_bits" (defArgs (topS 27)) (defBody (topS 27)) (defScope (topS 27)) .none kV22 dc22 pm22 an22 cd22 ct22), sl22⟩) (c22 : PySem.W.codeIn K cd22 "_law_bits" = true) (k22 : PySem.W.keepIn K (.ref f22) = true)
    (a23 : PySem.W.nsIn K mainGlobals "_law_fails" = some (some (.ref f23))) (l23 : K.lookup f23 = some ⟨oc23, od23, .func (PySem.W.fnOf "_law_fails" "_law_fails" (defArgs (topS 28)) (defBody (topS 28)) (defScope (topS 28)) .none kV23 dc23 pm23 an23 cd23 ct23), sl23⟩) (c23 : PySem.W.codeIn K cd23 "_law_fails" = true) (k23 : PySem.W.keepIn K (.ref f23) = true)
    (a24 : PySem.W.nsIn K mainGlobals "law" = some (some (.ref f24))) (l24 : K.lookup f24 = some ⟨oc24, od24, .func (PySem.W.fnOf "law" "law" (defArgs (topS 29)) (defBody (topS 29)) (defScope (topS 29)) .none kV24 dc24 pm24 an24 cd24 ct24), sl24⟩) (c24 : PySem.W.codeIn K cd24 "law" = true) (k24 : PySem.W.keepIn K (.ref f24) = true)
    (z0 : PySem.W.nsIn K mainGlobals "len" = some none) (z1 : PySem.W.nsIn K mainGlobals "sum" = some none) (z2 : PySem.W.nsIn K mainGlobals "max" = some none) (z3 : PySem.W.nsIn K mainGlobals "min" = some none) (z4 : PySem.W.nsIn K mainGlobals "abs" = some none) (z5 : PySem.W.nsIn K mainGlobals "int" = some none) (z6 : PySem.W.nsIn K mainGlobals "str" = some none) (z7 : PySem.W.nsIn K mainGlobals "list" = some none) (z8 : PySem.W.nsIn K mainGlobals "tuple" = some none) (z9 : PySem.W.nsIn K mainGlobals "sorted" = some none) (z10 : PySem.W.nsIn K mainGlobals "all" = some none) (z11 : PySem.W.nsIn K mainGlobals "any" = some none) (z12 : PySem.W.nsIn K mainGlobals "isinstance" = some none) (z13 : PySem.W.nsIn K mainGlobals "bool" = some none) (z14 : PySem.W.nsIn K mainGlobals "range" = some none) (z15 : PySem.W.nsIn K mainGlobals "enumerate" = some none) (z16 : PySem.W.nsIn K mainGlobals "zip" = some none)
    {tk0 : Tok} (g0 : PySem.W.nsIn K mainGlobals "MOST_PLACES" = some (some (.int 8 tk0)))
    {tk1 : Tok} (g1 : PySem.W.nsIn K mainGlobals "MOST_PAIRS" = some (some (.int 40 tk1)))
    (hlaw : ∀ ns : List Int, ns.length ≤ 63 → ∃ S', runF cProg cCon (99 + 1) 24 [.p (scr (ns.map .int))] [] = some (.p (.bool true), S')) :
    ∃ fd : FuncData, (∀ (s : Shared) (v : Value), BindsTo s fd ⟨[v], []⟩ [("script", v)]) ∧ ∀ base : Heap, K.In base → base.Ns mainGlobals mg → FnOk l.prog w K mg base CX0 (99 + 1) fa fd ["script"] (spLaw 63 K) := by
  have zs : ∀ x ∈ bNames, PySem.W.nsIn K mainGlobals x = some none := fun x hx => by
    simp only [bNames, List.mem_cons, List.not_mem_nil, or_false] at hx
    rcases hx with rfl | rfl | rfl | rfl | rfl | rfl | rfl | rfl | rfl | rfl | rfl | rfl | rfl | rfl | rfl | rfl | rfl <;> assumption
  have e := hfa.symm.trans (PySem.W.mg_of X G a24)
  cases e
  have F0 := fun_mk (st := topS 1) l0 c0 k0
  have F1 := fun_mk (st := topS 2) l1 c1 k1
  have F2 := fun_mk (st := topS 3) l2 c2 k2
  have F3 := fun_mk (st := topS 7) l3 c3 k3
  have F4 := fun_mk (st := topS 8) l4 c4 k4
  have F5 := fun_mk (st := topS 9) l5 c5 k5
  have F6 := fun_mk (st := topS 10) l6 c6 k6
  have F7 := fun_mk (st := topS 11) l7 c7 k7
  have F8 := fun_mk (st := topS 12) l8 c8 k8
  have F9 := fun_mk (st := topS 13) l9 c9 k9
  have F10 := fun_mk (st := topS 14) l10 c10 k10
  have F11 := fun_mk (st := topS 15) l11 c11 k11
  have F12 := fun_mk (st := topS 17) l12 c12 k12
  have F13 := fun_mk (st := topS 18) l13 c13 k13
  have F14 := fun_mk (st := topS 19) l14 c14 k14
  have F15 := fun_mk (st := topS 20) l15 c15 k15
  have F16 := fun_mk (st := topS 21) l16 c16 k16
  have F17 := fun_mk (st := topS 22) l17 c17 k17
  have F18 := fun_mk (st := topS 23) l18 c18 k18
  have F19 := fun_mk (st := topS 24) l19 c19 k19
  have F20 := fun_mk (st := topS 25) l20 c20 k20
  have F21 := fun_mk (st := topS 26) l21 c21 k21
  have F22 := fun_mk (st := topS 27) l22 c22 k22
  have F23 := fun_mk (st := topS 28) l23 c23 k23
  have F24 := fun_mk (st := topS 29) l24 c24 k24
  have hd := defs_ok (P := l.prog) ⟨_, _, F0, PySem.W.mg_of X G a0⟩ ⟨_, _, F1, PySem.W.mg_of X G a1⟩ ⟨_, _, F2, PySem.W.mg_of X G a2⟩ ⟨_, _, F3, PySem.W.mg_of X G a3⟩ ⟨_, _, F4, PySem.W.mg_of X G a4⟩ ⟨_, _, F5, PySem.W.mg_of X G a5⟩ ⟨_, _, F6, PySem.W.mg_of X G a6⟩ ⟨_, _, F7, PySem.W.mg_of X G a7⟩ ⟨_, _, F8, PySem.W.mg_of X G a8⟩ ⟨_, _, F9, PySem.W.mg_of X G a9⟩ ⟨_, _, F10, PySem.W.mg_of X G a10⟩ ⟨_, _, F11, PySem.W.mg_of X G a11⟩ ⟨_, _, F12, PySem.W.mg_of X G a12⟩ ⟨_, _, F13, PySem.W.mg_of X G a13⟩ ⟨_, _, F14, PySem.W.mg_of X G a14⟩ ⟨_, _, F15, PySem.W.mg_of X G a15⟩ ⟨_, _, F16, PySem.W.mg_of X G a16⟩ ⟨_, _, F17, PySem.W.mg_of X G a17⟩ ⟨_, _, F18, PySem.W.mg_of X G a18⟩ ⟨_, _, F19, PySem.W.mg_of X G a19⟩ ⟨_, _, F20, PySem.W.mg_of X G a20⟩ ⟨_, _, F21, PySem.W.mg_of X G a21⟩ ⟨_, _, F22, PySem.W.mg_of X G a22⟩ ⟨_, _, F23, PySem.W.mg_of X G a23⟩ ⟨_, _, F24, PySem.W.mg_of X G a24⟩
  exact ⟨_, fun s v => .of_eq rfl, fun base _ _ => law_ok F24 sc_law rfl rfl ck_law hd (fun i x hx => match i, hx with | 0, hx => by cases hx; exact ⟨_, V.int 8, _, rfl, PySem.W.mg_of X G g0, ⟨_, rfl⟩, fun _ _ => .int _⟩ | 1, hx => by cases hx; exact ⟨_, V.int 40, _, rfl, PySem.W.mg_of X G g1, ⟨_, rfl⟩, fun _ _ => .int _⟩ | n + 2, hx => absurd hx (by intro h; cases h)) (fun x hx => PySem.W.mg_none_of X G (zs x hx)) rfl hlaw⟩
end
end VI
open PySem PySem.W PyProof.Rows
set_option maxHeartbeats 0 in
theorem PySem.Challenge.cw_shoplands_k58_whole_sorters_holds : PySem.Challenge.rw_shoplands_k58_whole_sorters.Holds := by
  w_on; o_law; k_head; (case hw => w_witness2)
  k_fill
  refine L2.walk_ofK (l := PySem.Challenge.rw_shoplands_k58_whole_sorters) (n := 63) (k := 99 + 1) (x := "script") (CX := L2.CX0) (sp := VI.spLaw 63) rfl (by decide) rfl ⟨rfl, by decide, by decide⟩ (fun w h Y => PySem.W.kIn_of Y) ?F (fun _ _ a ns hl hO hS => ⟨a, ns, rfl, hO, hS, hl, fun _ => rfl⟩) (fun _ _ _ _ h => h)
  case F =>
    intro w mg fa h KX G hmg
    refine' VI.all_mk KX G hmg ?a0 ?l0 ?c0 ?k0 ?a1 ?l1 ?c1 ?k1 ?a2 ?l2 ?c2 ?k2 ?a3 ?l3 ?c3 ?k3 ?a4 ?l4 ?c4 ?k4 ?a5 ?l5 ?c5 ?k5 ?a6 ?l6 ?c6 ?k6 ?a7 ?l7 ?c7 ?k7 ?a8 ?l8 ?c8 ?k8 ?a9 ?l9 ?c9 ?k9 ?a10 ?l10 ?c10 ?k10 ?a11 ?l11 ?c11 ?k11 ?a12 ?l12 ?c12 ?k12 ?a13 ?l13 ?c13 ?k13 ?a14 ?l14 ?c14 ?k14 ?a15 ?l15 ?c15 ?k15 ?a16 ?l16 ?c16 ?k16 ?a17 ?l17 ?c17 ?k17 ?a18 ?l18 ?c18 ?k18 ?a19 ?l19 ?c19 ?k19 ?a20 ?l20 ?c20 ?k20 ?a21 ?l21 ?c21 ?k21 ?a22 ?l22 ?c22 ?k22 ?a23 ?l23 ?c23 ?k23 ?a24 ?l24 ?c24 ?k24 ?z0 ?z1 ?z2 ?z3 ?z4 ?z5 ?z6 ?z7 ?z8 ?z9 ?z10 ?z11 ?z12 ?z13 ?z14 ?z15 ?z16 ?cst0 ?cst1 VI.law_holds
    (case a0 => k_is); (case l0 => k_is); (case c0 => k_is); (case k0 => k_is); (case a1 => k_is); (case l1 => k_is); (case c1 => k_is); (case k1 => k_is); (case a2 => k_is); (case l2 => k_is); (case c2 => k_is); (case k2 => k_is); (case a3 => k_is); (case l3 => k_is); (case c3 => k_is); (case k3 => k_is); (case a4 => k_is); (case l4 => k_is); (case c4 => k_is); (case k4 => k_is); (case a5 => k_is); (case l5 => k_is); (case c5 => k_is); (case k5 => k_is); (case a6 => k_is); (case l6 => k_is); (case c6 => k_is); (case k6 => k_is); (case a7 => k_is); (case l7 => k_is); (case c7 => k_is); (case k7 => k_is); (case a8 => k_is); (case l8 => k_is); (case c8 => k_is); (case k8 => k_is); (case a9 => k_is); (case l9 => k_is); (case c9 => k_is); (case k9 => k_is); (case a10 => k_is); (case l10 => k_is); (case c10 => k_is); (case k10 => k_is); (case a11 => k_is); (case l11 => k_is); (case c11 => k_is); (case k11 => k_is); (case a12 => k_is); (case l12 => k_is); (case c12 => k_is); (case k12 => k_is); (case a13 => k_is); (case l13 => k_is); (case c13 => k_is); (case k13 => k_is); (case a14 => k_is); (case l14 => k_is); (case c14 => k_is); (case k14 => k_is); (case a15 => k_is); (case l15 => k_is); (case c15 => k_is); (case k15 => k_is); (case a16 => k_is); (case l16 => k_is); (case c16 => k_is); (case k16 => k_is); (case a17 => k_is); (case l17 => k_is); (case c17 => k_is); (case k17 => k_is); (case a18 => k_is); (case l18 => k_is); (case c18 => k_is); (case k18 => k_is); (case a19 => k_is); (case l19 => k_is); (case c19 => k_is); (case k19 => k_is); (case a20 => k_is); (case l20 => k_is); (case c20 => k_is); (case k20 => k_is); (case a21 => k_is); (case l21 => k_is); (case c21 => k_is); (case k21 => k_is); (case a22 => k_is); (case l22 => k_is); (case c22 => k_is); (case k22 => k_is); (case a23 => k_is); (case l23 => k_is); (case c23 => k_is); (case k23 => k_is); (case a24 => k_is); (case l24 => k_is); (case c24 => k_is); (case k24 => k_is); (case z0 => k_is); (case z1 => k_is); (case z2 => k_is); (case z3 => k_is); (case z4 => k_is); (case z5 => k_is); (case z6 => k_is); (case z7 => k_is); (case z8 => k_is); (case z9 => k_is); (case z10 => k_is); (case z11 => k_is); (case z12 => k_is); (case z13 => k_is); (case z14 => k_is); (case z15 => k_is); (case z16 => k_is); (case cst0 => k_is); (case cst1 => k_is)
